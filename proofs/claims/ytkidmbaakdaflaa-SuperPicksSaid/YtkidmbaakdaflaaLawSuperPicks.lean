/- The law SuperPicks: of any two blocks the program says as the document does which super counts; a disk on which they are written loads it; nothing is loaded from, or stored on, a dead one, and none; the call returns true and leaves its arguments as they were. -/
import Derived.Test.YtkidmbaakdaflaaSuperD
import Derived.Test.YtkidmbaakdaflaaLaw
set_option linter.unusedSimpArgs false
set_option linter.unusedVariables false
namespace Go.Proofs.Ytkidmbaakdaflaa
open Go.ChangeShapes Go.WideShapes Go.ChangeAt Go.RowKit

section
theorem infLawSuperPicks_73 : Try.prog.info? 73 = some Try.t73 := by kernel_rfl
theorem infLawSuperPicks_75 : Try.prog.info? 75 = some Try.t75 := by kernel_rfl


def k1 (a : List UInt8) : Dk := ⟨(newD 3).L, [(0, a)], -1, false⟩
def k2 (a b : List UInt8) : Dk := ⟨(newD 3).L, [(0, a), (1, b)], -1, false⟩
theorem wr0 {a : List UInt8} (h : a.length = 64) : (newD 3).write 0 a = k1 a ∧ (newD 3).writeE 0 a = 0 := by
  obtain ⟨e1, e2⟩ := write_live (k := newD 3) (a := 0) (s := a) (by decide) h rfl
  exact ⟨e1, e2⟩
theorem wr1 {a b : List UInt8} (h : b.length = 64) : (k1 a).write 1 b = k2 a b ∧ (k1 a).writeE 1 b = 0 := by
  obtain ⟨e1, e2⟩ := write_live (k := k1 a) (a := 1) (s := b) (by show hasE (newD 3).L.length 1 = 0; decide) h rfl
  exact ⟨e1, e2⟩
theorem rd0 (a b : List UInt8) : (k2 a b).readS 0 = a ∧ (k2 a b).readE 0 = 0 := by
  obtain ⟨e1, e2⟩ := read_yes (k := k2 a b) (a := 0) (by show hasE (newD 3).L.length 0 = 0; decide) (by exact Bool.false_ne_true)
  exact ⟨e2, e1⟩
theorem rd1 (a b : List UInt8) : (k2 a b).readS 1 = b ∧ (k2 a b).readE 1 = 0 := by
  obtain ⟨e1, e2⟩ := read_yes (k := k2 a b) (a := 1) (by show hasE (newD 3).L.length 1 = 0; decide) (by exact Bool.false_ne_true)
  exact ⟨e2, e1⟩
theorem load_k2 (a b : List UInt8) : loadS (k2 a b) = pickS a b ∧ loadE (k2 a b) = if 0 < (pickS a b).seq then 0 else 18 := by
  unfold loadS loadE
  rw [(rd0 a b).1, (rd0 a b).2, (rd1 a b).1, (rd1 a b).2]
  simp
theorem store_dead {k : Dk} {s : Sp} (hs : MayS s) (hl : k.L.length = 3) (hd : spD k.fuse k.dead = true) : storeE k s = 21 := by
  have hp : hasE k.L.length ((s.seq : Int) % 2) = 0 := hasE_ok.2 (by rw [hl]; omega)
  obtain ⟨e1, e2⟩ := write_dead (a := (s.seq : Int) % 2) hp (encS_len hs) hd
  exact (store_w hs (by rw [e2]; simp)).2.trans e2
attribute [local irreducible] pickS decS

set_option maxRecDepth 100000 in
set_option maxHeartbeats 4000000 in
theorem superPicks_all (a b : List UInt8) (ha : a.length ≤ 9223372036854775807) (hb : b.length ≤ 9223372036854775807) (s : Sp) (hs : SpOk s) :
    Ct Try.prog 11 [.string (bs a), .string (bs b), .agg (spCells s).toArray] [] [] fun v post => v = .bool true ∧ post = [] := by
 have hpk := pickS_ok a b
 have hpq := hpk.q1
 refine ct_of Try.func11 rfl rfl (fun w0 => ?_)
 show G _ _ [(0, _), (1, _), (2, _)] _ _
 refine G_seq ?_
 refine G_region (l := [0, 1]) rfl ?_
 refine G_new rfl rfl rfl rfl (N_boxA rfl rfl) (fun b5 => ?_)
 refine G_val rfl rfl rfl rfl (V_assign rfl rfl) ?_
 refine G_done ?_
 refine G_seq ?_
 refine G_seq ?_
 refine G_region (l := [0, 1, 2, 3, 4, 5, 6, 7]) rfl ?_
 refine G_val rfl rfl rfl rfl (V_move rfl rfl) ?_
 refine G_val rfl rfl rfl rfl (V_slen rfl rfl Try.underlying9 rfl) ?_
 refine G_val rfl rfl rfl rfl (V_gtr rfl rfl rfl) ?_
 refine G_val rfl rfl rfl rfl (V_move rfl rfl) ?_
 refine G_splitD 22 rfl (fun hc1 => ?_) (fun hc1 => ?_)
 · skip
   refine G_off rfl rfl rfl rfl ?_
   refine G_off rfl rfl rfl rfl ?_
   refine G_off rfl rfl rfl rfl ?_
   refine G_val rfl rfl rfl rfl (V_pickT rfl rfl rfl) ?_
   refine G_done ?_
   refine G_then rfl ?_
   refine G_seq ?_
   refine G_region (l := [0, 1]) rfl ?_
   refine G_call (L2 := [_]) rfl rfl rfl rfl rfl rfl Try.call47 (sl_live) [] [] rfl rfl ?_
   rintro v post ⟨rfl, rfl⟩
   show G _ _ _ [_] _
   refine G_val rfl rfl rfl rfl (V_assign rfl rfl) ?_
   refine G_done ?_
   refine G_ret (post := []) Try.func11 rfl (RVs_cons (RV_tmp rfl) RVs_nil) [] rfl ?_
   dsimp only [packed]
   exact ⟨rfl, rfl⟩
 refine G_val rfl rfl rfl rfl (V_move rfl rfl) ?_
 refine G_val rfl rfl rfl rfl (V_slen rfl rfl Try.underlying9 rfl) ?_
 refine G_val rfl rfl rfl rfl (V_gtr rfl rfl rfl) ?_
 refine G_val rfl rfl rfl rfl (V_pickF rfl rfl rfl) ?_
 refine G_done ?_
 refine G_ifD rfl (fun hc2 => ?_) (fun hc2 => ?_)
 · skip
   refine G_seq ?_
   refine G_region (l := [0, 1]) rfl ?_
   refine G_call (L2 := [_]) rfl rfl rfl rfl rfl rfl Try.call47 (sl_live) [] [] rfl rfl ?_
   rintro v post ⟨rfl, rfl⟩
   show G _ _ _ [_] _
   refine G_val rfl rfl rfl rfl (V_assign rfl rfl) ?_
   refine G_done ?_
   refine G_ret (post := []) Try.func11 rfl (RVs_cons (RV_tmp rfl) RVs_nil) [] rfl ?_
   dsimp only [packed]
   exact ⟨rfl, rfl⟩
 refine G_skip ?_
 refine G_seq ?_
 refine G_region (l := [0, 1, 2, 3, 4, 5, 6, 7, 8]) rfl ?_
 refine G_val rfl rfl rfl rfl (V_move rfl rfl) ?_
 refine G_val rfl rfl rfl rfl (V_move rfl rfl) ?_
 refine G_call (L2 := [_]) rfl rfl rfl rfl rfl rfl Try.call56 (sup_pick a b ha hb) [] [] rfl rfl ?_
 rintro v post ⟨rfl, rfl⟩
 show G _ _ _ [_] _
 refine G_val rfl rfl rfl rfl (V_move rfl rfl) ?_
 refine G_val rfl rfl rfl rfl (V_extract rfl rfl rfl) ?_
 refine G_val rfl rfl rfl rfl (V_extract rfl rfl rfl) ?_
 refine G_new rfl rfl rfl rfl (N_allocA rfl infLawSuperPicks_75 rfl) (fun b7 => ?_)
 refine G_put (l1 := []) (L' := [_, _]) rfl rfl rfl rfl (P_storeA (s := 5) rfl rfl rfl (mem_at 0 rfl) (by first | rfl | (simp [bcells_length, spCells, pCells, spCells, pCells, wCells, kCells, wCells, kCells, wCells, kCells, spCells, pCells, wCells, kCells, spCells, pCells, wCells, kCells, spCells, pCells, wCells, kCells, spCells, pCells, wCells, kCells]; done) | (simp [bcells_length, spCells, pCells, spCells, pCells, wCells, kCells, wCells, kCells, wCells, kCells, spCells, pCells, wCells, kCells, spCells, pCells, wCells, kCells, spCells, pCells, wCells, kCells, spCells, pCells, wCells, kCells]; omega) | (simp [bcells_length, *, spCells, pCells, spCells, pCells, wCells, kCells, wCells, kCells, wCells, kCells, spCells, pCells, wCells, kCells, spCells, pCells, wCells, kCells, spCells, pCells, wCells, kCells, spCells, pCells, wCells, kCells]; done)) infLawSuperPicks_75 rfl (by first | rfl | (simp [bcells_length, spCells, pCells, spCells, pCells, wCells, kCells, wCells, kCells, wCells, kCells, spCells, pCells, wCells, kCells, spCells, pCells, wCells, kCells, spCells, pCells, wCells, kCells, spCells, pCells, wCells, kCells]; done) | (simp [bcells_length, spCells, pCells, spCells, pCells, wCells, kCells, wCells, kCells, wCells, kCells, spCells, pCells, wCells, kCells, spCells, pCells, wCells, kCells, spCells, pCells, wCells, kCells, spCells, pCells, wCells, kCells]; omega) | (simp [bcells_length, *, spCells, pCells, spCells, pCells, wCells, kCells, wCells, kCells, wCells, kCells, spCells, pCells, wCells, kCells, spCells, pCells, wCells, kCells, spCells, pCells, wCells, kCells, spCells, pCells, wCells, kCells]; done)) (by first | rfl | exact bcells_all _ | (simp [Value.oneCell', spCells, pCells, spCells, pCells, wCells, kCells, wCells, kCells, wCells, kCells, spCells, pCells, wCells, kCells, spCells, pCells, wCells, kCells, spCells, pCells, wCells, kCells, spCells, pCells, wCells, kCells]; done) | (simp [Value.oneCell', *, spCells, pCells, spCells, pCells, wCells, kCells, wCells, kCells, wCells, kCells, spCells, pCells, wCells, kCells, spCells, pCells, wCells, kCells, spCells, pCells, wCells, kCells, spCells, pCells, wCells, kCells]; done))) rfl ?_
 refine G_val rfl rfl rfl rfl (V_assign rfl rfl) ?_
 refine G_done ?_
 refine G_seq ?_
 refine G_region (l := [0, 1, 2, 3, 4]) rfl ?_
 refine G_val rfl rfl rfl rfl (V_move rfl rfl) ?_
 refine G_val rfl rfl rfl rfl (V_move rfl rfl) ?_
 refine G_call (L2 := [_, _]) rfl rfl rfl rfl rfl rfl Try.call57 (rsup_pick a b ha hb) [] [] rfl rfl ?_
 rintro v post ⟨rfl, rfl⟩
 show G _ _ _ [_, _] _
 refine G_new rfl rfl rfl rfl (N_allocA rfl infLawSuperPicks_75 rfl) (fun b9 => ?_)
 refine G_put (l1 := []) (L' := [_, _, _]) rfl rfl rfl rfl (P_storeA (s := 5) rfl rfl rfl (mem_at 0 rfl) (by first | rfl | (simp [bcells_length, spCells, pCells, spCells, pCells, wCells, kCells, wCells, kCells, wCells, kCells, spCells, pCells, wCells, kCells, spCells, pCells, wCells, kCells, spCells, pCells, wCells, kCells, spCells, pCells, wCells, kCells]; done) | (simp [bcells_length, spCells, pCells, spCells, pCells, wCells, kCells, wCells, kCells, wCells, kCells, spCells, pCells, wCells, kCells, spCells, pCells, wCells, kCells, spCells, pCells, wCells, kCells, spCells, pCells, wCells, kCells]; omega) | (simp [bcells_length, *, spCells, pCells, spCells, pCells, wCells, kCells, wCells, kCells, wCells, kCells, spCells, pCells, wCells, kCells, spCells, pCells, wCells, kCells, spCells, pCells, wCells, kCells, spCells, pCells, wCells, kCells]; done)) infLawSuperPicks_75 rfl (by first | rfl | (simp [bcells_length, spCells, pCells, spCells, pCells, wCells, kCells, wCells, kCells, wCells, kCells, spCells, pCells, wCells, kCells, spCells, pCells, wCells, kCells, spCells, pCells, wCells, kCells, spCells, pCells, wCells, kCells]; done) | (simp [bcells_length, spCells, pCells, spCells, pCells, wCells, kCells, wCells, kCells, wCells, kCells, spCells, pCells, wCells, kCells, spCells, pCells, wCells, kCells, spCells, pCells, wCells, kCells, spCells, pCells, wCells, kCells]; omega) | (simp [bcells_length, *, spCells, pCells, spCells, pCells, wCells, kCells, wCells, kCells, wCells, kCells, spCells, pCells, wCells, kCells, spCells, pCells, wCells, kCells, spCells, pCells, wCells, kCells, spCells, pCells, wCells, kCells]; done)) (by first | rfl | exact bcells_all _ | (simp [Value.oneCell', spCells, pCells, spCells, pCells, wCells, kCells, wCells, kCells, wCells, kCells, spCells, pCells, wCells, kCells, spCells, pCells, wCells, kCells, spCells, pCells, wCells, kCells, spCells, pCells, wCells, kCells]; done) | (simp [Value.oneCell', *, spCells, pCells, spCells, pCells, wCells, kCells, wCells, kCells, wCells, kCells, spCells, pCells, wCells, kCells, spCells, pCells, wCells, kCells, spCells, pCells, wCells, kCells, spCells, pCells, wCells, kCells]; done))) rfl ?_
 refine G_done ?_
 refine G_seq ?_
 refine G_seq ?_
 refine G_region (l := [0, 1, 2, 3, 4, 5, 6, 7, 8, 9]) rfl ?_
 first
   | refine G_val rfl rfl rfl rfl (V_loadW (s := 5) rfl rfl (mem_at 1 rfl) Try.underlying75 rfl infLawSuperPicks_75 rfl (by first | rfl | (simp [bcells_length, spCells, pCells, spCells, pCells, wCells, kCells, wCells, kCells, wCells, kCells, spCells, pCells, wCells, kCells, spCells, pCells, wCells, kCells, spCells, pCells, wCells, kCells, spCells, pCells, wCells, kCells]; done) | (simp [bcells_length, spCells, pCells, spCells, pCells, wCells, kCells, wCells, kCells, wCells, kCells, spCells, pCells, wCells, kCells, spCells, pCells, wCells, kCells, spCells, pCells, wCells, kCells, spCells, pCells, wCells, kCells]; omega) | (simp [bcells_length, *, spCells, pCells, spCells, pCells, wCells, kCells, wCells, kCells, wCells, kCells, spCells, pCells, wCells, kCells, spCells, pCells, wCells, kCells, spCells, pCells, wCells, kCells, spCells, pCells, wCells, kCells]; done))) ?_
   | refine G_val rfl rfl rfl rfl (V_loadA (s := 5) rfl rfl (mem_at 1 rfl) Try.underlying75 rfl infLawSuperPicks_75 rfl rfl (by first | rfl | (simp [bcells_length, spCells, pCells, spCells, pCells, wCells, kCells, wCells, kCells, wCells, kCells, spCells, pCells, wCells, kCells, spCells, pCells, wCells, kCells, spCells, pCells, wCells, kCells, spCells, pCells, wCells, kCells]; done) | (simp [bcells_length, spCells, pCells, spCells, pCells, wCells, kCells, wCells, kCells, wCells, kCells, spCells, pCells, wCells, kCells, spCells, pCells, wCells, kCells, spCells, pCells, wCells, kCells, spCells, pCells, wCells, kCells]; omega) | (simp [bcells_length, *, spCells, pCells, spCells, pCells, wCells, kCells, wCells, kCells, wCells, kCells, spCells, pCells, wCells, kCells, spCells, pCells, wCells, kCells, spCells, pCells, wCells, kCells, spCells, pCells, wCells, kCells]; done))) ?_
 first
   | refine G_val rfl rfl rfl rfl (V_loadW (s := 5) rfl rfl (mem_at 0 rfl) Try.underlying75 rfl infLawSuperPicks_75 rfl (by first | rfl | (simp [bcells_length, spCells, pCells, spCells, pCells, wCells, kCells, wCells, kCells, wCells, kCells, spCells, pCells, wCells, kCells, spCells, pCells, wCells, kCells, spCells, pCells, wCells, kCells, spCells, pCells, wCells, kCells]; done) | (simp [bcells_length, spCells, pCells, spCells, pCells, wCells, kCells, wCells, kCells, wCells, kCells, spCells, pCells, wCells, kCells, spCells, pCells, wCells, kCells, spCells, pCells, wCells, kCells, spCells, pCells, wCells, kCells]; omega) | (simp [bcells_length, *, spCells, pCells, spCells, pCells, wCells, kCells, wCells, kCells, wCells, kCells, spCells, pCells, wCells, kCells, spCells, pCells, wCells, kCells, spCells, pCells, wCells, kCells, spCells, pCells, wCells, kCells]; done))) ?_
   | refine G_val rfl rfl rfl rfl (V_loadA (s := 5) rfl rfl (mem_at 0 rfl) Try.underlying75 rfl infLawSuperPicks_75 rfl rfl (by first | rfl | (simp [bcells_length, spCells, pCells, spCells, pCells, wCells, kCells, wCells, kCells, wCells, kCells, spCells, pCells, wCells, kCells, spCells, pCells, wCells, kCells, spCells, pCells, wCells, kCells, spCells, pCells, wCells, kCells]; done) | (simp [bcells_length, spCells, pCells, spCells, pCells, wCells, kCells, wCells, kCells, wCells, kCells, spCells, pCells, wCells, kCells, spCells, pCells, wCells, kCells, spCells, pCells, wCells, kCells, spCells, pCells, wCells, kCells]; omega) | (simp [bcells_length, *, spCells, pCells, spCells, pCells, wCells, kCells, wCells, kCells, wCells, kCells, spCells, pCells, wCells, kCells, spCells, pCells, wCells, kCells, spCells, pCells, wCells, kCells, spCells, pCells, wCells, kCells]; done))) ?_
 refine G_val rfl rfl rfl rfl (V_aggneq (m := 6) rfl Try.eqGuardType75 (by kernel_rfl) (by decide) (formed_of Try.underlying75 rfl (by kernel_rfl : Try.prog.cellsOf 75 = 5) (by first | rfl | (simp [bcells_length, spCells, pCells, spCells, pCells, wCells, kCells, wCells, kCells, wCells, kCells, spCells, pCells, wCells, kCells, spCells, pCells, wCells, kCells, spCells, pCells, wCells, kCells, spCells, pCells, wCells, kCells]; done) | (simp [bcells_length, spCells, pCells, spCells, pCells, wCells, kCells, wCells, kCells, wCells, kCells, spCells, pCells, wCells, kCells, spCells, pCells, wCells, kCells, spCells, pCells, wCells, kCells, spCells, pCells, wCells, kCells]; omega) | (simp [bcells_length, *, spCells, pCells, spCells, pCells, wCells, kCells, wCells, kCells, wCells, kCells, spCells, pCells, wCells, kCells, spCells, pCells, wCells, kCells, spCells, pCells, wCells, kCells, spCells, pCells, wCells, kCells]; done))) (formed_of Try.underlying75 rfl (by kernel_rfl : Try.prog.cellsOf 75 = 5) (by first | rfl | (simp [bcells_length, spCells, pCells, spCells, pCells, wCells, kCells, wCells, kCells, wCells, kCells, spCells, pCells, wCells, kCells, spCells, pCells, wCells, kCells, spCells, pCells, wCells, kCells, spCells, pCells, wCells, kCells]; done) | (simp [bcells_length, spCells, pCells, spCells, pCells, wCells, kCells, wCells, kCells, wCells, kCells, spCells, pCells, wCells, kCells, spCells, pCells, wCells, kCells, spCells, pCells, wCells, kCells, spCells, pCells, wCells, kCells]; omega) | (simp [bcells_length, *, spCells, pCells, spCells, pCells, wCells, kCells, wCells, kCells, wCells, kCells, spCells, pCells, wCells, kCells, spCells, pCells, wCells, kCells, spCells, pCells, wCells, kCells, spCells, pCells, wCells, kCells]; done))) rfl rfl (key_sp _ hpk) (key_sp _ hpk)) ?_
 refine G_val rfl rfl rfl rfl (V_move rfl rfl) ?_
 refine G_splitD 40 rfl (fun hc3 => ?_) (fun hc3 => ?_)
 · (first | (exact absurd rfl hc3) | (exact absurd hc3 (by decide)) | (exact absurd (by decide) hc3) | (simp at hc3; omega) | (exfalso; omega))
 refine G_val rfl rfl rfl rfl (V_move rfl rfl) ?_
 refine G_val rfl rfl rfl rfl (V_fieldAddr (fo := 0) rfl Try.underlying75 rfl infLawSuperPicks_73 rfl rfl rfl) ?_
 refine G_val rfl rfl rfl rfl (V_load1 rfl rfl (mem_at 0 rfl) rfl Try.underlying73 rfl) ?_
 refine G_val rfl rfl rfl rfl (V_gtr rfl rfl rfl) ?_
 refine G_val rfl rfl rfl rfl (V_bneq rfl Try.underlying4 rfl rfl) ?_
 refine G_val rfl rfl rfl rfl (V_pickF rfl rfl rfl) ?_
 refine G_done ?_
 refine G_ifD rfl (fun hc4 => ?_) (fun hc4 => ?_)
 · (first | (exact absurd rfl hc4) | (exact absurd hc4 (by decide)) | (exact absurd (by decide) hc4) | (simp at hc4; omega) | (exfalso; omega))
 refine G_skip ?_
 refine G_seq ?_
 refine G_seq ?_
 refine G_region (l := [0, 1, 2, 3, 4, 5, 6, 7]) rfl ?_
 refine G_val rfl rfl rfl rfl (V_move rfl rfl) ?_
 refine G_val rfl rfl rfl rfl (V_slen rfl rfl Try.underlying9 rfl) ?_
 refine G_val rfl rfl rfl rfl (V_eql rfl rfl rfl) ?_
 refine G_val rfl rfl rfl rfl (V_move rfl rfl) ?_
 refine G_splitD 50 rfl (fun hc5 => ?_) (fun hc5 => ?_)
 · skip
   refine G_val rfl rfl rfl rfl (V_move rfl rfl) ?_
   refine G_val rfl rfl rfl rfl (V_slen rfl rfl Try.underlying9 rfl) ?_
   refine G_val rfl rfl rfl rfl (V_eql rfl rfl rfl) ?_
   refine G_val rfl rfl rfl rfl (V_pickT rfl rfl rfl) ?_
   refine G_done ?_
   refine G_ifD rfl (fun hc6 => ?_) (fun hc6 => ?_)
   · skip
     refine G_seq ?_
     have hla : a.length = 64 := by omega
     have hlb : b.length = 64 := by omega
     refine G_region (l := [0, 1, 2, 3, 4, 5]) rfl ?_
     refine G_call (L2 := [_, _, _]) rfl rfl rfl rfl rfl rfl Try.call32 (dk_new 3 (by omega) (by omega)) [] [] rfl rfl ?_
     rintro v post ⟨d1, lb1, cap1, cs1, rfl, h1, rfl⟩
     show G _ _ _ [_, _, _, _, _, _] _
     refine G_val rfl rfl rfl rfl (V_move rfl rfl) ?_
     refine G_val rfl rfl rfl rfl (V_extract rfl rfl rfl) ?_
     refine G_val rfl rfl rfl rfl (V_extract rfl rfl rfl) ?_
     refine G_val rfl rfl rfl rfl (V_assign rfl rfl) ?_
     refine G_val rfl rfl rfl rfl (V_assign rfl rfl) ?_
     refine G_done ?_
     refine G_seq ?_
     have hla0 : a.length = 64 := by omega
     refine G_region (l := [0, 1, 2, 3, 4, 5, 6, 7]) rfl ?_
     refine G_val rfl rfl rfl rfl (V_move rfl rfl) ?_
     refine G_val rfl rfl rfl rfl (V_move rfl rfl) ?_
     refine G_call (L2 := [_, _, _]) rfl rfl rfl rfl rfl rfl Try.call43 ((dk_write d1 3 lb1 cap1 cs1 slNil (newD 3) h1 0 a (by decide)).weaken (fun v post h => by rw [(wr0 hla).1, (wr0 hla).2] at h; exact h)) [0, 0, 0] [] rfl rfl ?_
     rintro v post ⟨rfl, cs1, uw1, h1, rfl⟩
     show G _ _ _ [_, _, _, _, _, _] _
     refine G_val rfl rfl rfl rfl (V_move rfl rfl) ?_
     refine G_val rfl rfl rfl rfl (V_move rfl rfl) ?_
     refine G_call (L2 := [_, _, _]) rfl rfl rfl rfl rfl rfl Try.call43 ((dk_write d1 3 lb1 cap1 cs1 uw1 (k1 a) h1 1 b (by show 1 ≤ 1000000; omega)).weaken (fun v post h => by rw [(wr1 hlb).1, (wr1 hlb).2] at h; exact h)) [0, 0, 0] [] rfl rfl ?_
     rintro v post ⟨rfl, cs1, uw1, h1, rfl⟩
     show G _ _ _ [_, _, _, _, _, _] _
     refine G_val rfl rfl rfl rfl (V_assign rfl rfl) ?_
     refine G_val rfl rfl rfl rfl (V_assign rfl rfl) ?_
     refine G_done ?_
     refine G_seq ?_
     by_cases hps : 0 < (pickS a b).seq
     · skip
       refine G_region (l := [0, 1, 2, 3, 4, 5, 6, 7]) rfl ?_
       refine G_val rfl rfl rfl rfl (V_move rfl rfl) ?_
       refine G_call (L2 := [_, _, _, _, _, _]) rfl rfl rfl rfl rfl rfl Try.call58 ((sup_load d1 3 lb1 cap1 cs1 uw1 (k2 a b) h1).weaken (fun v post h => by rw [(load_k2 a b).1, (load_k2 a b).2, if_pos hps] at h; exact h)) [] [0, 1, 2] rfl rfl ?_
       rintro v post ⟨rfl, rfl⟩
       show G _ _ _ [_, _, _, _, _, _] _
       refine G_val rfl rfl rfl rfl (V_move rfl rfl) ?_
       refine G_val rfl rfl rfl rfl (V_extract rfl rfl rfl) ?_
       refine G_val rfl rfl rfl rfl (V_extract rfl rfl rfl) ?_
       refine G_new rfl rfl rfl rfl (N_allocA rfl infLawSuperPicks_75 rfl) (fun b14 => ?_)
       refine G_put (l1 := []) (L' := [_, _, _, _, _, _, _]) rfl rfl rfl rfl (P_storeA (s := 5) rfl rfl rfl (mem_at 0 rfl) (by first | rfl | (simp [bcells_length, spCells, pCells, spCells, pCells, wCells, kCells, wCells, kCells, wCells, kCells, spCells, pCells, wCells, kCells, spCells, pCells, wCells, kCells, spCells, pCells, wCells, kCells, spCells, pCells, wCells, kCells]; done) | (simp [bcells_length, spCells, pCells, spCells, pCells, wCells, kCells, wCells, kCells, wCells, kCells, spCells, pCells, wCells, kCells, spCells, pCells, wCells, kCells, spCells, pCells, wCells, kCells, spCells, pCells, wCells, kCells]; omega) | (simp [bcells_length, *, spCells, pCells, spCells, pCells, wCells, kCells, wCells, kCells, wCells, kCells, spCells, pCells, wCells, kCells, spCells, pCells, wCells, kCells, spCells, pCells, wCells, kCells, spCells, pCells, wCells, kCells]; done)) infLawSuperPicks_75 rfl (by first | rfl | (simp [bcells_length, spCells, pCells, spCells, pCells, wCells, kCells, wCells, kCells, wCells, kCells, spCells, pCells, wCells, kCells, spCells, pCells, wCells, kCells, spCells, pCells, wCells, kCells, spCells, pCells, wCells, kCells]; done) | (simp [bcells_length, spCells, pCells, spCells, pCells, wCells, kCells, wCells, kCells, wCells, kCells, spCells, pCells, wCells, kCells, spCells, pCells, wCells, kCells, spCells, pCells, wCells, kCells, spCells, pCells, wCells, kCells]; omega) | (simp [bcells_length, *, spCells, pCells, spCells, pCells, wCells, kCells, wCells, kCells, wCells, kCells, spCells, pCells, wCells, kCells, spCells, pCells, wCells, kCells, spCells, pCells, wCells, kCells, spCells, pCells, wCells, kCells]; done)) (by first | rfl | exact bcells_all _ | (simp [Value.oneCell', spCells, pCells, spCells, pCells, wCells, kCells, wCells, kCells, wCells, kCells, spCells, pCells, wCells, kCells, spCells, pCells, wCells, kCells, spCells, pCells, wCells, kCells, spCells, pCells, wCells, kCells]; done) | (simp [Value.oneCell', *, spCells, pCells, spCells, pCells, wCells, kCells, wCells, kCells, wCells, kCells, spCells, pCells, wCells, kCells, spCells, pCells, wCells, kCells, spCells, pCells, wCells, kCells, spCells, pCells, wCells, kCells]; done))) rfl ?_
       refine G_val rfl rfl rfl rfl (V_assign rfl rfl) ?_
       refine G_done ?_
       refine G_seq ?_
       refine G_seq ?_
       refine G_region (l := [0, 1, 2, 3, 4, 5, 6, 7, 8, 9, 10, 11, 12, 13, 14, 15, 16, 17, 18, 19, 20, 21, 22, 23, 24, 25, 26, 27, 28, 29, 30, 31, 32, 33, 34]) rfl ?_
       refine G_val rfl rfl rfl rfl (V_move rfl rfl) ?_
       refine G_call (L2 := [_, _, _, _, _, _, _]) rfl rfl rfl rfl rfl rfl Try.call52 (sl_num _) [] [] rfl rfl ?_
       rintro v post ⟨rfl, rfl⟩
       show G _ _ _ [_, _, _, _, _, _, _] _
       refine G_val rfl rfl rfl rfl (V_neq rfl rfl rfl) ?_
       refine G_val rfl rfl rfl rfl (V_move rfl rfl) ?_
       refine G_splitD 73 rfl (fun hc7 => ?_) (fun hc7 => ?_)
       · (first | (exact absurd rfl hc7) | (exact absurd hc7 (by decide)) | (exact absurd (by decide) hc7) | (simp at hc7; omega) | (exfalso; omega))
       refine G_val rfl rfl rfl rfl (V_move rfl rfl) ?_
       refine G_call (L2 := [_, _, _, _, _, _, _]) rfl rfl rfl rfl rfl rfl Try.call52 (sl_num _) [] [] rfl rfl ?_
       rintro v post ⟨rfl, rfl⟩
       show G _ _ _ [_, _, _, _, _, _, _] _
       refine G_val rfl rfl rfl rfl (V_neq rfl rfl rfl) ?_
       refine G_val rfl rfl rfl rfl (V_pickF rfl rfl rfl) ?_
       refine G_val rfl rfl rfl rfl (V_move rfl rfl) ?_
       refine G_splitD 78 rfl (fun hc8 => ?_) (fun hc8 => ?_)
       · (first | (exact absurd rfl hc8) | (exact absurd hc8 (by decide)) | (exact absurd (by decide) hc8) | (simp at hc8; omega) | (exfalso; omega))
       refine G_val rfl rfl rfl rfl (V_move rfl rfl) ?_
       refine G_call (L2 := [_, _, _, _, _, _, _]) rfl rfl rfl rfl rfl rfl Try.call52 (sl_num _) [] [] rfl rfl ?_
       rintro v post ⟨rfl, rfl⟩
       show G _ _ _ [_, _, _, _, _, _, _] _
       refine G_val rfl rfl rfl rfl (V_neq rfl rfl rfl) ?_
       refine G_val rfl rfl rfl rfl (V_pickF rfl rfl rfl) ?_
       refine G_val rfl rfl rfl rfl (V_move rfl rfl) ?_
       refine G_splitD 83 rfl (fun hc9 => ?_) (fun hc9 => ?_)
       · (first | (exact absurd rfl hc9) | (exact absurd hc9 (by decide)) | (exact absurd (by decide) hc9) | (simp at hc9; omega) | (exfalso; omega))
       first
         | refine G_val rfl rfl rfl rfl (V_loadW (s := 5) rfl rfl (mem_at 0 rfl) Try.underlying75 rfl infLawSuperPicks_75 rfl (by first | rfl | (simp [bcells_length, spCells, pCells, spCells, pCells, wCells, kCells, wCells, kCells, wCells, kCells, spCells, pCells, wCells, kCells, spCells, pCells, wCells, kCells, spCells, pCells, wCells, kCells, spCells, pCells, wCells, kCells]; done) | (simp [bcells_length, spCells, pCells, spCells, pCells, wCells, kCells, wCells, kCells, wCells, kCells, spCells, pCells, wCells, kCells, spCells, pCells, wCells, kCells, spCells, pCells, wCells, kCells, spCells, pCells, wCells, kCells]; omega) | (simp [bcells_length, *, spCells, pCells, spCells, pCells, wCells, kCells, wCells, kCells, wCells, kCells, spCells, pCells, wCells, kCells, spCells, pCells, wCells, kCells, spCells, pCells, wCells, kCells, spCells, pCells, wCells, kCells]; done))) ?_
         | refine G_val rfl rfl rfl rfl (V_loadA (s := 5) rfl rfl (mem_at 0 rfl) Try.underlying75 rfl infLawSuperPicks_75 rfl rfl (by first | rfl | (simp [bcells_length, spCells, pCells, spCells, pCells, wCells, kCells, wCells, kCells, wCells, kCells, spCells, pCells, wCells, kCells, spCells, pCells, wCells, kCells, spCells, pCells, wCells, kCells, spCells, pCells, wCells, kCells]; done) | (simp [bcells_length, spCells, pCells, spCells, pCells, wCells, kCells, wCells, kCells, wCells, kCells, spCells, pCells, wCells, kCells, spCells, pCells, wCells, kCells, spCells, pCells, wCells, kCells, spCells, pCells, wCells, kCells]; omega) | (simp [bcells_length, *, spCells, pCells, spCells, pCells, wCells, kCells, wCells, kCells, wCells, kCells, spCells, pCells, wCells, kCells, spCells, pCells, wCells, kCells, spCells, pCells, wCells, kCells, spCells, pCells, wCells, kCells]; done))) ?_
       first
         | refine G_val rfl rfl rfl rfl (V_loadW (s := 5) rfl rfl (mem_at 4 rfl) Try.underlying75 rfl infLawSuperPicks_75 rfl (by first | rfl | (simp [bcells_length, spCells, pCells, spCells, pCells, wCells, kCells, wCells, kCells, wCells, kCells, spCells, pCells, wCells, kCells, spCells, pCells, wCells, kCells, spCells, pCells, wCells, kCells, spCells, pCells, wCells, kCells]; done) | (simp [bcells_length, spCells, pCells, spCells, pCells, wCells, kCells, wCells, kCells, wCells, kCells, spCells, pCells, wCells, kCells, spCells, pCells, wCells, kCells, spCells, pCells, wCells, kCells, spCells, pCells, wCells, kCells]; omega) | (simp [bcells_length, *, spCells, pCells, spCells, pCells, wCells, kCells, wCells, kCells, wCells, kCells, spCells, pCells, wCells, kCells, spCells, pCells, wCells, kCells, spCells, pCells, wCells, kCells, spCells, pCells, wCells, kCells]; done))) ?_
         | refine G_val rfl rfl rfl rfl (V_loadA (s := 5) rfl rfl (mem_at 4 rfl) Try.underlying75 rfl infLawSuperPicks_75 rfl rfl (by first | rfl | (simp [bcells_length, spCells, pCells, spCells, pCells, wCells, kCells, wCells, kCells, wCells, kCells, spCells, pCells, wCells, kCells, spCells, pCells, wCells, kCells, spCells, pCells, wCells, kCells, spCells, pCells, wCells, kCells]; done) | (simp [bcells_length, spCells, pCells, spCells, pCells, wCells, kCells, wCells, kCells, wCells, kCells, spCells, pCells, wCells, kCells, spCells, pCells, wCells, kCells, spCells, pCells, wCells, kCells, spCells, pCells, wCells, kCells]; omega) | (simp [bcells_length, *, spCells, pCells, spCells, pCells, wCells, kCells, wCells, kCells, wCells, kCells, spCells, pCells, wCells, kCells, spCells, pCells, wCells, kCells, spCells, pCells, wCells, kCells, spCells, pCells, wCells, kCells]; done))) ?_
       refine G_val rfl rfl rfl rfl (V_aggneq (m := 6) rfl Try.eqGuardType75 (by kernel_rfl) (by decide) (formed_of Try.underlying75 rfl (by kernel_rfl : Try.prog.cellsOf 75 = 5) (by first | rfl | (simp [bcells_length, spCells, pCells, spCells, pCells, wCells, kCells, wCells, kCells, wCells, kCells, spCells, pCells, wCells, kCells, spCells, pCells, wCells, kCells, spCells, pCells, wCells, kCells, spCells, pCells, wCells, kCells]; done) | (simp [bcells_length, spCells, pCells, spCells, pCells, wCells, kCells, wCells, kCells, wCells, kCells, spCells, pCells, wCells, kCells, spCells, pCells, wCells, kCells, spCells, pCells, wCells, kCells, spCells, pCells, wCells, kCells]; omega) | (simp [bcells_length, *, spCells, pCells, spCells, pCells, wCells, kCells, wCells, kCells, wCells, kCells, spCells, pCells, wCells, kCells, spCells, pCells, wCells, kCells, spCells, pCells, wCells, kCells, spCells, pCells, wCells, kCells]; done))) (formed_of Try.underlying75 rfl (by kernel_rfl : Try.prog.cellsOf 75 = 5) (by first | rfl | (simp [bcells_length, spCells, pCells, spCells, pCells, wCells, kCells, wCells, kCells, wCells, kCells, spCells, pCells, wCells, kCells, spCells, pCells, wCells, kCells, spCells, pCells, wCells, kCells, spCells, pCells, wCells, kCells]; done) | (simp [bcells_length, spCells, pCells, spCells, pCells, wCells, kCells, wCells, kCells, wCells, kCells, spCells, pCells, wCells, kCells, spCells, pCells, wCells, kCells, spCells, pCells, wCells, kCells, spCells, pCells, wCells, kCells]; omega) | (simp [bcells_length, *, spCells, pCells, spCells, pCells, wCells, kCells, wCells, kCells, wCells, kCells, spCells, pCells, wCells, kCells, spCells, pCells, wCells, kCells, spCells, pCells, wCells, kCells, spCells, pCells, wCells, kCells]; done))) rfl rfl (key_sp _ hpk) (key_sp _ hpk)) ?_
       refine G_val rfl rfl rfl rfl (V_pickF rfl rfl rfl) ?_
       refine G_val rfl rfl rfl rfl (V_move rfl rfl) ?_
       refine G_splitD 88 rfl (fun hc10 => ?_) (fun hc10 => ?_)
       · (first | (exact absurd rfl hc10) | (exact absurd hc10 (by decide)) | (exact absurd (by decide) hc10) | (simp at hc10; omega) | (exfalso; omega))
       refine G_val rfl rfl rfl rfl (V_move rfl rfl) ?_
       refine G_val rfl rfl rfl rfl (V_move rfl rfl) ?_
       refine G_split 90 rfl (fun hc11 => ?_) (fun hc11 => ?_)
       rotate_left
       · (first | (exact absurd rfl hc11) | (exact absurd hc11 (by decide)) | (exact absurd (by decide) hc11) | (simp at hc11; omega) | (exfalso; omega))
       refine G_val rfl rfl rfl rfl (V_move rfl rfl) ?_
       refine G_call (L2 := [_, _, _, _, _, _, _]) rfl rfl rfl rfl rfl rfl Try.call52 (sl_num _) [] [] rfl rfl ?_
       rintro v post ⟨rfl, rfl⟩
       show G _ _ _ [_, _, _, _, _, _, _] _
       refine G_val rfl rfl rfl rfl (V_neq rfl rfl rfl) ?_
       refine G_val rfl rfl rfl rfl (V_pickT rfl rfl rfl) ?_
       refine G_val rfl rfl rfl rfl (V_pickF rfl rfl rfl) ?_
       refine G_val rfl rfl rfl rfl (V_move rfl rfl) ?_
       refine G_splitD 96 rfl (fun hc12 => ?_) (fun hc12 => ?_)
       · (first | (exact absurd rfl hc12) | (exact absurd hc12 (by decide)) | (exact absurd (by decide) hc12) | (simp at hc12; omega) | (exfalso; omega))
       refine G_val rfl rfl rfl rfl (V_move rfl rfl) ?_
       refine G_val rfl rfl rfl rfl (V_not rfl rfl) ?_
       refine G_val rfl rfl rfl rfl (V_move rfl rfl) ?_
       refine G_split 99 rfl (fun hc13 => ?_) (fun hc13 => ?_)
       · (first | (exact absurd rfl hc13) | (exact absurd hc13 (by decide)) | (exact absurd (by decide) hc13) | (simp at hc13; omega) | (exfalso; omega))
       refine G_off rfl rfl rfl rfl ?_
       refine G_off rfl rfl rfl rfl ?_
       refine G_off rfl rfl rfl rfl ?_
       refine G_val rfl rfl rfl rfl (V_pickF rfl rfl rfl) ?_
       refine G_val rfl rfl rfl rfl (V_pickF rfl rfl rfl) ?_
       refine G_done ?_
       refine G_else rfl ?_
       refine G_skip ?_
       refine G_seq ?_
       refine G_region (l := [0, 1]) rfl ?_
       refine G_val rfl rfl rfl rfl (V_move rfl rfl) ?_
       refine G_call (L2 := [_, _, _, _, _, _]) rfl rfl rfl rfl rfl rfl Try.call42 (dk_fuse d1 3 lb1 cap1 cs1 uw1 (k2 a b) h1 0) [1] [] rfl rfl ?_
       rintro v post ⟨rfl, rfl⟩
       show G _ _ _ [_, _, _, _, _, _, _] _
       replace h1 := setFuse_at h1 (z := 0) (by omega)
       refine G_done ?_
       refine G_seq ?_
       by_cases hm : MayS s
       · skip
         refine G_region (l := [0, 1, 2, 3]) rfl ?_
         refine G_val rfl rfl rfl rfl (V_move rfl rfl) ?_
         first
           | refine G_val rfl rfl rfl rfl (V_loadW (s := 5) rfl rfl (mem_at 6 rfl) Try.underlying75 rfl infLawSuperPicks_75 rfl (by first | rfl | (simp [bcells_length, spCells, pCells, spCells, pCells, wCells, kCells, wCells, kCells, wCells, kCells, spCells, pCells, wCells, kCells, spCells, pCells, wCells, kCells, spCells, pCells, wCells, kCells, spCells, pCells, wCells, kCells]; done) | (simp [bcells_length, spCells, pCells, spCells, pCells, wCells, kCells, wCells, kCells, wCells, kCells, spCells, pCells, wCells, kCells, spCells, pCells, wCells, kCells, spCells, pCells, wCells, kCells, spCells, pCells, wCells, kCells]; omega) | (simp [bcells_length, *, spCells, pCells, spCells, pCells, wCells, kCells, wCells, kCells, wCells, kCells, spCells, pCells, wCells, kCells, spCells, pCells, wCells, kCells, spCells, pCells, wCells, kCells, spCells, pCells, wCells, kCells]; done))) ?_
           | refine G_val rfl rfl rfl rfl (V_loadA (s := 5) rfl rfl (mem_at 6 rfl) Try.underlying75 rfl infLawSuperPicks_75 rfl rfl (by first | rfl | (simp [bcells_length, spCells, pCells, spCells, pCells, wCells, kCells, wCells, kCells, wCells, kCells, spCells, pCells, wCells, kCells, spCells, pCells, wCells, kCells, spCells, pCells, wCells, kCells, spCells, pCells, wCells, kCells]; done) | (simp [bcells_length, spCells, pCells, spCells, pCells, wCells, kCells, wCells, kCells, wCells, kCells, spCells, pCells, wCells, kCells, spCells, pCells, wCells, kCells, spCells, pCells, wCells, kCells, spCells, pCells, wCells, kCells]; omega) | (simp [bcells_length, *, spCells, pCells, spCells, pCells, wCells, kCells, wCells, kCells, wCells, kCells, spCells, pCells, wCells, kCells, spCells, pCells, wCells, kCells, spCells, pCells, wCells, kCells, spCells, pCells, wCells, kCells]; done))) ?_
         refine G_call (L2 := [_, _, _, _]) rfl rfl rfl rfl rfl rfl Try.call59 ((sup_store d1 3 lb1 cap1 cs1 uw1 ((k2 a b).setFuse 0) h1 s hs (by show 2 ≤ 1000000; omega)).weaken (fun v post h => by rw [store_dead hm rfl rfl] at h; exact h)) [0, 1, 1] [] rfl rfl ?_
         rintro v post ⟨rfl, cs1, uw1, h1, rfl⟩
         show G _ _ _ [_, _, _, _, _, _, _] _
         refine G_val rfl rfl rfl rfl (V_assign rfl rfl) ?_
         refine G_done ?_
         refine G_seq ?_
         refine G_region (l := [0, 1, 2, 3, 4, 5, 6, 7, 8, 9, 10, 11, 12, 13, 14, 15, 16]) rfl ?_
         first
           | refine G_val rfl rfl rfl rfl (V_loadW (s := 5) rfl rfl (mem_at 6 rfl) Try.underlying75 rfl infLawSuperPicks_75 rfl (by first | rfl | (simp [bcells_length, spCells, pCells, spCells, pCells, wCells, kCells, wCells, kCells, wCells, kCells, spCells, pCells, wCells, kCells, spCells, pCells, wCells, kCells, spCells, pCells, wCells, kCells, spCells, pCells, wCells, kCells]; done) | (simp [bcells_length, spCells, pCells, spCells, pCells, wCells, kCells, wCells, kCells, wCells, kCells, spCells, pCells, wCells, kCells, spCells, pCells, wCells, kCells, spCells, pCells, wCells, kCells, spCells, pCells, wCells, kCells]; omega) | (simp [bcells_length, *, spCells, pCells, spCells, pCells, wCells, kCells, wCells, kCells, wCells, kCells, spCells, pCells, wCells, kCells, spCells, pCells, wCells, kCells, spCells, pCells, wCells, kCells, spCells, pCells, wCells, kCells]; done))) ?_
           | refine G_val rfl rfl rfl rfl (V_loadA (s := 5) rfl rfl (mem_at 6 rfl) Try.underlying75 rfl infLawSuperPicks_75 rfl rfl (by first | rfl | (simp [bcells_length, spCells, pCells, spCells, pCells, wCells, kCells, wCells, kCells, wCells, kCells, spCells, pCells, wCells, kCells, spCells, pCells, wCells, kCells, spCells, pCells, wCells, kCells, spCells, pCells, wCells, kCells]; done) | (simp [bcells_length, spCells, pCells, spCells, pCells, wCells, kCells, wCells, kCells, wCells, kCells, spCells, pCells, wCells, kCells, spCells, pCells, wCells, kCells, spCells, pCells, wCells, kCells, spCells, pCells, wCells, kCells]; omega) | (simp [bcells_length, *, spCells, pCells, spCells, pCells, wCells, kCells, wCells, kCells, wCells, kCells, spCells, pCells, wCells, kCells, spCells, pCells, wCells, kCells, spCells, pCells, wCells, kCells, spCells, pCells, wCells, kCells]; done))) ?_
         refine G_call (L2 := [_, _, _, _, _, _, _]) rfl rfl rfl rfl rfl rfl Try.call54 ((rsup_may s hs).weaken (fun v post h => by rw [decide_eq_true hm] at h; exact h)) [] [] rfl rfl ?_
         rintro v post ⟨rfl, rfl⟩
         show G _ _ _ [_, _, _, _, _, _, _] _
         refine G_val rfl rfl rfl rfl (V_move rfl rfl) ?_
         refine G_split 112 rfl (fun hc14 => ?_) (fun hc14 => ?_)
         rotate_left
         · (first | (exact absurd rfl hc14) | (exact absurd hc14 (by decide)) | (exact absurd (by decide) hc14) | (simp at hc14; omega) | (exfalso; omega))
         refine G_val rfl rfl rfl rfl (V_move rfl rfl) ?_
         refine G_call (L2 := [_, _, _, _, _, _, _]) rfl rfl rfl rfl rfl rfl Try.call52 (sl_num _) [] [] rfl rfl ?_
         rintro v post ⟨rfl, rfl⟩
         show G _ _ _ [_, _, _, _, _, _, _] _
         refine G_val rfl rfl rfl rfl (V_neq rfl rfl rfl) ?_
         refine G_val rfl rfl rfl rfl (V_pickT rfl rfl rfl) ?_
         refine G_val rfl rfl rfl rfl (V_move rfl rfl) ?_
         refine G_splitD 117 rfl (fun hc15 => ?_) (fun hc15 => ?_)
         · (first | (exact absurd rfl hc15) | (exact absurd hc15 (by decide)) | (exact absurd (by decide) hc15) | (simp at hc15; omega) | (exfalso; omega))
         first
           | refine G_val rfl rfl rfl rfl (V_loadW (s := 5) rfl rfl (mem_at 6 rfl) Try.underlying75 rfl infLawSuperPicks_75 rfl (by first | rfl | (simp [bcells_length, spCells, pCells, spCells, pCells, wCells, kCells, wCells, kCells, wCells, kCells, spCells, pCells, wCells, kCells, spCells, pCells, wCells, kCells, spCells, pCells, wCells, kCells, spCells, pCells, wCells, kCells]; done) | (simp [bcells_length, spCells, pCells, spCells, pCells, wCells, kCells, wCells, kCells, wCells, kCells, spCells, pCells, wCells, kCells, spCells, pCells, wCells, kCells, spCells, pCells, wCells, kCells, spCells, pCells, wCells, kCells]; omega) | (simp [bcells_length, *, spCells, pCells, spCells, pCells, wCells, kCells, wCells, kCells, wCells, kCells, spCells, pCells, wCells, kCells, spCells, pCells, wCells, kCells, spCells, pCells, wCells, kCells, spCells, pCells, wCells, kCells]; done))) ?_
           | refine G_val rfl rfl rfl rfl (V_loadA (s := 5) rfl rfl (mem_at 6 rfl) Try.underlying75 rfl infLawSuperPicks_75 rfl rfl (by first | rfl | (simp [bcells_length, spCells, pCells, spCells, pCells, wCells, kCells, wCells, kCells, wCells, kCells, spCells, pCells, wCells, kCells, spCells, pCells, wCells, kCells, spCells, pCells, wCells, kCells, spCells, pCells, wCells, kCells]; done) | (simp [bcells_length, spCells, pCells, spCells, pCells, wCells, kCells, wCells, kCells, wCells, kCells, spCells, pCells, wCells, kCells, spCells, pCells, wCells, kCells, spCells, pCells, wCells, kCells, spCells, pCells, wCells, kCells]; omega) | (simp [bcells_length, *, spCells, pCells, spCells, pCells, wCells, kCells, wCells, kCells, wCells, kCells, spCells, pCells, wCells, kCells, spCells, pCells, wCells, kCells, spCells, pCells, wCells, kCells, spCells, pCells, wCells, kCells]; done))) ?_
         refine G_call (L2 := [_, _, _, _, _, _, _]) rfl rfl rfl rfl rfl rfl Try.call54 ((rsup_may s hs).weaken (fun v post h => by rw [decide_eq_true hm] at h; exact h)) [] [] rfl rfl ?_
         rintro v post ⟨rfl, rfl⟩
         show G _ _ _ [_, _, _, _, _, _, _] _
         refine G_val rfl rfl rfl rfl (V_not rfl rfl) ?_
         refine G_val rfl rfl rfl rfl (V_move rfl rfl) ?_
         refine G_split 121 rfl (fun hc16 => ?_) (fun hc16 => ?_)
         · (first | (exact absurd rfl hc16) | (exact absurd hc16 (by decide)) | (exact absurd (by decide) hc16) | (simp at hc16; omega) | (exfalso; omega))
         refine G_off rfl rfl rfl rfl ?_
         refine G_off rfl rfl rfl rfl ?_
         refine G_off rfl rfl rfl rfl ?_
         refine G_val rfl rfl rfl rfl (V_pickF rfl rfl rfl) ?_
         refine G_val rfl rfl rfl rfl (V_pickF rfl rfl rfl) ?_
         refine G_done ?_
         refine G_else rfl ?_
         refine G_skip ?_
         refine G_seq ?_
         refine G_region (l := [0, 1, 2, 3, 4, 5, 6]) rfl ?_
         refine G_call (L2 := [_, _, _, _, _, _, _]) rfl rfl rfl rfl rfl rfl Try.call58 sup_load_nil [] [] rfl rfl ?_
         rintro v post ⟨rfl, rfl⟩
         show G _ _ _ [_, _, _, _, _, _, _] _
         refine G_val rfl rfl rfl rfl (V_move rfl rfl) ?_
         refine G_val rfl rfl rfl rfl (V_extract rfl rfl rfl) ?_
         refine G_val rfl rfl rfl rfl (V_extract rfl rfl rfl) ?_
         refine G_new rfl rfl rfl rfl (N_allocA rfl infLawSuperPicks_75 rfl) (fun b17 => ?_)
         refine G_put (l1 := []) (L' := [_, _, _, _, _, _, _, _]) rfl rfl rfl rfl (P_storeA (s := 5) rfl rfl rfl (mem_at 0 rfl) (by first | rfl | (simp [bcells_length, spCells, pCells, spCells, pCells, wCells, kCells, wCells, kCells, wCells, kCells, spCells, pCells, wCells, kCells, spCells, pCells, wCells, kCells, spCells, pCells, wCells, kCells, spCells, pCells, wCells, kCells]; done) | (simp [bcells_length, spCells, pCells, spCells, pCells, wCells, kCells, wCells, kCells, wCells, kCells, spCells, pCells, wCells, kCells, spCells, pCells, wCells, kCells, spCells, pCells, wCells, kCells, spCells, pCells, wCells, kCells]; omega) | (simp [bcells_length, *, spCells, pCells, spCells, pCells, wCells, kCells, wCells, kCells, wCells, kCells, spCells, pCells, wCells, kCells, spCells, pCells, wCells, kCells, spCells, pCells, wCells, kCells, spCells, pCells, wCells, kCells]; done)) infLawSuperPicks_75 rfl (by first | rfl | (simp [bcells_length, spCells, pCells, spCells, pCells, wCells, kCells, wCells, kCells, wCells, kCells, spCells, pCells, wCells, kCells, spCells, pCells, wCells, kCells, spCells, pCells, wCells, kCells, spCells, pCells, wCells, kCells]; done) | (simp [bcells_length, spCells, pCells, spCells, pCells, wCells, kCells, wCells, kCells, wCells, kCells, spCells, pCells, wCells, kCells, spCells, pCells, wCells, kCells, spCells, pCells, wCells, kCells, spCells, pCells, wCells, kCells]; omega) | (simp [bcells_length, *, spCells, pCells, spCells, pCells, wCells, kCells, wCells, kCells, wCells, kCells, spCells, pCells, wCells, kCells, spCells, pCells, wCells, kCells, spCells, pCells, wCells, kCells, spCells, pCells, wCells, kCells]; done)) (by first | rfl | exact bcells_all _ | (simp [Value.oneCell', spCells, pCells, spCells, pCells, wCells, kCells, wCells, kCells, wCells, kCells, spCells, pCells, wCells, kCells, spCells, pCells, wCells, kCells, spCells, pCells, wCells, kCells, spCells, pCells, wCells, kCells]; done) | (simp [Value.oneCell', *, spCells, pCells, spCells, pCells, wCells, kCells, wCells, kCells, wCells, kCells, spCells, pCells, wCells, kCells, spCells, pCells, wCells, kCells, spCells, pCells, wCells, kCells, spCells, pCells, wCells, kCells]; done))) rfl ?_
         refine G_val rfl rfl rfl rfl (V_assign rfl rfl) ?_
         refine G_done ?_
         refine G_seq ?_
         refine G_region (l := [0, 1, 2, 3, 4, 5, 6, 7, 8, 9, 10, 11, 12]) rfl ?_
         refine G_val rfl rfl rfl rfl (V_move rfl rfl) ?_
         refine G_call (L2 := [_, _, _, _, _, _, _, _]) rfl rfl rfl rfl rfl rfl Try.call52 (sl_num _) [] [] rfl rfl ?_
         rintro v post ⟨rfl, rfl⟩
         show G _ _ _ [_, _, _, _, _, _, _, _] _
         refine G_val rfl rfl rfl rfl (V_eql rfl rfl rfl) ?_
         refine G_val rfl rfl rfl rfl (V_move rfl rfl) ?_
         refine G_splitD 134 rfl (fun hc17 => ?_) (fun hc17 => ?_)
         rotate_left
         · (first | (exact absurd rfl hc17) | (exact absurd hc17 (by decide)) | (exact absurd (by decide) hc17) | (simp at hc17; omega) | (exfalso; omega))
         first
           | refine G_val rfl rfl rfl rfl (V_loadW (s := 5) rfl rfl (mem_at 7 rfl) Try.underlying75 rfl infLawSuperPicks_75 rfl (by first | rfl | (simp [bcells_length, spCells, pCells, spCells, pCells, wCells, kCells, wCells, kCells, wCells, kCells, spCells, pCells, wCells, kCells, spCells, pCells, wCells, kCells, spCells, pCells, wCells, kCells, spCells, pCells, wCells, kCells]; done) | (simp [bcells_length, spCells, pCells, spCells, pCells, wCells, kCells, wCells, kCells, wCells, kCells, spCells, pCells, wCells, kCells, spCells, pCells, wCells, kCells, spCells, pCells, wCells, kCells, spCells, pCells, wCells, kCells]; omega) | (simp [bcells_length, *, spCells, pCells, spCells, pCells, wCells, kCells, wCells, kCells, wCells, kCells, spCells, pCells, wCells, kCells, spCells, pCells, wCells, kCells, spCells, pCells, wCells, kCells, spCells, pCells, wCells, kCells]; done))) ?_
           | refine G_val rfl rfl rfl rfl (V_loadA (s := 5) rfl rfl (mem_at 7 rfl) Try.underlying75 rfl infLawSuperPicks_75 rfl rfl (by first | rfl | (simp [bcells_length, spCells, pCells, spCells, pCells, wCells, kCells, wCells, kCells, wCells, kCells, spCells, pCells, wCells, kCells, spCells, pCells, wCells, kCells, spCells, pCells, wCells, kCells, spCells, pCells, wCells, kCells]; done) | (simp [bcells_length, spCells, pCells, spCells, pCells, wCells, kCells, wCells, kCells, wCells, kCells, spCells, pCells, wCells, kCells, spCells, pCells, wCells, kCells, spCells, pCells, wCells, kCells, spCells, pCells, wCells, kCells]; omega) | (simp [bcells_length, *, spCells, pCells, spCells, pCells, wCells, kCells, wCells, kCells, wCells, kCells, spCells, pCells, wCells, kCells, spCells, pCells, wCells, kCells, spCells, pCells, wCells, kCells, spCells, pCells, wCells, kCells]; done))) ?_
         refine G_call (L2 := [_, _, _, _, _, _, _, _]) rfl rfl rfl rfl rfl rfl Try.call59 (sup_store_nil s) [] [] rfl rfl ?_
         rintro v post ⟨rfl, rfl⟩
         show G _ _ _ [_, _, _, _, _, _, _, _] _
         refine G_call (L2 := [_, _, _, _, _, _, _, _]) rfl rfl rfl rfl rfl rfl Try.call52 (sl_num _) [] [] rfl rfl ?_
         rintro v post ⟨rfl, rfl⟩
         show G _ _ _ [_, _, _, _, _, _, _, _] _
         refine G_val rfl rfl rfl rfl (V_eql rfl rfl rfl) ?_
         refine G_val rfl rfl rfl rfl (V_pickT rfl rfl rfl) ?_
         refine G_val rfl rfl rfl rfl (V_move rfl rfl) ?_
         refine G_splitD 140 rfl (fun hc18 => ?_) (fun hc18 => ?_)
         rotate_left
         · (first | (exact absurd rfl hc18) | (exact absurd hc18 (by decide)) | (exact absurd (by decide) hc18) | (simp at hc18; omega) | (exfalso; omega))
         refine G_call (L2 := [_, _, _, _, _, _, _, _]) rfl rfl rfl rfl rfl rfl Try.call47 (sl_live) [] [] rfl rfl ?_
         rintro v post ⟨rfl, rfl⟩
         show G _ _ _ [_, _, _, _, _, _, _, _] _
         refine G_val rfl rfl rfl rfl (V_pickT rfl rfl rfl) ?_
         refine G_val rfl rfl rfl rfl (V_assign rfl rfl) ?_
         refine G_done ?_
         refine G_ret (post := []) Try.func11 rfl (RVs_cons (RV_tmp rfl) RVs_nil) [] rfl ?_
         dsimp only [packed]
         exact ⟨rfl, rfl⟩
       · skip
         refine G_region (l := [0, 1, 2, 3]) rfl ?_
         refine G_val rfl rfl rfl rfl (V_move rfl rfl) ?_
         first
           | refine G_val rfl rfl rfl rfl (V_loadW (s := 5) rfl rfl (mem_at 6 rfl) Try.underlying75 rfl infLawSuperPicks_75 rfl (by first | rfl | (simp [bcells_length, spCells, pCells, spCells, pCells, wCells, kCells, wCells, kCells, wCells, kCells, spCells, pCells, wCells, kCells, spCells, pCells, wCells, kCells, spCells, pCells, wCells, kCells, spCells, pCells, wCells, kCells]; done) | (simp [bcells_length, spCells, pCells, spCells, pCells, wCells, kCells, wCells, kCells, wCells, kCells, spCells, pCells, wCells, kCells, spCells, pCells, wCells, kCells, spCells, pCells, wCells, kCells, spCells, pCells, wCells, kCells]; omega) | (simp [bcells_length, *, spCells, pCells, spCells, pCells, wCells, kCells, wCells, kCells, wCells, kCells, spCells, pCells, wCells, kCells, spCells, pCells, wCells, kCells, spCells, pCells, wCells, kCells, spCells, pCells, wCells, kCells]; done))) ?_
           | refine G_val rfl rfl rfl rfl (V_loadA (s := 5) rfl rfl (mem_at 6 rfl) Try.underlying75 rfl infLawSuperPicks_75 rfl rfl (by first | rfl | (simp [bcells_length, spCells, pCells, spCells, pCells, wCells, kCells, wCells, kCells, wCells, kCells, spCells, pCells, wCells, kCells, spCells, pCells, wCells, kCells, spCells, pCells, wCells, kCells, spCells, pCells, wCells, kCells]; done) | (simp [bcells_length, spCells, pCells, spCells, pCells, wCells, kCells, wCells, kCells, wCells, kCells, spCells, pCells, wCells, kCells, spCells, pCells, wCells, kCells, spCells, pCells, wCells, kCells, spCells, pCells, wCells, kCells]; omega) | (simp [bcells_length, *, spCells, pCells, spCells, pCells, wCells, kCells, wCells, kCells, wCells, kCells, spCells, pCells, wCells, kCells, spCells, pCells, wCells, kCells, spCells, pCells, wCells, kCells, spCells, pCells, wCells, kCells]; done))) ?_
         refine G_call (L2 := [_, _, _, _]) rfl rfl rfl rfl rfl rfl Try.call59 ((sup_store d1 3 lb1 cap1 cs1 uw1 ((k2 a b).setFuse 0) h1 s hs (by show 2 ≤ 1000000; omega)).weaken (fun v post h => by rw [(store_no hm).2] at h; exact h)) [0, 1, 1] [] rfl rfl ?_
         rintro v post ⟨rfl, cs1, uw1, h1, rfl⟩
         show G _ _ _ [_, _, _, _, _, _, _] _
         refine G_val rfl rfl rfl rfl (V_assign rfl rfl) ?_
         refine G_done ?_
         refine G_seq ?_
         refine G_region (l := [0, 1, 2, 3, 4, 5, 6, 7, 8, 9, 10, 11, 12, 13, 14, 15, 16]) rfl ?_
         first
           | refine G_val rfl rfl rfl rfl (V_loadW (s := 5) rfl rfl (mem_at 6 rfl) Try.underlying75 rfl infLawSuperPicks_75 rfl (by first | rfl | (simp [bcells_length, spCells, pCells, spCells, pCells, wCells, kCells, wCells, kCells, wCells, kCells, spCells, pCells, wCells, kCells, spCells, pCells, wCells, kCells, spCells, pCells, wCells, kCells, spCells, pCells, wCells, kCells]; done) | (simp [bcells_length, spCells, pCells, spCells, pCells, wCells, kCells, wCells, kCells, wCells, kCells, spCells, pCells, wCells, kCells, spCells, pCells, wCells, kCells, spCells, pCells, wCells, kCells, spCells, pCells, wCells, kCells]; omega) | (simp [bcells_length, *, spCells, pCells, spCells, pCells, wCells, kCells, wCells, kCells, wCells, kCells, spCells, pCells, wCells, kCells, spCells, pCells, wCells, kCells, spCells, pCells, wCells, kCells, spCells, pCells, wCells, kCells]; done))) ?_
           | refine G_val rfl rfl rfl rfl (V_loadA (s := 5) rfl rfl (mem_at 6 rfl) Try.underlying75 rfl infLawSuperPicks_75 rfl rfl (by first | rfl | (simp [bcells_length, spCells, pCells, spCells, pCells, wCells, kCells, wCells, kCells, wCells, kCells, spCells, pCells, wCells, kCells, spCells, pCells, wCells, kCells, spCells, pCells, wCells, kCells, spCells, pCells, wCells, kCells]; done) | (simp [bcells_length, spCells, pCells, spCells, pCells, wCells, kCells, wCells, kCells, wCells, kCells, spCells, pCells, wCells, kCells, spCells, pCells, wCells, kCells, spCells, pCells, wCells, kCells, spCells, pCells, wCells, kCells]; omega) | (simp [bcells_length, *, spCells, pCells, spCells, pCells, wCells, kCells, wCells, kCells, wCells, kCells, spCells, pCells, wCells, kCells, spCells, pCells, wCells, kCells, spCells, pCells, wCells, kCells, spCells, pCells, wCells, kCells]; done))) ?_
         refine G_call (L2 := [_, _, _, _, _, _, _]) rfl rfl rfl rfl rfl rfl Try.call54 ((rsup_may s hs).weaken (fun v post h => by rw [decide_eq_false hm] at h; exact h)) [] [] rfl rfl ?_
         rintro v post ⟨rfl, rfl⟩
         show G _ _ _ [_, _, _, _, _, _, _] _
         refine G_val rfl rfl rfl rfl (V_move rfl rfl) ?_
         refine G_split 112 rfl (fun hc14 => ?_) (fun hc14 => ?_)
         · (first | (exact absurd rfl hc14) | (exact absurd hc14 (by decide)) | (exact absurd (by decide) hc14) | (simp at hc14; omega) | (exfalso; omega))
         refine G_off rfl rfl rfl rfl ?_
         refine G_off rfl rfl rfl rfl ?_
         refine G_off rfl rfl rfl rfl ?_
         refine G_val rfl rfl rfl rfl (V_pickF rfl rfl rfl) ?_
         refine G_val rfl rfl rfl rfl (V_move rfl rfl) ?_
         first
           | refine G_val rfl rfl rfl rfl (V_loadW (s := 5) rfl rfl (mem_at 6 rfl) Try.underlying75 rfl infLawSuperPicks_75 rfl (by first | rfl | (simp [bcells_length, spCells, pCells, spCells, pCells, wCells, kCells, wCells, kCells, wCells, kCells, spCells, pCells, wCells, kCells, spCells, pCells, wCells, kCells, spCells, pCells, wCells, kCells, spCells, pCells, wCells, kCells]; done) | (simp [bcells_length, spCells, pCells, spCells, pCells, wCells, kCells, wCells, kCells, wCells, kCells, spCells, pCells, wCells, kCells, spCells, pCells, wCells, kCells, spCells, pCells, wCells, kCells, spCells, pCells, wCells, kCells]; omega) | (simp [bcells_length, *, spCells, pCells, spCells, pCells, wCells, kCells, wCells, kCells, wCells, kCells, spCells, pCells, wCells, kCells, spCells, pCells, wCells, kCells, spCells, pCells, wCells, kCells, spCells, pCells, wCells, kCells]; done))) ?_
           | refine G_val rfl rfl rfl rfl (V_loadA (s := 5) rfl rfl (mem_at 6 rfl) Try.underlying75 rfl infLawSuperPicks_75 rfl rfl (by first | rfl | (simp [bcells_length, spCells, pCells, spCells, pCells, wCells, kCells, wCells, kCells, wCells, kCells, spCells, pCells, wCells, kCells, spCells, pCells, wCells, kCells, spCells, pCells, wCells, kCells, spCells, pCells, wCells, kCells]; done) | (simp [bcells_length, spCells, pCells, spCells, pCells, wCells, kCells, wCells, kCells, wCells, kCells, spCells, pCells, wCells, kCells, spCells, pCells, wCells, kCells, spCells, pCells, wCells, kCells, spCells, pCells, wCells, kCells]; omega) | (simp [bcells_length, *, spCells, pCells, spCells, pCells, wCells, kCells, wCells, kCells, wCells, kCells, spCells, pCells, wCells, kCells, spCells, pCells, wCells, kCells, spCells, pCells, wCells, kCells, spCells, pCells, wCells, kCells]; done))) ?_
         refine G_call (L2 := [_, _, _, _, _, _, _]) rfl rfl rfl rfl rfl rfl Try.call54 ((rsup_may s hs).weaken (fun v post h => by rw [decide_eq_false hm] at h; exact h)) [] [] rfl rfl ?_
         rintro v post ⟨rfl, rfl⟩
         show G _ _ _ [_, _, _, _, _, _, _] _
         refine G_val rfl rfl rfl rfl (V_not rfl rfl) ?_
         refine G_val rfl rfl rfl rfl (V_move rfl rfl) ?_
         refine G_split 121 rfl (fun hc15 => ?_) (fun hc15 => ?_)
         rotate_left
         · (first | (exact absurd rfl hc15) | (exact absurd hc15 (by decide)) | (exact absurd (by decide) hc15) | (simp at hc15; omega) | (exfalso; omega))
         refine G_val rfl rfl rfl rfl (V_move rfl rfl) ?_
         refine G_call (L2 := [_, _, _, _, _, _, _]) rfl rfl rfl rfl rfl rfl Try.call52 (sl_num _) [] [] rfl rfl ?_
         rintro v post ⟨rfl, rfl⟩
         show G _ _ _ [_, _, _, _, _, _, _] _
         refine G_val rfl rfl rfl rfl (V_neq rfl rfl rfl) ?_
         refine G_val rfl rfl rfl rfl (V_pickT rfl rfl rfl) ?_
         refine G_val rfl rfl rfl rfl (V_pickF rfl rfl rfl) ?_
         refine G_done ?_
         refine G_ifD rfl (fun hc16 => ?_) (fun hc16 => ?_)
         · (first | (exact absurd rfl hc16) | (exact absurd hc16 (by decide)) | (exact absurd (by decide) hc16) | (simp at hc16; omega) | (exfalso; omega))
         refine G_skip ?_
         refine G_seq ?_
         refine G_region (l := [0, 1, 2, 3, 4, 5, 6]) rfl ?_
         refine G_call (L2 := [_, _, _, _, _, _, _]) rfl rfl rfl rfl rfl rfl Try.call58 sup_load_nil [] [] rfl rfl ?_
         rintro v post ⟨rfl, rfl⟩
         show G _ _ _ [_, _, _, _, _, _, _] _
         refine G_val rfl rfl rfl rfl (V_move rfl rfl) ?_
         refine G_val rfl rfl rfl rfl (V_extract rfl rfl rfl) ?_
         refine G_val rfl rfl rfl rfl (V_extract rfl rfl rfl) ?_
         refine G_new rfl rfl rfl rfl (N_allocA rfl infLawSuperPicks_75 rfl) (fun b17 => ?_)
         refine G_put (l1 := []) (L' := [_, _, _, _, _, _, _, _]) rfl rfl rfl rfl (P_storeA (s := 5) rfl rfl rfl (mem_at 0 rfl) (by first | rfl | (simp [bcells_length, spCells, pCells, spCells, pCells, wCells, kCells, wCells, kCells, wCells, kCells, spCells, pCells, wCells, kCells, spCells, pCells, wCells, kCells, spCells, pCells, wCells, kCells, spCells, pCells, wCells, kCells]; done) | (simp [bcells_length, spCells, pCells, spCells, pCells, wCells, kCells, wCells, kCells, wCells, kCells, spCells, pCells, wCells, kCells, spCells, pCells, wCells, kCells, spCells, pCells, wCells, kCells, spCells, pCells, wCells, kCells]; omega) | (simp [bcells_length, *, spCells, pCells, spCells, pCells, wCells, kCells, wCells, kCells, wCells, kCells, spCells, pCells, wCells, kCells, spCells, pCells, wCells, kCells, spCells, pCells, wCells, kCells, spCells, pCells, wCells, kCells]; done)) infLawSuperPicks_75 rfl (by first | rfl | (simp [bcells_length, spCells, pCells, spCells, pCells, wCells, kCells, wCells, kCells, wCells, kCells, spCells, pCells, wCells, kCells, spCells, pCells, wCells, kCells, spCells, pCells, wCells, kCells, spCells, pCells, wCells, kCells]; done) | (simp [bcells_length, spCells, pCells, spCells, pCells, wCells, kCells, wCells, kCells, wCells, kCells, spCells, pCells, wCells, kCells, spCells, pCells, wCells, kCells, spCells, pCells, wCells, kCells, spCells, pCells, wCells, kCells]; omega) | (simp [bcells_length, *, spCells, pCells, spCells, pCells, wCells, kCells, wCells, kCells, wCells, kCells, spCells, pCells, wCells, kCells, spCells, pCells, wCells, kCells, spCells, pCells, wCells, kCells, spCells, pCells, wCells, kCells]; done)) (by first | rfl | exact bcells_all _ | (simp [Value.oneCell', spCells, pCells, spCells, pCells, wCells, kCells, wCells, kCells, wCells, kCells, spCells, pCells, wCells, kCells, spCells, pCells, wCells, kCells, spCells, pCells, wCells, kCells, spCells, pCells, wCells, kCells]; done) | (simp [Value.oneCell', *, spCells, pCells, spCells, pCells, wCells, kCells, wCells, kCells, wCells, kCells, spCells, pCells, wCells, kCells, spCells, pCells, wCells, kCells, spCells, pCells, wCells, kCells, spCells, pCells, wCells, kCells]; done))) rfl ?_
         refine G_val rfl rfl rfl rfl (V_assign rfl rfl) ?_
         refine G_done ?_
         refine G_seq ?_
         refine G_region (l := [0, 1, 2, 3, 4, 5, 6, 7, 8, 9, 10, 11, 12]) rfl ?_
         refine G_val rfl rfl rfl rfl (V_move rfl rfl) ?_
         refine G_call (L2 := [_, _, _, _, _, _, _, _]) rfl rfl rfl rfl rfl rfl Try.call52 (sl_num _) [] [] rfl rfl ?_
         rintro v post ⟨rfl, rfl⟩
         show G _ _ _ [_, _, _, _, _, _, _, _] _
         refine G_val rfl rfl rfl rfl (V_eql rfl rfl rfl) ?_
         refine G_val rfl rfl rfl rfl (V_move rfl rfl) ?_
         refine G_splitD 134 rfl (fun hc17 => ?_) (fun hc17 => ?_)
         rotate_left
         · (first | (exact absurd rfl hc17) | (exact absurd hc17 (by decide)) | (exact absurd (by decide) hc17) | (simp at hc17; omega) | (exfalso; omega))
         first
           | refine G_val rfl rfl rfl rfl (V_loadW (s := 5) rfl rfl (mem_at 7 rfl) Try.underlying75 rfl infLawSuperPicks_75 rfl (by first | rfl | (simp [bcells_length, spCells, pCells, spCells, pCells, wCells, kCells, wCells, kCells, wCells, kCells, spCells, pCells, wCells, kCells, spCells, pCells, wCells, kCells, spCells, pCells, wCells, kCells, spCells, pCells, wCells, kCells]; done) | (simp [bcells_length, spCells, pCells, spCells, pCells, wCells, kCells, wCells, kCells, wCells, kCells, spCells, pCells, wCells, kCells, spCells, pCells, wCells, kCells, spCells, pCells, wCells, kCells, spCells, pCells, wCells, kCells]; omega) | (simp [bcells_length, *, spCells, pCells, spCells, pCells, wCells, kCells, wCells, kCells, wCells, kCells, spCells, pCells, wCells, kCells, spCells, pCells, wCells, kCells, spCells, pCells, wCells, kCells, spCells, pCells, wCells, kCells]; done))) ?_
           | refine G_val rfl rfl rfl rfl (V_loadA (s := 5) rfl rfl (mem_at 7 rfl) Try.underlying75 rfl infLawSuperPicks_75 rfl rfl (by first | rfl | (simp [bcells_length, spCells, pCells, spCells, pCells, wCells, kCells, wCells, kCells, wCells, kCells, spCells, pCells, wCells, kCells, spCells, pCells, wCells, kCells, spCells, pCells, wCells, kCells, spCells, pCells, wCells, kCells]; done) | (simp [bcells_length, spCells, pCells, spCells, pCells, wCells, kCells, wCells, kCells, wCells, kCells, spCells, pCells, wCells, kCells, spCells, pCells, wCells, kCells, spCells, pCells, wCells, kCells, spCells, pCells, wCells, kCells]; omega) | (simp [bcells_length, *, spCells, pCells, spCells, pCells, wCells, kCells, wCells, kCells, wCells, kCells, spCells, pCells, wCells, kCells, spCells, pCells, wCells, kCells, spCells, pCells, wCells, kCells, spCells, pCells, wCells, kCells]; done))) ?_
         refine G_call (L2 := [_, _, _, _, _, _, _, _]) rfl rfl rfl rfl rfl rfl Try.call59 (sup_store_nil s) [] [] rfl rfl ?_
         rintro v post ⟨rfl, rfl⟩
         show G _ _ _ [_, _, _, _, _, _, _, _] _
         refine G_call (L2 := [_, _, _, _, _, _, _, _]) rfl rfl rfl rfl rfl rfl Try.call52 (sl_num _) [] [] rfl rfl ?_
         rintro v post ⟨rfl, rfl⟩
         show G _ _ _ [_, _, _, _, _, _, _, _] _
         refine G_val rfl rfl rfl rfl (V_eql rfl rfl rfl) ?_
         refine G_val rfl rfl rfl rfl (V_pickT rfl rfl rfl) ?_
         refine G_val rfl rfl rfl rfl (V_move rfl rfl) ?_
         refine G_splitD 140 rfl (fun hc18 => ?_) (fun hc18 => ?_)
         rotate_left
         · (first | (exact absurd rfl hc18) | (exact absurd hc18 (by decide)) | (exact absurd (by decide) hc18) | (simp at hc18; omega) | (exfalso; omega))
         refine G_call (L2 := [_, _, _, _, _, _, _, _]) rfl rfl rfl rfl rfl rfl Try.call47 (sl_live) [] [] rfl rfl ?_
         rintro v post ⟨rfl, rfl⟩
         show G _ _ _ [_, _, _, _, _, _, _, _] _
         refine G_val rfl rfl rfl rfl (V_pickT rfl rfl rfl) ?_
         refine G_val rfl rfl rfl rfl (V_assign rfl rfl) ?_
         refine G_done ?_
         refine G_ret (post := []) Try.func11 rfl (RVs_cons (RV_tmp rfl) RVs_nil) [] rfl ?_
         dsimp only [packed]
         exact ⟨rfl, rfl⟩
     · skip
       refine G_region (l := [0, 1, 2, 3, 4, 5, 6, 7]) rfl ?_
       refine G_val rfl rfl rfl rfl (V_move rfl rfl) ?_
       refine G_call (L2 := [_, _, _, _, _, _]) rfl rfl rfl rfl rfl rfl Try.call58 ((sup_load d1 3 lb1 cap1 cs1 uw1 (k2 a b) h1).weaken (fun v post h => by rw [(load_k2 a b).1, (load_k2 a b).2, if_neg hps] at h; exact h)) [] [0, 1, 2] rfl rfl ?_
       rintro v post ⟨rfl, rfl⟩
       show G _ _ _ [_, _, _, _, _, _] _
       refine G_val rfl rfl rfl rfl (V_move rfl rfl) ?_
       refine G_val rfl rfl rfl rfl (V_extract rfl rfl rfl) ?_
       refine G_val rfl rfl rfl rfl (V_extract rfl rfl rfl) ?_
       refine G_new rfl rfl rfl rfl (N_allocA rfl infLawSuperPicks_75 rfl) (fun b14 => ?_)
       refine G_put (l1 := []) (L' := [_, _, _, _, _, _, _]) rfl rfl rfl rfl (P_storeA (s := 5) rfl rfl rfl (mem_at 0 rfl) (by first | rfl | (simp [bcells_length, spCells, pCells, spCells, pCells, wCells, kCells, wCells, kCells, wCells, kCells, spCells, pCells, wCells, kCells, spCells, pCells, wCells, kCells, spCells, pCells, wCells, kCells, spCells, pCells, wCells, kCells]; done) | (simp [bcells_length, spCells, pCells, spCells, pCells, wCells, kCells, wCells, kCells, wCells, kCells, spCells, pCells, wCells, kCells, spCells, pCells, wCells, kCells, spCells, pCells, wCells, kCells, spCells, pCells, wCells, kCells]; omega) | (simp [bcells_length, *, spCells, pCells, spCells, pCells, wCells, kCells, wCells, kCells, wCells, kCells, spCells, pCells, wCells, kCells, spCells, pCells, wCells, kCells, spCells, pCells, wCells, kCells, spCells, pCells, wCells, kCells]; done)) infLawSuperPicks_75 rfl (by first | rfl | (simp [bcells_length, spCells, pCells, spCells, pCells, wCells, kCells, wCells, kCells, wCells, kCells, spCells, pCells, wCells, kCells, spCells, pCells, wCells, kCells, spCells, pCells, wCells, kCells, spCells, pCells, wCells, kCells]; done) | (simp [bcells_length, spCells, pCells, spCells, pCells, wCells, kCells, wCells, kCells, wCells, kCells, spCells, pCells, wCells, kCells, spCells, pCells, wCells, kCells, spCells, pCells, wCells, kCells, spCells, pCells, wCells, kCells]; omega) | (simp [bcells_length, *, spCells, pCells, spCells, pCells, wCells, kCells, wCells, kCells, wCells, kCells, spCells, pCells, wCells, kCells, spCells, pCells, wCells, kCells, spCells, pCells, wCells, kCells, spCells, pCells, wCells, kCells]; done)) (by first | rfl | exact bcells_all _ | (simp [Value.oneCell', spCells, pCells, spCells, pCells, wCells, kCells, wCells, kCells, wCells, kCells, spCells, pCells, wCells, kCells, spCells, pCells, wCells, kCells, spCells, pCells, wCells, kCells, spCells, pCells, wCells, kCells]; done) | (simp [Value.oneCell', *, spCells, pCells, spCells, pCells, wCells, kCells, wCells, kCells, wCells, kCells, spCells, pCells, wCells, kCells, spCells, pCells, wCells, kCells, spCells, pCells, wCells, kCells, spCells, pCells, wCells, kCells]; done))) rfl ?_
       refine G_val rfl rfl rfl rfl (V_assign rfl rfl) ?_
       refine G_done ?_
       refine G_seq ?_
       refine G_seq ?_
       refine G_region (l := [0, 1, 2, 3, 4, 5, 6, 7, 8, 9, 10, 11, 12, 13, 14, 15, 16, 17, 18, 19, 20, 21, 22, 23, 24, 25, 26, 27, 28, 29, 30, 31, 32, 33, 34]) rfl ?_
       refine G_val rfl rfl rfl rfl (V_move rfl rfl) ?_
       refine G_call (L2 := [_, _, _, _, _, _, _]) rfl rfl rfl rfl rfl rfl Try.call52 (sl_num _) [] [] rfl rfl ?_
       rintro v post ⟨rfl, rfl⟩
       show G _ _ _ [_, _, _, _, _, _, _] _
       refine G_val rfl rfl rfl rfl (V_neq rfl rfl rfl) ?_
       refine G_val rfl rfl rfl rfl (V_move rfl rfl) ?_
       refine G_splitD 73 rfl (fun hc7 => ?_) (fun hc7 => ?_)
       · (first | (exact absurd rfl hc7) | (exact absurd hc7 (by decide)) | (exact absurd (by decide) hc7) | (simp at hc7; omega) | (exfalso; omega))
       refine G_val rfl rfl rfl rfl (V_move rfl rfl) ?_
       refine G_call (L2 := [_, _, _, _, _, _, _]) rfl rfl rfl rfl rfl rfl Try.call52 (sl_num _) [] [] rfl rfl ?_
       rintro v post ⟨rfl, rfl⟩
       show G _ _ _ [_, _, _, _, _, _, _] _
       refine G_val rfl rfl rfl rfl (V_neq rfl rfl rfl) ?_
       refine G_val rfl rfl rfl rfl (V_pickF rfl rfl rfl) ?_
       refine G_val rfl rfl rfl rfl (V_move rfl rfl) ?_
       refine G_splitD 78 rfl (fun hc8 => ?_) (fun hc8 => ?_)
       · (first | (exact absurd rfl hc8) | (exact absurd hc8 (by decide)) | (exact absurd (by decide) hc8) | (simp at hc8; omega) | (exfalso; omega))
       refine G_val rfl rfl rfl rfl (V_move rfl rfl) ?_
       refine G_call (L2 := [_, _, _, _, _, _, _]) rfl rfl rfl rfl rfl rfl Try.call52 (sl_num _) [] [] rfl rfl ?_
       rintro v post ⟨rfl, rfl⟩
       show G _ _ _ [_, _, _, _, _, _, _] _
       refine G_val rfl rfl rfl rfl (V_neq rfl rfl rfl) ?_
       refine G_val rfl rfl rfl rfl (V_pickF rfl rfl rfl) ?_
       refine G_val rfl rfl rfl rfl (V_move rfl rfl) ?_
       refine G_splitD 83 rfl (fun hc9 => ?_) (fun hc9 => ?_)
       · (first | (exact absurd rfl hc9) | (exact absurd hc9 (by decide)) | (exact absurd (by decide) hc9) | (simp at hc9; omega) | (exfalso; omega))
       first
         | refine G_val rfl rfl rfl rfl (V_loadW (s := 5) rfl rfl (mem_at 0 rfl) Try.underlying75 rfl infLawSuperPicks_75 rfl (by first | rfl | (simp [bcells_length, spCells, pCells, spCells, pCells, wCells, kCells, wCells, kCells, wCells, kCells, spCells, pCells, wCells, kCells, spCells, pCells, wCells, kCells, spCells, pCells, wCells, kCells, spCells, pCells, wCells, kCells]; done) | (simp [bcells_length, spCells, pCells, spCells, pCells, wCells, kCells, wCells, kCells, wCells, kCells, spCells, pCells, wCells, kCells, spCells, pCells, wCells, kCells, spCells, pCells, wCells, kCells, spCells, pCells, wCells, kCells]; omega) | (simp [bcells_length, *, spCells, pCells, spCells, pCells, wCells, kCells, wCells, kCells, wCells, kCells, spCells, pCells, wCells, kCells, spCells, pCells, wCells, kCells, spCells, pCells, wCells, kCells, spCells, pCells, wCells, kCells]; done))) ?_
         | refine G_val rfl rfl rfl rfl (V_loadA (s := 5) rfl rfl (mem_at 0 rfl) Try.underlying75 rfl infLawSuperPicks_75 rfl rfl (by first | rfl | (simp [bcells_length, spCells, pCells, spCells, pCells, wCells, kCells, wCells, kCells, wCells, kCells, spCells, pCells, wCells, kCells, spCells, pCells, wCells, kCells, spCells, pCells, wCells, kCells, spCells, pCells, wCells, kCells]; done) | (simp [bcells_length, spCells, pCells, spCells, pCells, wCells, kCells, wCells, kCells, wCells, kCells, spCells, pCells, wCells, kCells, spCells, pCells, wCells, kCells, spCells, pCells, wCells, kCells, spCells, pCells, wCells, kCells]; omega) | (simp [bcells_length, *, spCells, pCells, spCells, pCells, wCells, kCells, wCells, kCells, wCells, kCells, spCells, pCells, wCells, kCells, spCells, pCells, wCells, kCells, spCells, pCells, wCells, kCells, spCells, pCells, wCells, kCells]; done))) ?_
       first
         | refine G_val rfl rfl rfl rfl (V_loadW (s := 5) rfl rfl (mem_at 4 rfl) Try.underlying75 rfl infLawSuperPicks_75 rfl (by first | rfl | (simp [bcells_length, spCells, pCells, spCells, pCells, wCells, kCells, wCells, kCells, wCells, kCells, spCells, pCells, wCells, kCells, spCells, pCells, wCells, kCells, spCells, pCells, wCells, kCells, spCells, pCells, wCells, kCells]; done) | (simp [bcells_length, spCells, pCells, spCells, pCells, wCells, kCells, wCells, kCells, wCells, kCells, spCells, pCells, wCells, kCells, spCells, pCells, wCells, kCells, spCells, pCells, wCells, kCells, spCells, pCells, wCells, kCells]; omega) | (simp [bcells_length, *, spCells, pCells, spCells, pCells, wCells, kCells, wCells, kCells, wCells, kCells, spCells, pCells, wCells, kCells, spCells, pCells, wCells, kCells, spCells, pCells, wCells, kCells, spCells, pCells, wCells, kCells]; done))) ?_
         | refine G_val rfl rfl rfl rfl (V_loadA (s := 5) rfl rfl (mem_at 4 rfl) Try.underlying75 rfl infLawSuperPicks_75 rfl rfl (by first | rfl | (simp [bcells_length, spCells, pCells, spCells, pCells, wCells, kCells, wCells, kCells, wCells, kCells, spCells, pCells, wCells, kCells, spCells, pCells, wCells, kCells, spCells, pCells, wCells, kCells, spCells, pCells, wCells, kCells]; done) | (simp [bcells_length, spCells, pCells, spCells, pCells, wCells, kCells, wCells, kCells, wCells, kCells, spCells, pCells, wCells, kCells, spCells, pCells, wCells, kCells, spCells, pCells, wCells, kCells, spCells, pCells, wCells, kCells]; omega) | (simp [bcells_length, *, spCells, pCells, spCells, pCells, wCells, kCells, wCells, kCells, wCells, kCells, spCells, pCells, wCells, kCells, spCells, pCells, wCells, kCells, spCells, pCells, wCells, kCells, spCells, pCells, wCells, kCells]; done))) ?_
       refine G_val rfl rfl rfl rfl (V_aggneq (m := 6) rfl Try.eqGuardType75 (by kernel_rfl) (by decide) (formed_of Try.underlying75 rfl (by kernel_rfl : Try.prog.cellsOf 75 = 5) (by first | rfl | (simp [bcells_length, spCells, pCells, spCells, pCells, wCells, kCells, wCells, kCells, wCells, kCells, spCells, pCells, wCells, kCells, spCells, pCells, wCells, kCells, spCells, pCells, wCells, kCells, spCells, pCells, wCells, kCells]; done) | (simp [bcells_length, spCells, pCells, spCells, pCells, wCells, kCells, wCells, kCells, wCells, kCells, spCells, pCells, wCells, kCells, spCells, pCells, wCells, kCells, spCells, pCells, wCells, kCells, spCells, pCells, wCells, kCells]; omega) | (simp [bcells_length, *, spCells, pCells, spCells, pCells, wCells, kCells, wCells, kCells, wCells, kCells, spCells, pCells, wCells, kCells, spCells, pCells, wCells, kCells, spCells, pCells, wCells, kCells, spCells, pCells, wCells, kCells]; done))) (formed_of Try.underlying75 rfl (by kernel_rfl : Try.prog.cellsOf 75 = 5) (by first | rfl | (simp [bcells_length, spCells, pCells, spCells, pCells, wCells, kCells, wCells, kCells, wCells, kCells, spCells, pCells, wCells, kCells, spCells, pCells, wCells, kCells, spCells, pCells, wCells, kCells, spCells, pCells, wCells, kCells]; done) | (simp [bcells_length, spCells, pCells, spCells, pCells, wCells, kCells, wCells, kCells, wCells, kCells, spCells, pCells, wCells, kCells, spCells, pCells, wCells, kCells, spCells, pCells, wCells, kCells, spCells, pCells, wCells, kCells]; omega) | (simp [bcells_length, *, spCells, pCells, spCells, pCells, wCells, kCells, wCells, kCells, wCells, kCells, spCells, pCells, wCells, kCells, spCells, pCells, wCells, kCells, spCells, pCells, wCells, kCells, spCells, pCells, wCells, kCells]; done))) rfl rfl (key_sp _ hpk) (key_sp _ hpk)) ?_
       refine G_val rfl rfl rfl rfl (V_pickF rfl rfl rfl) ?_
       refine G_val rfl rfl rfl rfl (V_move rfl rfl) ?_
       refine G_splitD 88 rfl (fun hc10 => ?_) (fun hc10 => ?_)
       · (first | (exact absurd rfl hc10) | (exact absurd hc10 (by decide)) | (exact absurd (by decide) hc10) | (simp at hc10; omega) | (exfalso; omega))
       refine G_val rfl rfl rfl rfl (V_move rfl rfl) ?_
       refine G_val rfl rfl rfl rfl (V_move rfl rfl) ?_
       refine G_split 90 rfl (fun hc11 => ?_) (fun hc11 => ?_)
       · (first | (exact absurd rfl hc11) | (exact absurd hc11 (by decide)) | (exact absurd (by decide) hc11) | (simp at hc11; omega) | (exfalso; omega))
       refine G_off rfl rfl rfl rfl ?_
       refine G_off rfl rfl rfl rfl ?_
       refine G_off rfl rfl rfl rfl ?_
       refine G_val rfl rfl rfl rfl (V_pickF rfl rfl rfl) ?_
       refine G_val rfl rfl rfl rfl (V_pickF rfl rfl rfl) ?_
       refine G_val rfl rfl rfl rfl (V_move rfl rfl) ?_
       refine G_val rfl rfl rfl rfl (V_move rfl rfl) ?_
       refine G_val rfl rfl rfl rfl (V_not rfl rfl) ?_
       refine G_val rfl rfl rfl rfl (V_move rfl rfl) ?_
       refine G_split 99 rfl (fun hc12 => ?_) (fun hc12 => ?_)
       rotate_left
       · (first | (exact absurd rfl hc12) | (exact absurd hc12 (by decide)) | (exact absurd (by decide) hc12) | (simp at hc12; omega) | (exfalso; omega))
       refine G_val rfl rfl rfl rfl (V_move rfl rfl) ?_
       refine G_call (L2 := [_, _, _, _, _, _, _]) rfl rfl rfl rfl rfl rfl Try.call52 (sl_num _) [] [] rfl rfl ?_
       rintro v post ⟨rfl, rfl⟩
       show G _ _ _ [_, _, _, _, _, _, _] _
       refine G_val rfl rfl rfl rfl (V_neq rfl rfl rfl) ?_
       refine G_val rfl rfl rfl rfl (V_pickT rfl rfl rfl) ?_
       refine G_val rfl rfl rfl rfl (V_pickF rfl rfl rfl) ?_
       refine G_done ?_
       refine G_ifD rfl (fun hc13 => ?_) (fun hc13 => ?_)
       · (first | (exact absurd rfl hc13) | (exact absurd hc13 (by decide)) | (exact absurd (by decide) hc13) | (simp at hc13; omega) | (exfalso; omega))
       refine G_skip ?_
       refine G_seq ?_
       refine G_region (l := [0, 1]) rfl ?_
       refine G_val rfl rfl rfl rfl (V_move rfl rfl) ?_
       refine G_call (L2 := [_, _, _, _, _, _]) rfl rfl rfl rfl rfl rfl Try.call42 (dk_fuse d1 3 lb1 cap1 cs1 uw1 (k2 a b) h1 0) [1] [] rfl rfl ?_
       rintro v post ⟨rfl, rfl⟩
       show G _ _ _ [_, _, _, _, _, _, _] _
       replace h1 := setFuse_at h1 (z := 0) (by omega)
       refine G_done ?_
       refine G_seq ?_
       by_cases hm : MayS s
       · skip
         refine G_region (l := [0, 1, 2, 3]) rfl ?_
         refine G_val rfl rfl rfl rfl (V_move rfl rfl) ?_
         first
           | refine G_val rfl rfl rfl rfl (V_loadW (s := 5) rfl rfl (mem_at 6 rfl) Try.underlying75 rfl infLawSuperPicks_75 rfl (by first | rfl | (simp [bcells_length, spCells, pCells, spCells, pCells, wCells, kCells, wCells, kCells, wCells, kCells, spCells, pCells, wCells, kCells, spCells, pCells, wCells, kCells, spCells, pCells, wCells, kCells, spCells, pCells, wCells, kCells]; done) | (simp [bcells_length, spCells, pCells, spCells, pCells, wCells, kCells, wCells, kCells, wCells, kCells, spCells, pCells, wCells, kCells, spCells, pCells, wCells, kCells, spCells, pCells, wCells, kCells, spCells, pCells, wCells, kCells]; omega) | (simp [bcells_length, *, spCells, pCells, spCells, pCells, wCells, kCells, wCells, kCells, wCells, kCells, spCells, pCells, wCells, kCells, spCells, pCells, wCells, kCells, spCells, pCells, wCells, kCells, spCells, pCells, wCells, kCells]; done))) ?_
           | refine G_val rfl rfl rfl rfl (V_loadA (s := 5) rfl rfl (mem_at 6 rfl) Try.underlying75 rfl infLawSuperPicks_75 rfl rfl (by first | rfl | (simp [bcells_length, spCells, pCells, spCells, pCells, wCells, kCells, wCells, kCells, wCells, kCells, spCells, pCells, wCells, kCells, spCells, pCells, wCells, kCells, spCells, pCells, wCells, kCells, spCells, pCells, wCells, kCells]; done) | (simp [bcells_length, spCells, pCells, spCells, pCells, wCells, kCells, wCells, kCells, wCells, kCells, spCells, pCells, wCells, kCells, spCells, pCells, wCells, kCells, spCells, pCells, wCells, kCells, spCells, pCells, wCells, kCells]; omega) | (simp [bcells_length, *, spCells, pCells, spCells, pCells, wCells, kCells, wCells, kCells, wCells, kCells, spCells, pCells, wCells, kCells, spCells, pCells, wCells, kCells, spCells, pCells, wCells, kCells, spCells, pCells, wCells, kCells]; done))) ?_
         refine G_call (L2 := [_, _, _, _]) rfl rfl rfl rfl rfl rfl Try.call59 ((sup_store d1 3 lb1 cap1 cs1 uw1 ((k2 a b).setFuse 0) h1 s hs (by show 2 ≤ 1000000; omega)).weaken (fun v post h => by rw [store_dead hm rfl rfl] at h; exact h)) [0, 1, 1] [] rfl rfl ?_
         rintro v post ⟨rfl, cs1, uw1, h1, rfl⟩
         show G _ _ _ [_, _, _, _, _, _, _] _
         refine G_val rfl rfl rfl rfl (V_assign rfl rfl) ?_
         refine G_done ?_
         refine G_seq ?_
         refine G_region (l := [0, 1, 2, 3, 4, 5, 6, 7, 8, 9, 10, 11, 12, 13, 14, 15, 16]) rfl ?_
         first
           | refine G_val rfl rfl rfl rfl (V_loadW (s := 5) rfl rfl (mem_at 6 rfl) Try.underlying75 rfl infLawSuperPicks_75 rfl (by first | rfl | (simp [bcells_length, spCells, pCells, spCells, pCells, wCells, kCells, wCells, kCells, wCells, kCells, spCells, pCells, wCells, kCells, spCells, pCells, wCells, kCells, spCells, pCells, wCells, kCells, spCells, pCells, wCells, kCells]; done) | (simp [bcells_length, spCells, pCells, spCells, pCells, wCells, kCells, wCells, kCells, wCells, kCells, spCells, pCells, wCells, kCells, spCells, pCells, wCells, kCells, spCells, pCells, wCells, kCells, spCells, pCells, wCells, kCells]; omega) | (simp [bcells_length, *, spCells, pCells, spCells, pCells, wCells, kCells, wCells, kCells, wCells, kCells, spCells, pCells, wCells, kCells, spCells, pCells, wCells, kCells, spCells, pCells, wCells, kCells, spCells, pCells, wCells, kCells]; done))) ?_
           | refine G_val rfl rfl rfl rfl (V_loadA (s := 5) rfl rfl (mem_at 6 rfl) Try.underlying75 rfl infLawSuperPicks_75 rfl rfl (by first | rfl | (simp [bcells_length, spCells, pCells, spCells, pCells, wCells, kCells, wCells, kCells, wCells, kCells, spCells, pCells, wCells, kCells, spCells, pCells, wCells, kCells, spCells, pCells, wCells, kCells, spCells, pCells, wCells, kCells]; done) | (simp [bcells_length, spCells, pCells, spCells, pCells, wCells, kCells, wCells, kCells, wCells, kCells, spCells, pCells, wCells, kCells, spCells, pCells, wCells, kCells, spCells, pCells, wCells, kCells, spCells, pCells, wCells, kCells]; omega) | (simp [bcells_length, *, spCells, pCells, spCells, pCells, wCells, kCells, wCells, kCells, wCells, kCells, spCells, pCells, wCells, kCells, spCells, pCells, wCells, kCells, spCells, pCells, wCells, kCells, spCells, pCells, wCells, kCells]; done))) ?_
         refine G_call (L2 := [_, _, _, _, _, _, _]) rfl rfl rfl rfl rfl rfl Try.call54 ((rsup_may s hs).weaken (fun v post h => by rw [decide_eq_true hm] at h; exact h)) [] [] rfl rfl ?_
         rintro v post ⟨rfl, rfl⟩
         show G _ _ _ [_, _, _, _, _, _, _] _
         refine G_val rfl rfl rfl rfl (V_move rfl rfl) ?_
         refine G_split 112 rfl (fun hc14 => ?_) (fun hc14 => ?_)
         rotate_left
         · (first | (exact absurd rfl hc14) | (exact absurd hc14 (by decide)) | (exact absurd (by decide) hc14) | (simp at hc14; omega) | (exfalso; omega))
         refine G_val rfl rfl rfl rfl (V_move rfl rfl) ?_
         refine G_call (L2 := [_, _, _, _, _, _, _]) rfl rfl rfl rfl rfl rfl Try.call52 (sl_num _) [] [] rfl rfl ?_
         rintro v post ⟨rfl, rfl⟩
         show G _ _ _ [_, _, _, _, _, _, _] _
         refine G_val rfl rfl rfl rfl (V_neq rfl rfl rfl) ?_
         refine G_val rfl rfl rfl rfl (V_pickT rfl rfl rfl) ?_
         refine G_val rfl rfl rfl rfl (V_move rfl rfl) ?_
         refine G_splitD 117 rfl (fun hc15 => ?_) (fun hc15 => ?_)
         · (first | (exact absurd rfl hc15) | (exact absurd hc15 (by decide)) | (exact absurd (by decide) hc15) | (simp at hc15; omega) | (exfalso; omega))
         first
           | refine G_val rfl rfl rfl rfl (V_loadW (s := 5) rfl rfl (mem_at 6 rfl) Try.underlying75 rfl infLawSuperPicks_75 rfl (by first | rfl | (simp [bcells_length, spCells, pCells, spCells, pCells, wCells, kCells, wCells, kCells, wCells, kCells, spCells, pCells, wCells, kCells, spCells, pCells, wCells, kCells, spCells, pCells, wCells, kCells, spCells, pCells, wCells, kCells]; done) | (simp [bcells_length, spCells, pCells, spCells, pCells, wCells, kCells, wCells, kCells, wCells, kCells, spCells, pCells, wCells, kCells, spCells, pCells, wCells, kCells, spCells, pCells, wCells, kCells, spCells, pCells, wCells, kCells]; omega) | (simp [bcells_length, *, spCells, pCells, spCells, pCells, wCells, kCells, wCells, kCells, wCells, kCells, spCells, pCells, wCells, kCells, spCells, pCells, wCells, kCells, spCells, pCells, wCells, kCells, spCells, pCells, wCells, kCells]; done))) ?_
           | refine G_val rfl rfl rfl rfl (V_loadA (s := 5) rfl rfl (mem_at 6 rfl) Try.underlying75 rfl infLawSuperPicks_75 rfl rfl (by first | rfl | (simp [bcells_length, spCells, pCells, spCells, pCells, wCells, kCells, wCells, kCells, wCells, kCells, spCells, pCells, wCells, kCells, spCells, pCells, wCells, kCells, spCells, pCells, wCells, kCells, spCells, pCells, wCells, kCells]; done) | (simp [bcells_length, spCells, pCells, spCells, pCells, wCells, kCells, wCells, kCells, wCells, kCells, spCells, pCells, wCells, kCells, spCells, pCells, wCells, kCells, spCells, pCells, wCells, kCells, spCells, pCells, wCells, kCells]; omega) | (simp [bcells_length, *, spCells, pCells, spCells, pCells, wCells, kCells, wCells, kCells, wCells, kCells, spCells, pCells, wCells, kCells, spCells, pCells, wCells, kCells, spCells, pCells, wCells, kCells, spCells, pCells, wCells, kCells]; done))) ?_
         refine G_call (L2 := [_, _, _, _, _, _, _]) rfl rfl rfl rfl rfl rfl Try.call54 ((rsup_may s hs).weaken (fun v post h => by rw [decide_eq_true hm] at h; exact h)) [] [] rfl rfl ?_
         rintro v post ⟨rfl, rfl⟩
         show G _ _ _ [_, _, _, _, _, _, _] _
         refine G_val rfl rfl rfl rfl (V_not rfl rfl) ?_
         refine G_val rfl rfl rfl rfl (V_move rfl rfl) ?_
         refine G_split 121 rfl (fun hc16 => ?_) (fun hc16 => ?_)
         · (first | (exact absurd rfl hc16) | (exact absurd hc16 (by decide)) | (exact absurd (by decide) hc16) | (simp at hc16; omega) | (exfalso; omega))
         refine G_off rfl rfl rfl rfl ?_
         refine G_off rfl rfl rfl rfl ?_
         refine G_off rfl rfl rfl rfl ?_
         refine G_val rfl rfl rfl rfl (V_pickF rfl rfl rfl) ?_
         refine G_val rfl rfl rfl rfl (V_pickF rfl rfl rfl) ?_
         refine G_done ?_
         refine G_else rfl ?_
         refine G_skip ?_
         refine G_seq ?_
         refine G_region (l := [0, 1, 2, 3, 4, 5, 6]) rfl ?_
         refine G_call (L2 := [_, _, _, _, _, _, _]) rfl rfl rfl rfl rfl rfl Try.call58 sup_load_nil [] [] rfl rfl ?_
         rintro v post ⟨rfl, rfl⟩
         show G _ _ _ [_, _, _, _, _, _, _] _
         refine G_val rfl rfl rfl rfl (V_move rfl rfl) ?_
         refine G_val rfl rfl rfl rfl (V_extract rfl rfl rfl) ?_
         refine G_val rfl rfl rfl rfl (V_extract rfl rfl rfl) ?_
         refine G_new rfl rfl rfl rfl (N_allocA rfl infLawSuperPicks_75 rfl) (fun b17 => ?_)
         refine G_put (l1 := []) (L' := [_, _, _, _, _, _, _, _]) rfl rfl rfl rfl (P_storeA (s := 5) rfl rfl rfl (mem_at 0 rfl) (by first | rfl | (simp [bcells_length, spCells, pCells, spCells, pCells, wCells, kCells, wCells, kCells, wCells, kCells, spCells, pCells, wCells, kCells, spCells, pCells, wCells, kCells, spCells, pCells, wCells, kCells, spCells, pCells, wCells, kCells]; done) | (simp [bcells_length, spCells, pCells, spCells, pCells, wCells, kCells, wCells, kCells, wCells, kCells, spCells, pCells, wCells, kCells, spCells, pCells, wCells, kCells, spCells, pCells, wCells, kCells, spCells, pCells, wCells, kCells]; omega) | (simp [bcells_length, *, spCells, pCells, spCells, pCells, wCells, kCells, wCells, kCells, wCells, kCells, spCells, pCells, wCells, kCells, spCells, pCells, wCells, kCells, spCells, pCells, wCells, kCells, spCells, pCells, wCells, kCells]; done)) infLawSuperPicks_75 rfl (by first | rfl | (simp [bcells_length, spCells, pCells, spCells, pCells, wCells, kCells, wCells, kCells, wCells, kCells, spCells, pCells, wCells, kCells, spCells, pCells, wCells, kCells, spCells, pCells, wCells, kCells, spCells, pCells, wCells, kCells]; done) | (simp [bcells_length, spCells, pCells, spCells, pCells, wCells, kCells, wCells, kCells, wCells, kCells, spCells, pCells, wCells, kCells, spCells, pCells, wCells, kCells, spCells, pCells, wCells, kCells, spCells, pCells, wCells, kCells]; omega) | (simp [bcells_length, *, spCells, pCells, spCells, pCells, wCells, kCells, wCells, kCells, wCells, kCells, spCells, pCells, wCells, kCells, spCells, pCells, wCells, kCells, spCells, pCells, wCells, kCells, spCells, pCells, wCells, kCells]; done)) (by first | rfl | exact bcells_all _ | (simp [Value.oneCell', spCells, pCells, spCells, pCells, wCells, kCells, wCells, kCells, wCells, kCells, spCells, pCells, wCells, kCells, spCells, pCells, wCells, kCells, spCells, pCells, wCells, kCells, spCells, pCells, wCells, kCells]; done) | (simp [Value.oneCell', *, spCells, pCells, spCells, pCells, wCells, kCells, wCells, kCells, wCells, kCells, spCells, pCells, wCells, kCells, spCells, pCells, wCells, kCells, spCells, pCells, wCells, kCells, spCells, pCells, wCells, kCells]; done))) rfl ?_
         refine G_val rfl rfl rfl rfl (V_assign rfl rfl) ?_
         refine G_done ?_
         refine G_seq ?_
         refine G_region (l := [0, 1, 2, 3, 4, 5, 6, 7, 8, 9, 10, 11, 12]) rfl ?_
         refine G_val rfl rfl rfl rfl (V_move rfl rfl) ?_
         refine G_call (L2 := [_, _, _, _, _, _, _, _]) rfl rfl rfl rfl rfl rfl Try.call52 (sl_num _) [] [] rfl rfl ?_
         rintro v post ⟨rfl, rfl⟩
         show G _ _ _ [_, _, _, _, _, _, _, _] _
         refine G_val rfl rfl rfl rfl (V_eql rfl rfl rfl) ?_
         refine G_val rfl rfl rfl rfl (V_move rfl rfl) ?_
         refine G_splitD 134 rfl (fun hc17 => ?_) (fun hc17 => ?_)
         rotate_left
         · (first | (exact absurd rfl hc17) | (exact absurd hc17 (by decide)) | (exact absurd (by decide) hc17) | (simp at hc17; omega) | (exfalso; omega))
         first
           | refine G_val rfl rfl rfl rfl (V_loadW (s := 5) rfl rfl (mem_at 7 rfl) Try.underlying75 rfl infLawSuperPicks_75 rfl (by first | rfl | (simp [bcells_length, spCells, pCells, spCells, pCells, wCells, kCells, wCells, kCells, wCells, kCells, spCells, pCells, wCells, kCells, spCells, pCells, wCells, kCells, spCells, pCells, wCells, kCells, spCells, pCells, wCells, kCells]; done) | (simp [bcells_length, spCells, pCells, spCells, pCells, wCells, kCells, wCells, kCells, wCells, kCells, spCells, pCells, wCells, kCells, spCells, pCells, wCells, kCells, spCells, pCells, wCells, kCells, spCells, pCells, wCells, kCells]; omega) | (simp [bcells_length, *, spCells, pCells, spCells, pCells, wCells, kCells, wCells, kCells, wCells, kCells, spCells, pCells, wCells, kCells, spCells, pCells, wCells, kCells, spCells, pCells, wCells, kCells, spCells, pCells, wCells, kCells]; done))) ?_
           | refine G_val rfl rfl rfl rfl (V_loadA (s := 5) rfl rfl (mem_at 7 rfl) Try.underlying75 rfl infLawSuperPicks_75 rfl rfl (by first | rfl | (simp [bcells_length, spCells, pCells, spCells, pCells, wCells, kCells, wCells, kCells, wCells, kCells, spCells, pCells, wCells, kCells, spCells, pCells, wCells, kCells, spCells, pCells, wCells, kCells, spCells, pCells, wCells, kCells]; done) | (simp [bcells_length, spCells, pCells, spCells, pCells, wCells, kCells, wCells, kCells, wCells, kCells, spCells, pCells, wCells, kCells, spCells, pCells, wCells, kCells, spCells, pCells, wCells, kCells, spCells, pCells, wCells, kCells]; omega) | (simp [bcells_length, *, spCells, pCells, spCells, pCells, wCells, kCells, wCells, kCells, wCells, kCells, spCells, pCells, wCells, kCells, spCells, pCells, wCells, kCells, spCells, pCells, wCells, kCells, spCells, pCells, wCells, kCells]; done))) ?_
         refine G_call (L2 := [_, _, _, _, _, _, _, _]) rfl rfl rfl rfl rfl rfl Try.call59 (sup_store_nil s) [] [] rfl rfl ?_
         rintro v post ⟨rfl, rfl⟩
         show G _ _ _ [_, _, _, _, _, _, _, _] _
         refine G_call (L2 := [_, _, _, _, _, _, _, _]) rfl rfl rfl rfl rfl rfl Try.call52 (sl_num _) [] [] rfl rfl ?_
         rintro v post ⟨rfl, rfl⟩
         show G _ _ _ [_, _, _, _, _, _, _, _] _
         refine G_val rfl rfl rfl rfl (V_eql rfl rfl rfl) ?_
         refine G_val rfl rfl rfl rfl (V_pickT rfl rfl rfl) ?_
         refine G_val rfl rfl rfl rfl (V_move rfl rfl) ?_
         refine G_splitD 140 rfl (fun hc18 => ?_) (fun hc18 => ?_)
         rotate_left
         · (first | (exact absurd rfl hc18) | (exact absurd hc18 (by decide)) | (exact absurd (by decide) hc18) | (simp at hc18; omega) | (exfalso; omega))
         refine G_call (L2 := [_, _, _, _, _, _, _, _]) rfl rfl rfl rfl rfl rfl Try.call47 (sl_live) [] [] rfl rfl ?_
         rintro v post ⟨rfl, rfl⟩
         show G _ _ _ [_, _, _, _, _, _, _, _] _
         refine G_val rfl rfl rfl rfl (V_pickT rfl rfl rfl) ?_
         refine G_val rfl rfl rfl rfl (V_assign rfl rfl) ?_
         refine G_done ?_
         refine G_ret (post := []) Try.func11 rfl (RVs_cons (RV_tmp rfl) RVs_nil) [] rfl ?_
         dsimp only [packed]
         exact ⟨rfl, rfl⟩
       · skip
         refine G_region (l := [0, 1, 2, 3]) rfl ?_
         refine G_val rfl rfl rfl rfl (V_move rfl rfl) ?_
         first
           | refine G_val rfl rfl rfl rfl (V_loadW (s := 5) rfl rfl (mem_at 6 rfl) Try.underlying75 rfl infLawSuperPicks_75 rfl (by first | rfl | (simp [bcells_length, spCells, pCells, spCells, pCells, wCells, kCells, wCells, kCells, wCells, kCells, spCells, pCells, wCells, kCells, spCells, pCells, wCells, kCells, spCells, pCells, wCells, kCells, spCells, pCells, wCells, kCells]; done) | (simp [bcells_length, spCells, pCells, spCells, pCells, wCells, kCells, wCells, kCells, wCells, kCells, spCells, pCells, wCells, kCells, spCells, pCells, wCells, kCells, spCells, pCells, wCells, kCells, spCells, pCells, wCells, kCells]; omega) | (simp [bcells_length, *, spCells, pCells, spCells, pCells, wCells, kCells, wCells, kCells, wCells, kCells, spCells, pCells, wCells, kCells, spCells, pCells, wCells, kCells, spCells, pCells, wCells, kCells, spCells, pCells, wCells, kCells]; done))) ?_
           | refine G_val rfl rfl rfl rfl (V_loadA (s := 5) rfl rfl (mem_at 6 rfl) Try.underlying75 rfl infLawSuperPicks_75 rfl rfl (by first | rfl | (simp [bcells_length, spCells, pCells, spCells, pCells, wCells, kCells, wCells, kCells, wCells, kCells, spCells, pCells, wCells, kCells, spCells, pCells, wCells, kCells, spCells, pCells, wCells, kCells, spCells, pCells, wCells, kCells]; done) | (simp [bcells_length, spCells, pCells, spCells, pCells, wCells, kCells, wCells, kCells, wCells, kCells, spCells, pCells, wCells, kCells, spCells, pCells, wCells, kCells, spCells, pCells, wCells, kCells, spCells, pCells, wCells, kCells]; omega) | (simp [bcells_length, *, spCells, pCells, spCells, pCells, wCells, kCells, wCells, kCells, wCells, kCells, spCells, pCells, wCells, kCells, spCells, pCells, wCells, kCells, spCells, pCells, wCells, kCells, spCells, pCells, wCells, kCells]; done))) ?_
         refine G_call (L2 := [_, _, _, _]) rfl rfl rfl rfl rfl rfl Try.call59 ((sup_store d1 3 lb1 cap1 cs1 uw1 ((k2 a b).setFuse 0) h1 s hs (by show 2 ≤ 1000000; omega)).weaken (fun v post h => by rw [(store_no hm).2] at h; exact h)) [0, 1, 1] [] rfl rfl ?_
         rintro v post ⟨rfl, cs1, uw1, h1, rfl⟩
         show G _ _ _ [_, _, _, _, _, _, _] _
         refine G_val rfl rfl rfl rfl (V_assign rfl rfl) ?_
         refine G_done ?_
         refine G_seq ?_
         refine G_region (l := [0, 1, 2, 3, 4, 5, 6, 7, 8, 9, 10, 11, 12, 13, 14, 15, 16]) rfl ?_
         first
           | refine G_val rfl rfl rfl rfl (V_loadW (s := 5) rfl rfl (mem_at 6 rfl) Try.underlying75 rfl infLawSuperPicks_75 rfl (by first | rfl | (simp [bcells_length, spCells, pCells, spCells, pCells, wCells, kCells, wCells, kCells, wCells, kCells, spCells, pCells, wCells, kCells, spCells, pCells, wCells, kCells, spCells, pCells, wCells, kCells, spCells, pCells, wCells, kCells]; done) | (simp [bcells_length, spCells, pCells, spCells, pCells, wCells, kCells, wCells, kCells, wCells, kCells, spCells, pCells, wCells, kCells, spCells, pCells, wCells, kCells, spCells, pCells, wCells, kCells, spCells, pCells, wCells, kCells]; omega) | (simp [bcells_length, *, spCells, pCells, spCells, pCells, wCells, kCells, wCells, kCells, wCells, kCells, spCells, pCells, wCells, kCells, spCells, pCells, wCells, kCells, spCells, pCells, wCells, kCells, spCells, pCells, wCells, kCells]; done))) ?_
           | refine G_val rfl rfl rfl rfl (V_loadA (s := 5) rfl rfl (mem_at 6 rfl) Try.underlying75 rfl infLawSuperPicks_75 rfl rfl (by first | rfl | (simp [bcells_length, spCells, pCells, spCells, pCells, wCells, kCells, wCells, kCells, wCells, kCells, spCells, pCells, wCells, kCells, spCells, pCells, wCells, kCells, spCells, pCells, wCells, kCells, spCells, pCells, wCells, kCells]; done) | (simp [bcells_length, spCells, pCells, spCells, pCells, wCells, kCells, wCells, kCells, wCells, kCells, spCells, pCells, wCells, kCells, spCells, pCells, wCells, kCells, spCells, pCells, wCells, kCells, spCells, pCells, wCells, kCells]; omega) | (simp [bcells_length, *, spCells, pCells, spCells, pCells, wCells, kCells, wCells, kCells, wCells, kCells, spCells, pCells, wCells, kCells, spCells, pCells, wCells, kCells, spCells, pCells, wCells, kCells, spCells, pCells, wCells, kCells]; done))) ?_
         refine G_call (L2 := [_, _, _, _, _, _, _]) rfl rfl rfl rfl rfl rfl Try.call54 ((rsup_may s hs).weaken (fun v post h => by rw [decide_eq_false hm] at h; exact h)) [] [] rfl rfl ?_
         rintro v post ⟨rfl, rfl⟩
         show G _ _ _ [_, _, _, _, _, _, _] _
         refine G_val rfl rfl rfl rfl (V_move rfl rfl) ?_
         refine G_split 112 rfl (fun hc14 => ?_) (fun hc14 => ?_)
         · (first | (exact absurd rfl hc14) | (exact absurd hc14 (by decide)) | (exact absurd (by decide) hc14) | (simp at hc14; omega) | (exfalso; omega))
         refine G_off rfl rfl rfl rfl ?_
         refine G_off rfl rfl rfl rfl ?_
         refine G_off rfl rfl rfl rfl ?_
         refine G_val rfl rfl rfl rfl (V_pickF rfl rfl rfl) ?_
         refine G_val rfl rfl rfl rfl (V_move rfl rfl) ?_
         first
           | refine G_val rfl rfl rfl rfl (V_loadW (s := 5) rfl rfl (mem_at 6 rfl) Try.underlying75 rfl infLawSuperPicks_75 rfl (by first | rfl | (simp [bcells_length, spCells, pCells, spCells, pCells, wCells, kCells, wCells, kCells, wCells, kCells, spCells, pCells, wCells, kCells, spCells, pCells, wCells, kCells, spCells, pCells, wCells, kCells, spCells, pCells, wCells, kCells]; done) | (simp [bcells_length, spCells, pCells, spCells, pCells, wCells, kCells, wCells, kCells, wCells, kCells, spCells, pCells, wCells, kCells, spCells, pCells, wCells, kCells, spCells, pCells, wCells, kCells, spCells, pCells, wCells, kCells]; omega) | (simp [bcells_length, *, spCells, pCells, spCells, pCells, wCells, kCells, wCells, kCells, wCells, kCells, spCells, pCells, wCells, kCells, spCells, pCells, wCells, kCells, spCells, pCells, wCells, kCells, spCells, pCells, wCells, kCells]; done))) ?_
           | refine G_val rfl rfl rfl rfl (V_loadA (s := 5) rfl rfl (mem_at 6 rfl) Try.underlying75 rfl infLawSuperPicks_75 rfl rfl (by first | rfl | (simp [bcells_length, spCells, pCells, spCells, pCells, wCells, kCells, wCells, kCells, wCells, kCells, spCells, pCells, wCells, kCells, spCells, pCells, wCells, kCells, spCells, pCells, wCells, kCells, spCells, pCells, wCells, kCells]; done) | (simp [bcells_length, spCells, pCells, spCells, pCells, wCells, kCells, wCells, kCells, wCells, kCells, spCells, pCells, wCells, kCells, spCells, pCells, wCells, kCells, spCells, pCells, wCells, kCells, spCells, pCells, wCells, kCells]; omega) | (simp [bcells_length, *, spCells, pCells, spCells, pCells, wCells, kCells, wCells, kCells, wCells, kCells, spCells, pCells, wCells, kCells, spCells, pCells, wCells, kCells, spCells, pCells, wCells, kCells, spCells, pCells, wCells, kCells]; done))) ?_
         refine G_call (L2 := [_, _, _, _, _, _, _]) rfl rfl rfl rfl rfl rfl Try.call54 ((rsup_may s hs).weaken (fun v post h => by rw [decide_eq_false hm] at h; exact h)) [] [] rfl rfl ?_
         rintro v post ⟨rfl, rfl⟩
         show G _ _ _ [_, _, _, _, _, _, _] _
         refine G_val rfl rfl rfl rfl (V_not rfl rfl) ?_
         refine G_val rfl rfl rfl rfl (V_move rfl rfl) ?_
         refine G_split 121 rfl (fun hc15 => ?_) (fun hc15 => ?_)
         rotate_left
         · (first | (exact absurd rfl hc15) | (exact absurd hc15 (by decide)) | (exact absurd (by decide) hc15) | (simp at hc15; omega) | (exfalso; omega))
         refine G_val rfl rfl rfl rfl (V_move rfl rfl) ?_
         refine G_call (L2 := [_, _, _, _, _, _, _]) rfl rfl rfl rfl rfl rfl Try.call52 (sl_num _) [] [] rfl rfl ?_
         rintro v post ⟨rfl, rfl⟩
         show G _ _ _ [_, _, _, _, _, _, _] _
         refine G_val rfl rfl rfl rfl (V_neq rfl rfl rfl) ?_
         refine G_val rfl rfl rfl rfl (V_pickT rfl rfl rfl) ?_
         refine G_val rfl rfl rfl rfl (V_pickF rfl rfl rfl) ?_
         refine G_done ?_
         refine G_ifD rfl (fun hc16 => ?_) (fun hc16 => ?_)
         · (first | (exact absurd rfl hc16) | (exact absurd hc16 (by decide)) | (exact absurd (by decide) hc16) | (simp at hc16; omega) | (exfalso; omega))
         refine G_skip ?_
         refine G_seq ?_
         refine G_region (l := [0, 1, 2, 3, 4, 5, 6]) rfl ?_
         refine G_call (L2 := [_, _, _, _, _, _, _]) rfl rfl rfl rfl rfl rfl Try.call58 sup_load_nil [] [] rfl rfl ?_
         rintro v post ⟨rfl, rfl⟩
         show G _ _ _ [_, _, _, _, _, _, _] _
         refine G_val rfl rfl rfl rfl (V_move rfl rfl) ?_
         refine G_val rfl rfl rfl rfl (V_extract rfl rfl rfl) ?_
         refine G_val rfl rfl rfl rfl (V_extract rfl rfl rfl) ?_
         refine G_new rfl rfl rfl rfl (N_allocA rfl infLawSuperPicks_75 rfl) (fun b17 => ?_)
         refine G_put (l1 := []) (L' := [_, _, _, _, _, _, _, _]) rfl rfl rfl rfl (P_storeA (s := 5) rfl rfl rfl (mem_at 0 rfl) (by first | rfl | (simp [bcells_length, spCells, pCells, spCells, pCells, wCells, kCells, wCells, kCells, wCells, kCells, spCells, pCells, wCells, kCells, spCells, pCells, wCells, kCells, spCells, pCells, wCells, kCells, spCells, pCells, wCells, kCells]; done) | (simp [bcells_length, spCells, pCells, spCells, pCells, wCells, kCells, wCells, kCells, wCells, kCells, spCells, pCells, wCells, kCells, spCells, pCells, wCells, kCells, spCells, pCells, wCells, kCells, spCells, pCells, wCells, kCells]; omega) | (simp [bcells_length, *, spCells, pCells, spCells, pCells, wCells, kCells, wCells, kCells, wCells, kCells, spCells, pCells, wCells, kCells, spCells, pCells, wCells, kCells, spCells, pCells, wCells, kCells, spCells, pCells, wCells, kCells]; done)) infLawSuperPicks_75 rfl (by first | rfl | (simp [bcells_length, spCells, pCells, spCells, pCells, wCells, kCells, wCells, kCells, wCells, kCells, spCells, pCells, wCells, kCells, spCells, pCells, wCells, kCells, spCells, pCells, wCells, kCells, spCells, pCells, wCells, kCells]; done) | (simp [bcells_length, spCells, pCells, spCells, pCells, wCells, kCells, wCells, kCells, wCells, kCells, spCells, pCells, wCells, kCells, spCells, pCells, wCells, kCells, spCells, pCells, wCells, kCells, spCells, pCells, wCells, kCells]; omega) | (simp [bcells_length, *, spCells, pCells, spCells, pCells, wCells, kCells, wCells, kCells, wCells, kCells, spCells, pCells, wCells, kCells, spCells, pCells, wCells, kCells, spCells, pCells, wCells, kCells, spCells, pCells, wCells, kCells]; done)) (by first | rfl | exact bcells_all _ | (simp [Value.oneCell', spCells, pCells, spCells, pCells, wCells, kCells, wCells, kCells, wCells, kCells, spCells, pCells, wCells, kCells, spCells, pCells, wCells, kCells, spCells, pCells, wCells, kCells, spCells, pCells, wCells, kCells]; done) | (simp [Value.oneCell', *, spCells, pCells, spCells, pCells, wCells, kCells, wCells, kCells, wCells, kCells, spCells, pCells, wCells, kCells, spCells, pCells, wCells, kCells, spCells, pCells, wCells, kCells, spCells, pCells, wCells, kCells]; done))) rfl ?_
         refine G_val rfl rfl rfl rfl (V_assign rfl rfl) ?_
         refine G_done ?_
         refine G_seq ?_
         refine G_region (l := [0, 1, 2, 3, 4, 5, 6, 7, 8, 9, 10, 11, 12]) rfl ?_
         refine G_val rfl rfl rfl rfl (V_move rfl rfl) ?_
         refine G_call (L2 := [_, _, _, _, _, _, _, _]) rfl rfl rfl rfl rfl rfl Try.call52 (sl_num _) [] [] rfl rfl ?_
         rintro v post ⟨rfl, rfl⟩
         show G _ _ _ [_, _, _, _, _, _, _, _] _
         refine G_val rfl rfl rfl rfl (V_eql rfl rfl rfl) ?_
         refine G_val rfl rfl rfl rfl (V_move rfl rfl) ?_
         refine G_splitD 134 rfl (fun hc17 => ?_) (fun hc17 => ?_)
         rotate_left
         · (first | (exact absurd rfl hc17) | (exact absurd hc17 (by decide)) | (exact absurd (by decide) hc17) | (simp at hc17; omega) | (exfalso; omega))
         first
           | refine G_val rfl rfl rfl rfl (V_loadW (s := 5) rfl rfl (mem_at 7 rfl) Try.underlying75 rfl infLawSuperPicks_75 rfl (by first | rfl | (simp [bcells_length, spCells, pCells, spCells, pCells, wCells, kCells, wCells, kCells, wCells, kCells, spCells, pCells, wCells, kCells, spCells, pCells, wCells, kCells, spCells, pCells, wCells, kCells, spCells, pCells, wCells, kCells]; done) | (simp [bcells_length, spCells, pCells, spCells, pCells, wCells, kCells, wCells, kCells, wCells, kCells, spCells, pCells, wCells, kCells, spCells, pCells, wCells, kCells, spCells, pCells, wCells, kCells, spCells, pCells, wCells, kCells]; omega) | (simp [bcells_length, *, spCells, pCells, spCells, pCells, wCells, kCells, wCells, kCells, wCells, kCells, spCells, pCells, wCells, kCells, spCells, pCells, wCells, kCells, spCells, pCells, wCells, kCells, spCells, pCells, wCells, kCells]; done))) ?_
           | refine G_val rfl rfl rfl rfl (V_loadA (s := 5) rfl rfl (mem_at 7 rfl) Try.underlying75 rfl infLawSuperPicks_75 rfl rfl (by first | rfl | (simp [bcells_length, spCells, pCells, spCells, pCells, wCells, kCells, wCells, kCells, wCells, kCells, spCells, pCells, wCells, kCells, spCells, pCells, wCells, kCells, spCells, pCells, wCells, kCells, spCells, pCells, wCells, kCells]; done) | (simp [bcells_length, spCells, pCells, spCells, pCells, wCells, kCells, wCells, kCells, wCells, kCells, spCells, pCells, wCells, kCells, spCells, pCells, wCells, kCells, spCells, pCells, wCells, kCells, spCells, pCells, wCells, kCells]; omega) | (simp [bcells_length, *, spCells, pCells, spCells, pCells, wCells, kCells, wCells, kCells, wCells, kCells, spCells, pCells, wCells, kCells, spCells, pCells, wCells, kCells, spCells, pCells, wCells, kCells, spCells, pCells, wCells, kCells]; done))) ?_
         refine G_call (L2 := [_, _, _, _, _, _, _, _]) rfl rfl rfl rfl rfl rfl Try.call59 (sup_store_nil s) [] [] rfl rfl ?_
         rintro v post ⟨rfl, rfl⟩
         show G _ _ _ [_, _, _, _, _, _, _, _] _
         refine G_call (L2 := [_, _, _, _, _, _, _, _]) rfl rfl rfl rfl rfl rfl Try.call52 (sl_num _) [] [] rfl rfl ?_
         rintro v post ⟨rfl, rfl⟩
         show G _ _ _ [_, _, _, _, _, _, _, _] _
         refine G_val rfl rfl rfl rfl (V_eql rfl rfl rfl) ?_
         refine G_val rfl rfl rfl rfl (V_pickT rfl rfl rfl) ?_
         refine G_val rfl rfl rfl rfl (V_move rfl rfl) ?_
         refine G_splitD 140 rfl (fun hc18 => ?_) (fun hc18 => ?_)
         rotate_left
         · (first | (exact absurd rfl hc18) | (exact absurd hc18 (by decide)) | (exact absurd (by decide) hc18) | (simp at hc18; omega) | (exfalso; omega))
         refine G_call (L2 := [_, _, _, _, _, _, _, _]) rfl rfl rfl rfl rfl rfl Try.call47 (sl_live) [] [] rfl rfl ?_
         rintro v post ⟨rfl, rfl⟩
         show G _ _ _ [_, _, _, _, _, _, _, _] _
         refine G_val rfl rfl rfl rfl (V_pickT rfl rfl rfl) ?_
         refine G_val rfl rfl rfl rfl (V_assign rfl rfl) ?_
         refine G_done ?_
         refine G_ret (post := []) Try.func11 rfl (RVs_cons (RV_tmp rfl) RVs_nil) [] rfl ?_
         dsimp only [packed]
         exact ⟨rfl, rfl⟩
   refine G_skip ?_
   refine G_seq ?_
   refine G_region (l := [0, 1, 2, 3, 4, 5, 6]) rfl ?_
   refine G_call (L2 := [_, _, _]) rfl rfl rfl rfl rfl rfl Try.call58 sup_load_nil [] [] rfl rfl ?_
   rintro v post ⟨rfl, rfl⟩
   show G _ _ _ [_, _, _] _
   refine G_val rfl rfl rfl rfl (V_move rfl rfl) ?_
   refine G_val rfl rfl rfl rfl (V_extract rfl rfl rfl) ?_
   refine G_val rfl rfl rfl rfl (V_extract rfl rfl rfl) ?_
   refine G_new rfl rfl rfl rfl (N_allocA rfl infLawSuperPicks_75 rfl) (fun b17 => ?_)
   refine G_put (l1 := []) (L' := [_, _, _, _]) rfl rfl rfl rfl (P_storeA (s := 5) rfl rfl rfl (mem_at 0 rfl) (by first | rfl | (simp [bcells_length, spCells, pCells, spCells, pCells, wCells, kCells, wCells, kCells, wCells, kCells, spCells, pCells, wCells, kCells, spCells, pCells, wCells, kCells, spCells, pCells, wCells, kCells, spCells, pCells, wCells, kCells]; done) | (simp [bcells_length, spCells, pCells, spCells, pCells, wCells, kCells, wCells, kCells, wCells, kCells, spCells, pCells, wCells, kCells, spCells, pCells, wCells, kCells, spCells, pCells, wCells, kCells, spCells, pCells, wCells, kCells]; omega) | (simp [bcells_length, *, spCells, pCells, spCells, pCells, wCells, kCells, wCells, kCells, wCells, kCells, spCells, pCells, wCells, kCells, spCells, pCells, wCells, kCells, spCells, pCells, wCells, kCells, spCells, pCells, wCells, kCells]; done)) infLawSuperPicks_75 rfl (by first | rfl | (simp [bcells_length, spCells, pCells, spCells, pCells, wCells, kCells, wCells, kCells, wCells, kCells, spCells, pCells, wCells, kCells, spCells, pCells, wCells, kCells, spCells, pCells, wCells, kCells, spCells, pCells, wCells, kCells]; done) | (simp [bcells_length, spCells, pCells, spCells, pCells, wCells, kCells, wCells, kCells, wCells, kCells, spCells, pCells, wCells, kCells, spCells, pCells, wCells, kCells, spCells, pCells, wCells, kCells, spCells, pCells, wCells, kCells]; omega) | (simp [bcells_length, *, spCells, pCells, spCells, pCells, wCells, kCells, wCells, kCells, wCells, kCells, spCells, pCells, wCells, kCells, spCells, pCells, wCells, kCells, spCells, pCells, wCells, kCells, spCells, pCells, wCells, kCells]; done)) (by first | rfl | exact bcells_all _ | (simp [Value.oneCell', spCells, pCells, spCells, pCells, wCells, kCells, wCells, kCells, wCells, kCells, spCells, pCells, wCells, kCells, spCells, pCells, wCells, kCells, spCells, pCells, wCells, kCells, spCells, pCells, wCells, kCells]; done) | (simp [Value.oneCell', *, spCells, pCells, spCells, pCells, wCells, kCells, wCells, kCells, wCells, kCells, spCells, pCells, wCells, kCells, spCells, pCells, wCells, kCells, spCells, pCells, wCells, kCells, spCells, pCells, wCells, kCells]; done))) rfl ?_
   refine G_val rfl rfl rfl rfl (V_assign rfl rfl) ?_
   refine G_done ?_
   refine G_seq ?_
   refine G_region (l := [0, 1, 2, 3, 4, 5, 6, 7, 8, 9, 10, 11, 12]) rfl ?_
   refine G_val rfl rfl rfl rfl (V_move rfl rfl) ?_
   refine G_call (L2 := [_, _, _, _]) rfl rfl rfl rfl rfl rfl Try.call52 (sl_num _) [] [] rfl rfl ?_
   rintro v post ⟨rfl, rfl⟩
   show G _ _ _ [_, _, _, _] _
   refine G_val rfl rfl rfl rfl (V_eql rfl rfl rfl) ?_
   refine G_val rfl rfl rfl rfl (V_move rfl rfl) ?_
   refine G_splitD 134 rfl (fun hc7 => ?_) (fun hc7 => ?_)
   rotate_left
   · (first | (exact absurd rfl hc7) | (exact absurd hc7 (by decide)) | (exact absurd (by decide) hc7) | (simp at hc7; omega) | (exfalso; omega))
   first
     | refine G_val rfl rfl rfl rfl (V_loadW (s := 5) rfl rfl (mem_at 3 rfl) Try.underlying75 rfl infLawSuperPicks_75 rfl (by first | rfl | (simp [bcells_length, spCells, pCells, spCells, pCells, wCells, kCells, wCells, kCells, wCells, kCells, spCells, pCells, wCells, kCells, spCells, pCells, wCells, kCells, spCells, pCells, wCells, kCells, spCells, pCells, wCells, kCells]; done) | (simp [bcells_length, spCells, pCells, spCells, pCells, wCells, kCells, wCells, kCells, wCells, kCells, spCells, pCells, wCells, kCells, spCells, pCells, wCells, kCells, spCells, pCells, wCells, kCells, spCells, pCells, wCells, kCells]; omega) | (simp [bcells_length, *, spCells, pCells, spCells, pCells, wCells, kCells, wCells, kCells, wCells, kCells, spCells, pCells, wCells, kCells, spCells, pCells, wCells, kCells, spCells, pCells, wCells, kCells, spCells, pCells, wCells, kCells]; done))) ?_
     | refine G_val rfl rfl rfl rfl (V_loadA (s := 5) rfl rfl (mem_at 3 rfl) Try.underlying75 rfl infLawSuperPicks_75 rfl rfl (by first | rfl | (simp [bcells_length, spCells, pCells, spCells, pCells, wCells, kCells, wCells, kCells, wCells, kCells, spCells, pCells, wCells, kCells, spCells, pCells, wCells, kCells, spCells, pCells, wCells, kCells, spCells, pCells, wCells, kCells]; done) | (simp [bcells_length, spCells, pCells, spCells, pCells, wCells, kCells, wCells, kCells, wCells, kCells, spCells, pCells, wCells, kCells, spCells, pCells, wCells, kCells, spCells, pCells, wCells, kCells, spCells, pCells, wCells, kCells]; omega) | (simp [bcells_length, *, spCells, pCells, spCells, pCells, wCells, kCells, wCells, kCells, wCells, kCells, spCells, pCells, wCells, kCells, spCells, pCells, wCells, kCells, spCells, pCells, wCells, kCells, spCells, pCells, wCells, kCells]; done))) ?_
   refine G_call (L2 := [_, _, _, _]) rfl rfl rfl rfl rfl rfl Try.call59 (sup_store_nil s) [] [] rfl rfl ?_
   rintro v post ⟨rfl, rfl⟩
   show G _ _ _ [_, _, _, _] _
   refine G_call (L2 := [_, _, _, _]) rfl rfl rfl rfl rfl rfl Try.call52 (sl_num _) [] [] rfl rfl ?_
   rintro v post ⟨rfl, rfl⟩
   show G _ _ _ [_, _, _, _] _
   refine G_val rfl rfl rfl rfl (V_eql rfl rfl rfl) ?_
   refine G_val rfl rfl rfl rfl (V_pickT rfl rfl rfl) ?_
   refine G_val rfl rfl rfl rfl (V_move rfl rfl) ?_
   refine G_splitD 140 rfl (fun hc8 => ?_) (fun hc8 => ?_)
   rotate_left
   · (first | (exact absurd rfl hc8) | (exact absurd hc8 (by decide)) | (exact absurd (by decide) hc8) | (simp at hc8; omega) | (exfalso; omega))
   refine G_call (L2 := [_, _, _, _]) rfl rfl rfl rfl rfl rfl Try.call47 (sl_live) [] [] rfl rfl ?_
   rintro v post ⟨rfl, rfl⟩
   show G _ _ _ [_, _, _, _] _
   refine G_val rfl rfl rfl rfl (V_pickT rfl rfl rfl) ?_
   refine G_val rfl rfl rfl rfl (V_assign rfl rfl) ?_
   refine G_done ?_
   refine G_ret (post := []) Try.func11 rfl (RVs_cons (RV_tmp rfl) RVs_nil) [] rfl ?_
   dsimp only [packed]
   exact ⟨rfl, rfl⟩
 refine G_off rfl rfl rfl rfl ?_
 refine G_off rfl rfl rfl rfl ?_
 refine G_off rfl rfl rfl rfl ?_
 refine G_val rfl rfl rfl rfl (V_pickF rfl rfl rfl) ?_
 refine G_done ?_
 refine G_else rfl ?_
 refine G_skip ?_
 refine G_seq ?_
 refine G_region (l := [0, 1, 2, 3, 4, 5, 6]) rfl ?_
 refine G_call (L2 := [_, _, _]) rfl rfl rfl rfl rfl rfl Try.call58 sup_load_nil [] [] rfl rfl ?_
 rintro v post ⟨rfl, rfl⟩
 show G _ _ _ [_, _, _] _
 refine G_val rfl rfl rfl rfl (V_move rfl rfl) ?_
 refine G_val rfl rfl rfl rfl (V_extract rfl rfl rfl) ?_
 refine G_val rfl rfl rfl rfl (V_extract rfl rfl rfl) ?_
 refine G_new rfl rfl rfl rfl (N_allocA rfl infLawSuperPicks_75 rfl) (fun b17 => ?_)
 refine G_put (l1 := []) (L' := [_, _, _, _]) rfl rfl rfl rfl (P_storeA (s := 5) rfl rfl rfl (mem_at 0 rfl) (by first | rfl | (simp [bcells_length, spCells, pCells, spCells, pCells, wCells, kCells, wCells, kCells, wCells, kCells, spCells, pCells, wCells, kCells, spCells, pCells, wCells, kCells, spCells, pCells, wCells, kCells, spCells, pCells, wCells, kCells]; done) | (simp [bcells_length, spCells, pCells, spCells, pCells, wCells, kCells, wCells, kCells, wCells, kCells, spCells, pCells, wCells, kCells, spCells, pCells, wCells, kCells, spCells, pCells, wCells, kCells, spCells, pCells, wCells, kCells]; omega) | (simp [bcells_length, *, spCells, pCells, spCells, pCells, wCells, kCells, wCells, kCells, wCells, kCells, spCells, pCells, wCells, kCells, spCells, pCells, wCells, kCells, spCells, pCells, wCells, kCells, spCells, pCells, wCells, kCells]; done)) infLawSuperPicks_75 rfl (by first | rfl | (simp [bcells_length, spCells, pCells, spCells, pCells, wCells, kCells, wCells, kCells, wCells, kCells, spCells, pCells, wCells, kCells, spCells, pCells, wCells, kCells, spCells, pCells, wCells, kCells, spCells, pCells, wCells, kCells]; done) | (simp [bcells_length, spCells, pCells, spCells, pCells, wCells, kCells, wCells, kCells, wCells, kCells, spCells, pCells, wCells, kCells, spCells, pCells, wCells, kCells, spCells, pCells, wCells, kCells, spCells, pCells, wCells, kCells]; omega) | (simp [bcells_length, *, spCells, pCells, spCells, pCells, wCells, kCells, wCells, kCells, wCells, kCells, spCells, pCells, wCells, kCells, spCells, pCells, wCells, kCells, spCells, pCells, wCells, kCells, spCells, pCells, wCells, kCells]; done)) (by first | rfl | exact bcells_all _ | (simp [Value.oneCell', spCells, pCells, spCells, pCells, wCells, kCells, wCells, kCells, wCells, kCells, spCells, pCells, wCells, kCells, spCells, pCells, wCells, kCells, spCells, pCells, wCells, kCells, spCells, pCells, wCells, kCells]; done) | (simp [Value.oneCell', *, spCells, pCells, spCells, pCells, wCells, kCells, wCells, kCells, wCells, kCells, spCells, pCells, wCells, kCells, spCells, pCells, wCells, kCells, spCells, pCells, wCells, kCells, spCells, pCells, wCells, kCells]; done))) rfl ?_
 refine G_val rfl rfl rfl rfl (V_assign rfl rfl) ?_
 refine G_done ?_
 refine G_seq ?_
 refine G_region (l := [0, 1, 2, 3, 4, 5, 6, 7, 8, 9, 10, 11, 12]) rfl ?_
 refine G_val rfl rfl rfl rfl (V_move rfl rfl) ?_
 refine G_call (L2 := [_, _, _, _]) rfl rfl rfl rfl rfl rfl Try.call52 (sl_num _) [] [] rfl rfl ?_
 rintro v post ⟨rfl, rfl⟩
 show G _ _ _ [_, _, _, _] _
 refine G_val rfl rfl rfl rfl (V_eql rfl rfl rfl) ?_
 refine G_val rfl rfl rfl rfl (V_move rfl rfl) ?_
 refine G_splitD 134 rfl (fun hc6 => ?_) (fun hc6 => ?_)
 rotate_left
 · (first | (exact absurd rfl hc6) | (exact absurd hc6 (by decide)) | (exact absurd (by decide) hc6) | (simp at hc6; omega) | (exfalso; omega))
 first
   | refine G_val rfl rfl rfl rfl (V_loadW (s := 5) rfl rfl (mem_at 3 rfl) Try.underlying75 rfl infLawSuperPicks_75 rfl (by first | rfl | (simp [bcells_length, spCells, pCells, spCells, pCells, wCells, kCells, wCells, kCells, wCells, kCells, spCells, pCells, wCells, kCells, spCells, pCells, wCells, kCells, spCells, pCells, wCells, kCells, spCells, pCells, wCells, kCells]; done) | (simp [bcells_length, spCells, pCells, spCells, pCells, wCells, kCells, wCells, kCells, wCells, kCells, spCells, pCells, wCells, kCells, spCells, pCells, wCells, kCells, spCells, pCells, wCells, kCells, spCells, pCells, wCells, kCells]; omega) | (simp [bcells_length, *, spCells, pCells, spCells, pCells, wCells, kCells, wCells, kCells, wCells, kCells, spCells, pCells, wCells, kCells, spCells, pCells, wCells, kCells, spCells, pCells, wCells, kCells, spCells, pCells, wCells, kCells]; done))) ?_
   | refine G_val rfl rfl rfl rfl (V_loadA (s := 5) rfl rfl (mem_at 3 rfl) Try.underlying75 rfl infLawSuperPicks_75 rfl rfl (by first | rfl | (simp [bcells_length, spCells, pCells, spCells, pCells, wCells, kCells, wCells, kCells, wCells, kCells, spCells, pCells, wCells, kCells, spCells, pCells, wCells, kCells, spCells, pCells, wCells, kCells, spCells, pCells, wCells, kCells]; done) | (simp [bcells_length, spCells, pCells, spCells, pCells, wCells, kCells, wCells, kCells, wCells, kCells, spCells, pCells, wCells, kCells, spCells, pCells, wCells, kCells, spCells, pCells, wCells, kCells, spCells, pCells, wCells, kCells]; omega) | (simp [bcells_length, *, spCells, pCells, spCells, pCells, wCells, kCells, wCells, kCells, wCells, kCells, spCells, pCells, wCells, kCells, spCells, pCells, wCells, kCells, spCells, pCells, wCells, kCells, spCells, pCells, wCells, kCells]; done))) ?_
 refine G_call (L2 := [_, _, _, _]) rfl rfl rfl rfl rfl rfl Try.call59 (sup_store_nil s) [] [] rfl rfl ?_
 rintro v post ⟨rfl, rfl⟩
 show G _ _ _ [_, _, _, _] _
 refine G_call (L2 := [_, _, _, _]) rfl rfl rfl rfl rfl rfl Try.call52 (sl_num _) [] [] rfl rfl ?_
 rintro v post ⟨rfl, rfl⟩
 show G _ _ _ [_, _, _, _] _
 refine G_val rfl rfl rfl rfl (V_eql rfl rfl rfl) ?_
 refine G_val rfl rfl rfl rfl (V_pickT rfl rfl rfl) ?_
 refine G_val rfl rfl rfl rfl (V_move rfl rfl) ?_
 refine G_splitD 140 rfl (fun hc7 => ?_) (fun hc7 => ?_)
 rotate_left
 · (first | (exact absurd rfl hc7) | (exact absurd hc7 (by decide)) | (exact absurd (by decide) hc7) | (simp at hc7; omega) | (exfalso; omega))
 refine G_call (L2 := [_, _, _, _]) rfl rfl rfl rfl rfl rfl Try.call47 (sl_live) [] [] rfl rfl ?_
 rintro v post ⟨rfl, rfl⟩
 show G _ _ _ [_, _, _, _] _
 refine G_val rfl rfl rfl rfl (V_pickT rfl rfl rfl) ?_
 refine G_val rfl rfl rfl rfl (V_assign rfl rfl) ?_
 refine G_done ?_
 refine G_ret (post := []) Try.func11 rfl (RVs_cons (RV_tmp rfl) RVs_nil) [] rfl ?_
 dsimp only [packed]
 exact ⟨rfl, rfl⟩


set_option maxRecDepth 100000 in
theorem superPicks_walk : LawWalk 11 Try.f11 := lawwalk_of (fun W base args hs hval => by
  rw [Try.params11] at hs hval
  obtain ⟨l⟩ := args
  match l, hs with
  | [a, b, c], _ =>
    obtain ⟨t, rfl, p⟩ := okc_str (okv_cell (hval 0 9 a rfl rfl) Try.underlying9 rfl) Try.underlying9
    obtain ⟨u, rfl, q⟩ := okc_str (okv_cell (hval 1 9 b rfl rfl) Try.underlying9 rfl) Try.underlying9
    obtain ⟨s, rfl, hq⟩ := sp_of (hval 2 75 c rfl rfl)
    exact ⟨[], has_nil _, superPicks_all t u p q s hq⟩)


theorem superPicks_holds : Rows.SuperPicksSaid :=
  OpenClaim.holds_of_wide 11 Try.f11 rfl rfl rfl rfl rfl rfl rfl ⟨rfl, rfl, rfl, rfl, rfl⟩ rfl rfl rfl rfl rfl (by kernel_rfl) Try.func11 (by kernel_rfl)
    (of_decide_eq_true (by kernel_rfl)) (by unfold Func.isWrapper; rw [if_neg (by decide +kernel)]; exact ⟨rfl, rfl⟩)
    (fun os started H enc _ => law_lifted (s := Rows.superPicksSpec) os started H enc Try.func11 (by kernel_rfl)
      (ChangeSpec.witness6 (enc := enc) (C := Try.checked) false ⟨#[], #[.string ByteArray.empty, .string ByteArray.empty, .agg #[.int .u32 0, .int .u32 0, .int .u32 0, .int .i64 0, .int .i64 0]], []⟩ 8 (by kernel_rfl) (by kernel_rfl) (by kernel_rfl) (by kernel_rfl))
      rfl (by kernel_rfl) (by kernel_rfl) (by decide +kernel) (fun ds h => by match ds, h with | [_, _, _], _ => rfl) superPicks_walk)
#print axioms superPicks_holds

end
end Go.Proofs.Ytkidmbaakdaflaa
