/- The walks of layer 24, on: what a disk loads, and stores. -/
import Derived.Test.YtkidmbaakdaflaaSuperL
set_option linter.unusedSimpArgs false
set_option linter.unusedVariables false
namespace Go.Proofs.Ytkidmbaakdaflaa
open Go Go.RowKit

section
theorem infSuperD_75 : Try.prog.info? 75 = some Try.t75 := by kernel_rfl
theorem plcSuperD_75 : placesOf Try.prog (Try.prog.fieldsOf 75) = some [(0, 1), (1, 1), (2, 1), (3, 1), (4, 1)] := by kernel_rfl


theorem lastW_len {a : Int} : ∀ (W : List (Int × List UInt8)) (s : List UInt8), s.length ≤ 64 → (∀ x ∈ W, x.2.length = 64) → (lastW s a W).length ≤ 64
  | [], s, h, _ => h
  | x :: W, s, h, hW => by
    show (lastW (if x.1 = a then x.2 else s) a W).length ≤ 64
    refine lastW_len W _ ?_ (fun y hy => hW y (by simp [hy]))
    split
    · have := hW x (by simp); omega
    · exact h
theorem readS_len {k : Dk} (h : DkOk k) (a : Int) : (k.readS a).length ≤ 64 := by
  unfold Dk.readS
  split
  · simp
  · rename_i hn
    refine lastW_len _ _ ?_ h.w64
    rcases Nat.lt_or_ge a.toNat k.L.length with hl | hl
    · rw [getD64 h.l64 hl]; exact Nat.le_refl _
    · rw [List.getD_eq_getElem?_getD, List.getElem?_eq_none hl]; simp
theorem pickStep_zero {o : Sp} {b : List UInt8} {i : Nat} (ho : o.seq = 0 → o = zeroSp) (h : (pickStep o b i).seq = 0) : pickStep o b i = zeroSp := by
  unfold pickStep at *
  split
  · rename_i hc; rw [if_pos hc] at h; have := hc.2.2; omega
  · rename_i hc; rw [if_neg hc] at h; exact ho h
theorem pickS_zero {a b : List UInt8} (h : (pickS a b).seq = 0) : pickS a b = zeroSp := pickStep_zero (fun h' => pickStep_zero (fun _ => rfl) h') h
def loadE (k : Dk) : Int := if k.readE 0 ≠ 0 then k.readE 0 else if k.readE 1 ≠ 0 then k.readE 1 else if 0 < (pickS (k.readS 0) (k.readS 1)).seq then 0 else 18
def loadS (k : Dk) : Sp := if k.readE 0 ≠ 0 ∨ k.readE 1 ≠ 0 then zeroSp else pickS (k.readS 0) (k.readS 1)
theorem load_1 {k : Dk} (h : ¬ k.readE 0 = 0) : loadS k = zeroSp ∧ loadE k = k.readE 0 := by
  unfold loadS loadE; rw [if_pos (.inl h), if_pos h]; exact ⟨rfl, rfl⟩
theorem load_2 {k : Dk} (h : k.readE 0 = 0) (h1 : ¬ k.readE 1 = 0) : loadS k = zeroSp ∧ loadE k = k.readE 1 := by
  unfold loadS loadE; rw [if_pos (.inr h1), if_neg (by rw [h]; simp), if_pos h1]; exact ⟨rfl, rfl⟩
theorem load_3 {k : Dk} (h : k.readE 0 = 0) (h1 : k.readE 1 = 0) (h2 : (!decide ((0 : Int) < ((pickS (k.readS 0) (k.readS 1)).seq : Int))) = true) : loadS k = zeroSp ∧ loadE k = 18 := by
  have h3 : ¬ 0 < (pickS (k.readS 0) (k.readS 1)).seq := by simp at h2; omega
  unfold loadS loadE; rw [h, h1]; simp [h3]; exact pickS_zero (by omega)
theorem load_4 {k : Dk} (h : k.readE 0 = 0) (h1 : k.readE 1 = 0) (h2 : (!decide ((0 : Int) < ((pickS (k.readS 0) (k.readS 1)).seq : Int))) = false) : loadS k = pickS (k.readS 0) (k.readS 1) ∧ loadE k = 0 := by
  have h3 : 0 < (pickS (k.readS 0) (k.readS 1)).seq := by simp at h2; omega
  unfold loadS loadE; rw [h, h1]; simp [h3]
def storeK (k : Dk) (s : Sp) : Dk := if MayS s then (if k.writeE ((s.seq : Int) % 2) (encS s) ≠ 0 then k.write ((s.seq : Int) % 2) (encS s) else (k.write ((s.seq : Int) % 2) (encS s)).sync) else k
def storeE (k : Dk) (s : Sp) : Int := if MayS s then (if k.writeE ((s.seq : Int) % 2) (encS s) ≠ 0 then k.writeE ((s.seq : Int) % 2) (encS s) else (k.write ((s.seq : Int) % 2) (encS s)).syncE) else 1
theorem store_no {k : Dk} {s : Sp} (h : ¬ MayS s) : storeK k s = k ∧ storeE k s = 1 := by unfold storeK storeE; rw [if_neg h, if_neg h]; exact ⟨rfl, rfl⟩
theorem store_w {k : Dk} {s : Sp} (h : MayS s) (hw : ¬ k.writeE ((s.seq : Int) % 2) (encS s) = 0) : storeK k s = k.write ((s.seq : Int) % 2) (encS s) ∧ storeE k s = k.writeE ((s.seq : Int) % 2) (encS s) := by
  unfold storeK storeE; rw [if_pos h, if_pos h, if_pos hw, if_pos hw]; exact ⟨rfl, rfl⟩
theorem store_y {k : Dk} {s : Sp} (h : MayS s) (hw : k.writeE ((s.seq : Int) % 2) (encS s) = 0) : storeK k s = (k.write ((s.seq : Int) % 2) (encS s)).sync ∧ storeE k s = (k.write ((s.seq : Int) % 2) (encS s)).syncE := by
  unfold storeK storeE; rw [if_pos h, if_pos h, if_neg (by rw [hw]; simp), if_neg (by rw [hw]; simp)]; exact ⟨rfl, rfl⟩

set_option maxRecDepth 100000 in
set_option maxHeartbeats 1000000 in
theorem sup_load (d n lb lcap : Nat) (lcs : Array Value) (uw : Sl) (k : Dk) (h : DkAt k n lb lcs lcap uw) :
    Ct Try.prog 58 [.pointer (some ⟨d, 0, none⟩)] [(some d, .cells #[.slice (some ⟨lb, 0, none⟩) n lcap, uw.v k.W.length, .int .i64 k.fuse, .bool k.dead] 147 (0, 0)), (some lb, .cells lcs 9 (0, 0)), (uw.ob, .cells uw.cs 151 uw.fz)] [] fun v post => v = .tuple #[.agg (spCells (loadS k)).toArray, .int .i64 (loadE k)] ∧ post = [] := by
 have hr0 := readS_len h.ok 0
 have hr1 := readS_len h.ok 1
 refine ct_of Try.func58 rfl rfl (fun w0 => ?_)
 show G _ _ [(0, _)] _ _
 refine G_seq ?_
 refine G_region (l := [0, 1]) rfl ?_
 refine G_new rfl rfl rfl rfl (N_allocA rfl infSuperD_75 rfl) (fun b2 => ?_)
 refine G_val rfl rfl rfl rfl (V_assign rfl rfl) ?_
 refine G_done ?_
 refine G_seq ?_
 refine G_region (l := [0, 1, 2, 3, 4, 5, 6]) rfl ?_
 refine G_val rfl rfl rfl rfl (V_move rfl rfl) ?_
 refine G_call (L2 := [_]) rfl rfl rfl rfl rfl rfl Try.call40 (dk_read d n lb lcap lcs uw k h 0) [] [0, 1, 2] rfl rfl ?_
 rintro v post ⟨rfl, rfl⟩
 show G _ _ _ [_] _
 refine G_val rfl rfl rfl rfl (V_move rfl rfl) ?_
 refine G_val rfl rfl rfl rfl (V_extract rfl rfl rfl) ?_
 refine G_val rfl rfl rfl rfl (V_extract rfl rfl rfl) ?_
 refine G_val rfl rfl rfl rfl (V_assign rfl rfl) ?_
 refine G_val rfl rfl rfl rfl (V_assign rfl rfl) ?_
 refine G_done ?_
 refine G_seq ?_
 refine G_seq ?_
 refine G_region (l := [0, 1]) rfl ?_
 refine G_val rfl rfl rfl rfl (V_move rfl rfl) ?_
 refine G_val rfl rfl rfl rfl (V_neq rfl rfl rfl) ?_
 refine G_done ?_
 refine G_ifD rfl (fun hc1 => ?_) (fun hc1 => ?_)
 · skip
   refine G_seq ?_
   refine G_region (l := [0, 1, 2, 3]) rfl ?_
   refine G_val rfl rfl rfl rfl (V_buildS (cs := [_, _, _, _, _]) rfl Try.underlying75 infSuperD_75 rfl plcSuperD_75 rfl rfl rfl) ?_
   refine G_val rfl rfl rfl rfl (V_move rfl rfl) ?_
   refine G_put (l1 := []) (L' := [_]) rfl rfl rfl rfl (P_storeA (s := 5) rfl rfl rfl (mem_at 0 rfl) (by first | rfl | (simp [bcells_length, spCells, pCells, spCells, pCells, wCells, kCells, wCells, kCells, wCells, kCells, spCells, pCells, wCells, kCells, spCells, pCells, wCells, kCells, spCells, pCells, wCells, kCells]; done) | (simp [bcells_length, spCells, pCells, spCells, pCells, wCells, kCells, wCells, kCells, wCells, kCells, spCells, pCells, wCells, kCells, spCells, pCells, wCells, kCells, spCells, pCells, wCells, kCells]; omega) | (simp [bcells_length, *, spCells, pCells, spCells, pCells, wCells, kCells, wCells, kCells, wCells, kCells, spCells, pCells, wCells, kCells, spCells, pCells, wCells, kCells, spCells, pCells, wCells, kCells]; done)) infSuperD_75 rfl (by first | rfl | (simp [bcells_length, spCells, pCells, spCells, pCells, wCells, kCells, wCells, kCells, wCells, kCells, spCells, pCells, wCells, kCells, spCells, pCells, wCells, kCells, spCells, pCells, wCells, kCells]; done) | (simp [bcells_length, spCells, pCells, spCells, pCells, wCells, kCells, wCells, kCells, wCells, kCells, spCells, pCells, wCells, kCells, spCells, pCells, wCells, kCells, spCells, pCells, wCells, kCells]; omega) | (simp [bcells_length, *, spCells, pCells, spCells, pCells, wCells, kCells, wCells, kCells, wCells, kCells, spCells, pCells, wCells, kCells, spCells, pCells, wCells, kCells, spCells, pCells, wCells, kCells]; done)) (by first | rfl | exact bcells_all _ | (simp [Value.oneCell', spCells, pCells, spCells, pCells, wCells, kCells, wCells, kCells, wCells, kCells, spCells, pCells, wCells, kCells, spCells, pCells, wCells, kCells, spCells, pCells, wCells, kCells]; done) | (simp [Value.oneCell', *, spCells, pCells, spCells, pCells, wCells, kCells, wCells, kCells, wCells, kCells, spCells, pCells, wCells, kCells, spCells, pCells, wCells, kCells, spCells, pCells, wCells, kCells]; done))) rfl ?_
   refine G_val rfl rfl rfl rfl (V_assign rfl rfl) ?_
   refine G_done ?_
   refine G_ret (post := []) Try.func58 rfl (RVs_cons (RV_cell (s := 5) rfl (mem_at 3 rfl) Try.underlying75 rfl infSuperD_75 rfl (by first | rfl | (simp [bcells_length, spCells, pCells, spCells, pCells, wCells, kCells, wCells, kCells, wCells, kCells, spCells, pCells, wCells, kCells, spCells, pCells, wCells, kCells, spCells, pCells, wCells, kCells]; done) | (simp [bcells_length, spCells, pCells, spCells, pCells, wCells, kCells, wCells, kCells, wCells, kCells, spCells, pCells, wCells, kCells, spCells, pCells, wCells, kCells, spCells, pCells, wCells, kCells]; omega) | (simp [bcells_length, *, spCells, pCells, spCells, pCells, wCells, kCells, wCells, kCells, wCells, kCells, spCells, pCells, wCells, kCells, spCells, pCells, wCells, kCells, spCells, pCells, wCells, kCells]; done))) (RVs_cons (RV_tmp rfl) RVs_nil)) [] rfl ?_
   dsimp only [packed]
   first
     | (obtain ⟨e1, e2⟩ := load_1 (k := k) (by assumption); rw [e1, e2]; exact ⟨rfl, rfl⟩)
     | (obtain ⟨e1, e2⟩ := load_2 (k := k) (by omega) (by assumption); rw [e1, e2]; exact ⟨rfl, rfl⟩)
     | (obtain ⟨e1, e2⟩ := load_3 (k := k) (by omega) (by omega) (by assumption); rw [e1, e2]; exact ⟨rfl, rfl⟩)
     | (obtain ⟨e1, e2⟩ := load_4 (k := k) (by omega) (by omega) (by assumption); rw [e1, e2]; exact ⟨rfl, rfl⟩)
 refine G_skip ?_
 refine G_seq ?_
 refine G_region (l := [0, 1, 2, 3, 4, 5, 6]) rfl ?_
 refine G_val rfl rfl rfl rfl (V_move rfl rfl) ?_
 refine G_call (L2 := [_]) rfl rfl rfl rfl rfl rfl Try.call40 (dk_read d n lb lcap lcs uw k h 1) [] [0, 1, 2] rfl rfl ?_
 rintro v post ⟨rfl, rfl⟩
 show G _ _ _ [_] _
 refine G_val rfl rfl rfl rfl (V_move rfl rfl) ?_
 refine G_val rfl rfl rfl rfl (V_extract rfl rfl rfl) ?_
 refine G_val rfl rfl rfl rfl (V_extract rfl rfl rfl) ?_
 refine G_val rfl rfl rfl rfl (V_assign rfl rfl) ?_
 refine G_val rfl rfl rfl rfl (V_assign rfl rfl) ?_
 refine G_done ?_
 refine G_seq ?_
 refine G_seq ?_
 refine G_region (l := [0, 1]) rfl ?_
 refine G_val rfl rfl rfl rfl (V_move rfl rfl) ?_
 refine G_val rfl rfl rfl rfl (V_neq rfl rfl rfl) ?_
 refine G_done ?_
 refine G_ifD rfl (fun hc2 => ?_) (fun hc2 => ?_)
 · skip
   refine G_seq ?_
   refine G_region (l := [0, 1, 2, 3]) rfl ?_
   refine G_val rfl rfl rfl rfl (V_buildS (cs := [_, _, _, _, _]) rfl Try.underlying75 infSuperD_75 rfl plcSuperD_75 rfl rfl rfl) ?_
   refine G_val rfl rfl rfl rfl (V_move rfl rfl) ?_
   refine G_put (l1 := []) (L' := [_]) rfl rfl rfl rfl (P_storeA (s := 5) rfl rfl rfl (mem_at 0 rfl) (by first | rfl | (simp [bcells_length, spCells, pCells, spCells, pCells, wCells, kCells, wCells, kCells, wCells, kCells, spCells, pCells, wCells, kCells, spCells, pCells, wCells, kCells, spCells, pCells, wCells, kCells]; done) | (simp [bcells_length, spCells, pCells, spCells, pCells, wCells, kCells, wCells, kCells, wCells, kCells, spCells, pCells, wCells, kCells, spCells, pCells, wCells, kCells, spCells, pCells, wCells, kCells]; omega) | (simp [bcells_length, *, spCells, pCells, spCells, pCells, wCells, kCells, wCells, kCells, wCells, kCells, spCells, pCells, wCells, kCells, spCells, pCells, wCells, kCells, spCells, pCells, wCells, kCells]; done)) infSuperD_75 rfl (by first | rfl | (simp [bcells_length, spCells, pCells, spCells, pCells, wCells, kCells, wCells, kCells, wCells, kCells, spCells, pCells, wCells, kCells, spCells, pCells, wCells, kCells, spCells, pCells, wCells, kCells]; done) | (simp [bcells_length, spCells, pCells, spCells, pCells, wCells, kCells, wCells, kCells, wCells, kCells, spCells, pCells, wCells, kCells, spCells, pCells, wCells, kCells, spCells, pCells, wCells, kCells]; omega) | (simp [bcells_length, *, spCells, pCells, spCells, pCells, wCells, kCells, wCells, kCells, wCells, kCells, spCells, pCells, wCells, kCells, spCells, pCells, wCells, kCells, spCells, pCells, wCells, kCells]; done)) (by first | rfl | exact bcells_all _ | (simp [Value.oneCell', spCells, pCells, spCells, pCells, wCells, kCells, wCells, kCells, wCells, kCells, spCells, pCells, wCells, kCells, spCells, pCells, wCells, kCells, spCells, pCells, wCells, kCells]; done) | (simp [Value.oneCell', *, spCells, pCells, spCells, pCells, wCells, kCells, wCells, kCells, wCells, kCells, spCells, pCells, wCells, kCells, spCells, pCells, wCells, kCells, spCells, pCells, wCells, kCells]; done))) rfl ?_
   refine G_val rfl rfl rfl rfl (V_assign rfl rfl) ?_
   refine G_done ?_
   refine G_ret (post := []) Try.func58 rfl (RVs_cons (RV_cell (s := 5) rfl (mem_at 3 rfl) Try.underlying75 rfl infSuperD_75 rfl (by first | rfl | (simp [bcells_length, spCells, pCells, spCells, pCells, wCells, kCells, wCells, kCells, wCells, kCells, spCells, pCells, wCells, kCells, spCells, pCells, wCells, kCells, spCells, pCells, wCells, kCells]; done) | (simp [bcells_length, spCells, pCells, spCells, pCells, wCells, kCells, wCells, kCells, wCells, kCells, spCells, pCells, wCells, kCells, spCells, pCells, wCells, kCells, spCells, pCells, wCells, kCells]; omega) | (simp [bcells_length, *, spCells, pCells, spCells, pCells, wCells, kCells, wCells, kCells, wCells, kCells, spCells, pCells, wCells, kCells, spCells, pCells, wCells, kCells, spCells, pCells, wCells, kCells]; done))) (RVs_cons (RV_tmp rfl) RVs_nil)) [] rfl ?_
   dsimp only [packed]
   first
     | (obtain ⟨e1, e2⟩ := load_1 (k := k) (by assumption); rw [e1, e2]; exact ⟨rfl, rfl⟩)
     | (obtain ⟨e1, e2⟩ := load_2 (k := k) (by omega) (by assumption); rw [e1, e2]; exact ⟨rfl, rfl⟩)
     | (obtain ⟨e1, e2⟩ := load_3 (k := k) (by omega) (by omega) (by assumption); rw [e1, e2]; exact ⟨rfl, rfl⟩)
     | (obtain ⟨e1, e2⟩ := load_4 (k := k) (by omega) (by omega) (by assumption); rw [e1, e2]; exact ⟨rfl, rfl⟩)
 refine G_skip ?_
 refine G_seq ?_
 refine G_region (l := [0, 1, 2, 3, 4, 5, 6, 7, 8]) rfl ?_
 refine G_val rfl rfl rfl rfl (V_move rfl rfl) ?_
 refine G_val rfl rfl rfl rfl (V_move rfl rfl) ?_
 refine G_call (L2 := [_]) rfl rfl rfl rfl rfl rfl Try.call56 (sup_pick (k.readS 0) (k.readS 1) (by omega) (by omega)) [] [] rfl rfl ?_
 rintro v post ⟨rfl, rfl⟩
 show G _ _ _ [_] _
 refine G_val rfl rfl rfl rfl (V_move rfl rfl) ?_
 refine G_val rfl rfl rfl rfl (V_extract rfl rfl rfl) ?_
 refine G_val rfl rfl rfl rfl (V_extract rfl rfl rfl) ?_
 refine G_new rfl rfl rfl rfl (N_allocA rfl infSuperD_75 rfl) (fun b7 => ?_)
 refine G_put (l1 := []) (L' := [_, _]) rfl rfl rfl rfl (P_storeA (s := 5) rfl rfl rfl (mem_at 0 rfl) (by first | rfl | (simp [bcells_length, spCells, pCells, spCells, pCells, wCells, kCells, wCells, kCells, wCells, kCells, spCells, pCells, wCells, kCells, spCells, pCells, wCells, kCells, spCells, pCells, wCells, kCells]; done) | (simp [bcells_length, spCells, pCells, spCells, pCells, wCells, kCells, wCells, kCells, wCells, kCells, spCells, pCells, wCells, kCells, spCells, pCells, wCells, kCells, spCells, pCells, wCells, kCells]; omega) | (simp [bcells_length, *, spCells, pCells, spCells, pCells, wCells, kCells, wCells, kCells, wCells, kCells, spCells, pCells, wCells, kCells, spCells, pCells, wCells, kCells, spCells, pCells, wCells, kCells]; done)) infSuperD_75 rfl (by first | rfl | (simp [bcells_length, spCells, pCells, spCells, pCells, wCells, kCells, wCells, kCells, wCells, kCells, spCells, pCells, wCells, kCells, spCells, pCells, wCells, kCells, spCells, pCells, wCells, kCells]; done) | (simp [bcells_length, spCells, pCells, spCells, pCells, wCells, kCells, wCells, kCells, wCells, kCells, spCells, pCells, wCells, kCells, spCells, pCells, wCells, kCells, spCells, pCells, wCells, kCells]; omega) | (simp [bcells_length, *, spCells, pCells, spCells, pCells, wCells, kCells, wCells, kCells, wCells, kCells, spCells, pCells, wCells, kCells, spCells, pCells, wCells, kCells, spCells, pCells, wCells, kCells]; done)) (by first | rfl | exact bcells_all _ | (simp [Value.oneCell', spCells, pCells, spCells, pCells, wCells, kCells, wCells, kCells, wCells, kCells, spCells, pCells, wCells, kCells, spCells, pCells, wCells, kCells, spCells, pCells, wCells, kCells]; done) | (simp [Value.oneCell', *, spCells, pCells, spCells, pCells, wCells, kCells, wCells, kCells, wCells, kCells, spCells, pCells, wCells, kCells, spCells, pCells, wCells, kCells, spCells, pCells, wCells, kCells]; done))) rfl ?_
 refine G_val rfl rfl rfl rfl (V_assign rfl rfl) ?_
 refine G_done ?_
 refine G_seq ?_
 refine G_seq ?_
 refine G_region (l := [0, 1]) rfl ?_
 refine G_val rfl rfl rfl rfl (V_move rfl rfl) ?_
 refine G_val rfl rfl rfl rfl (V_not rfl rfl) ?_
 refine G_done ?_
 refine G_if rfl (fun hc3 => ?_) (fun hc3 => ?_)
 · skip
   refine G_seq ?_
   refine G_region (l := [0, 1, 2]) rfl ?_
   refine G_val rfl rfl rfl rfl (V_buildS (cs := [_, _, _, _, _]) rfl Try.underlying75 infSuperD_75 rfl plcSuperD_75 rfl rfl rfl) ?_
   refine G_put (l1 := [_]) (L' := [_, _]) rfl rfl rfl rfl (P_storeA (s := 5) rfl rfl rfl (mem_at 1 rfl) (by first | rfl | (simp [bcells_length, spCells, pCells, spCells, pCells, wCells, kCells, wCells, kCells, wCells, kCells, spCells, pCells, wCells, kCells, spCells, pCells, wCells, kCells, spCells, pCells, wCells, kCells]; done) | (simp [bcells_length, spCells, pCells, spCells, pCells, wCells, kCells, wCells, kCells, wCells, kCells, spCells, pCells, wCells, kCells, spCells, pCells, wCells, kCells, spCells, pCells, wCells, kCells]; omega) | (simp [bcells_length, *, spCells, pCells, spCells, pCells, wCells, kCells, wCells, kCells, wCells, kCells, spCells, pCells, wCells, kCells, spCells, pCells, wCells, kCells, spCells, pCells, wCells, kCells]; done)) infSuperD_75 rfl (by first | rfl | (simp [bcells_length, spCells, pCells, spCells, pCells, wCells, kCells, wCells, kCells, wCells, kCells, spCells, pCells, wCells, kCells, spCells, pCells, wCells, kCells, spCells, pCells, wCells, kCells]; done) | (simp [bcells_length, spCells, pCells, spCells, pCells, wCells, kCells, wCells, kCells, wCells, kCells, spCells, pCells, wCells, kCells, spCells, pCells, wCells, kCells, spCells, pCells, wCells, kCells]; omega) | (simp [bcells_length, *, spCells, pCells, spCells, pCells, wCells, kCells, wCells, kCells, wCells, kCells, spCells, pCells, wCells, kCells, spCells, pCells, wCells, kCells, spCells, pCells, wCells, kCells]; done)) (by first | rfl | exact bcells_all _ | (simp [Value.oneCell', spCells, pCells, spCells, pCells, wCells, kCells, wCells, kCells, wCells, kCells, spCells, pCells, wCells, kCells, spCells, pCells, wCells, kCells, spCells, pCells, wCells, kCells]; done) | (simp [Value.oneCell', *, spCells, pCells, spCells, pCells, wCells, kCells, wCells, kCells, wCells, kCells, spCells, pCells, wCells, kCells, spCells, pCells, wCells, kCells, spCells, pCells, wCells, kCells]; done))) rfl ?_
   refine G_val rfl rfl rfl rfl (V_assign rfl rfl) ?_
   refine G_done ?_
   refine G_ret (post := []) Try.func58 rfl (RVs_cons (RV_cell (s := 5) rfl (mem_at 4 rfl) Try.underlying75 rfl infSuperD_75 rfl (by first | rfl | (simp [bcells_length, spCells, pCells, spCells, pCells, wCells, kCells, wCells, kCells, wCells, kCells, spCells, pCells, wCells, kCells, spCells, pCells, wCells, kCells, spCells, pCells, wCells, kCells]; done) | (simp [bcells_length, spCells, pCells, spCells, pCells, wCells, kCells, wCells, kCells, wCells, kCells, spCells, pCells, wCells, kCells, spCells, pCells, wCells, kCells, spCells, pCells, wCells, kCells]; omega) | (simp [bcells_length, *, spCells, pCells, spCells, pCells, wCells, kCells, wCells, kCells, wCells, kCells, spCells, pCells, wCells, kCells, spCells, pCells, wCells, kCells, spCells, pCells, wCells, kCells]; done))) (RVs_cons (RV_tmp rfl) RVs_nil)) [] rfl ?_
   dsimp only [packed]
   first
     | (obtain ⟨e1, e2⟩ := load_1 (k := k) (by assumption); rw [e1, e2]; exact ⟨rfl, rfl⟩)
     | (obtain ⟨e1, e2⟩ := load_2 (k := k) (by omega) (by assumption); rw [e1, e2]; exact ⟨rfl, rfl⟩)
     | (obtain ⟨e1, e2⟩ := load_3 (k := k) (by omega) (by omega) (by assumption); rw [e1, e2]; exact ⟨rfl, rfl⟩)
     | (obtain ⟨e1, e2⟩ := load_4 (k := k) (by omega) (by omega) (by assumption); rw [e1, e2]; exact ⟨rfl, rfl⟩)
 refine G_skip ?_
 refine G_seq ?_
 refine G_region (l := [0, 1, 2]) rfl ?_
 first
   | refine G_val rfl rfl rfl rfl (V_loadW (s := 5) rfl rfl (mem_at 3 rfl) Try.underlying75 rfl infSuperD_75 rfl (by first | rfl | (simp [bcells_length, spCells, pCells, spCells, pCells, wCells, kCells, wCells, kCells, wCells, kCells, spCells, pCells, wCells, kCells, spCells, pCells, wCells, kCells, spCells, pCells, wCells, kCells]; done) | (simp [bcells_length, spCells, pCells, spCells, pCells, wCells, kCells, wCells, kCells, wCells, kCells, spCells, pCells, wCells, kCells, spCells, pCells, wCells, kCells, spCells, pCells, wCells, kCells]; omega) | (simp [bcells_length, *, spCells, pCells, spCells, pCells, wCells, kCells, wCells, kCells, wCells, kCells, spCells, pCells, wCells, kCells, spCells, pCells, wCells, kCells, spCells, pCells, wCells, kCells]; done))) ?_
   | refine G_val rfl rfl rfl rfl (V_loadA (s := 5) rfl rfl (mem_at 3 rfl) Try.underlying75 rfl infSuperD_75 rfl rfl (by first | rfl | (simp [bcells_length, spCells, pCells, spCells, pCells, wCells, kCells, wCells, kCells, wCells, kCells, spCells, pCells, wCells, kCells, spCells, pCells, wCells, kCells, spCells, pCells, wCells, kCells]; done) | (simp [bcells_length, spCells, pCells, spCells, pCells, wCells, kCells, wCells, kCells, wCells, kCells, spCells, pCells, wCells, kCells, spCells, pCells, wCells, kCells, spCells, pCells, wCells, kCells]; omega) | (simp [bcells_length, *, spCells, pCells, spCells, pCells, wCells, kCells, wCells, kCells, wCells, kCells, spCells, pCells, wCells, kCells, spCells, pCells, wCells, kCells, spCells, pCells, wCells, kCells]; done))) ?_
 refine G_put (l1 := [_]) (L' := [_, _]) rfl rfl rfl rfl (P_storeA (s := 5) rfl rfl rfl (mem_at 1 rfl) (by first | rfl | (simp [bcells_length, spCells, pCells, spCells, pCells, wCells, kCells, wCells, kCells, wCells, kCells, spCells, pCells, wCells, kCells, spCells, pCells, wCells, kCells, spCells, pCells, wCells, kCells]; done) | (simp [bcells_length, spCells, pCells, spCells, pCells, wCells, kCells, wCells, kCells, wCells, kCells, spCells, pCells, wCells, kCells, spCells, pCells, wCells, kCells, spCells, pCells, wCells, kCells]; omega) | (simp [bcells_length, *, spCells, pCells, spCells, pCells, wCells, kCells, wCells, kCells, wCells, kCells, spCells, pCells, wCells, kCells, spCells, pCells, wCells, kCells, spCells, pCells, wCells, kCells]; done)) infSuperD_75 rfl (by first | rfl | (simp [bcells_length, spCells, pCells, spCells, pCells, wCells, kCells, wCells, kCells, wCells, kCells, spCells, pCells, wCells, kCells, spCells, pCells, wCells, kCells, spCells, pCells, wCells, kCells]; done) | (simp [bcells_length, spCells, pCells, spCells, pCells, wCells, kCells, wCells, kCells, wCells, kCells, spCells, pCells, wCells, kCells, spCells, pCells, wCells, kCells, spCells, pCells, wCells, kCells]; omega) | (simp [bcells_length, *, spCells, pCells, spCells, pCells, wCells, kCells, wCells, kCells, wCells, kCells, spCells, pCells, wCells, kCells, spCells, pCells, wCells, kCells, spCells, pCells, wCells, kCells]; done)) (by first | rfl | exact bcells_all _ | (simp [Value.oneCell', spCells, pCells, spCells, pCells, wCells, kCells, wCells, kCells, wCells, kCells, spCells, pCells, wCells, kCells, spCells, pCells, wCells, kCells, spCells, pCells, wCells, kCells]; done) | (simp [Value.oneCell', *, spCells, pCells, spCells, pCells, wCells, kCells, wCells, kCells, wCells, kCells, spCells, pCells, wCells, kCells, spCells, pCells, wCells, kCells, spCells, pCells, wCells, kCells]; done))) rfl ?_
 refine G_val rfl rfl rfl rfl (V_assign rfl rfl) ?_
 refine G_done ?_
 refine G_ret (post := []) Try.func58 rfl (RVs_cons (RV_cell (s := 5) rfl (mem_at 4 rfl) Try.underlying75 rfl infSuperD_75 rfl (by first | rfl | (simp [bcells_length, spCells, pCells, spCells, pCells, wCells, kCells, wCells, kCells, wCells, kCells, spCells, pCells, wCells, kCells, spCells, pCells, wCells, kCells, spCells, pCells, wCells, kCells]; done) | (simp [bcells_length, spCells, pCells, spCells, pCells, wCells, kCells, wCells, kCells, wCells, kCells, spCells, pCells, wCells, kCells, spCells, pCells, wCells, kCells, spCells, pCells, wCells, kCells]; omega) | (simp [bcells_length, *, spCells, pCells, spCells, pCells, wCells, kCells, wCells, kCells, wCells, kCells, spCells, pCells, wCells, kCells, spCells, pCells, wCells, kCells, spCells, pCells, wCells, kCells]; done))) (RVs_cons (RV_tmp rfl) RVs_nil)) [] rfl ?_
 dsimp only [packed]
 first
   | (obtain ⟨e1, e2⟩ := load_1 (k := k) (by assumption); rw [e1, e2]; exact ⟨rfl, rfl⟩)
   | (obtain ⟨e1, e2⟩ := load_2 (k := k) (by omega) (by assumption); rw [e1, e2]; exact ⟨rfl, rfl⟩)
   | (obtain ⟨e1, e2⟩ := load_3 (k := k) (by omega) (by omega) (by assumption); rw [e1, e2]; exact ⟨rfl, rfl⟩)
   | (obtain ⟨e1, e2⟩ := load_4 (k := k) (by omega) (by omega) (by assumption); rw [e1, e2]; exact ⟨rfl, rfl⟩)

set_option maxRecDepth 100000 in
set_option maxHeartbeats 1000000 in
theorem sup_load_nil  :
    Ct Try.prog 58 [.pointer none] [] [] fun v post => v = .tuple #[.agg (spCells zeroSp).toArray, .int .i64 19] ∧ post = [] := by
 refine ct_of Try.func58 rfl rfl (fun w0 => ?_)
 show G _ _ [(0, _)] _ _
 refine G_seq ?_
 refine G_region (l := [0, 1]) rfl ?_
 refine G_new rfl rfl rfl rfl (N_allocA rfl infSuperD_75 rfl) (fun b2 => ?_)
 refine G_val rfl rfl rfl rfl (V_assign rfl rfl) ?_
 refine G_done ?_
 refine G_seq ?_
 refine G_region (l := [0, 1, 2, 3, 4, 5, 6]) rfl ?_
 refine G_val rfl rfl rfl rfl (V_move rfl rfl) ?_
 refine G_call (L2 := [_]) rfl rfl rfl rfl rfl rfl Try.call40 (dk_read_nil 0) [] [] rfl rfl ?_
 rintro v post ⟨rfl, rfl⟩
 show G _ _ _ [_] _
 refine G_val rfl rfl rfl rfl (V_move rfl rfl) ?_
 refine G_val rfl rfl rfl rfl (V_extract rfl rfl rfl) ?_
 refine G_val rfl rfl rfl rfl (V_extract rfl rfl rfl) ?_
 refine G_val rfl rfl rfl rfl (V_assign rfl rfl) ?_
 refine G_val rfl rfl rfl rfl (V_assign rfl rfl) ?_
 refine G_done ?_
 refine G_seq ?_
 refine G_seq ?_
 refine G_region (l := [0, 1]) rfl ?_
 refine G_val rfl rfl rfl rfl (V_move rfl rfl) ?_
 refine G_val rfl rfl rfl rfl (V_neq rfl rfl rfl) ?_
 refine G_done ?_
 refine G_ifD rfl (fun hc1 => ?_) (fun hc1 => ?_)
 rotate_left
 · (first | (exact absurd rfl hc1) | (exact absurd hc1 (by decide)) | (exfalso; omega))
 refine G_seq ?_
 refine G_region (l := [0, 1, 2, 3]) rfl ?_
 refine G_val rfl rfl rfl rfl (V_buildS (cs := [_, _, _, _, _]) rfl Try.underlying75 infSuperD_75 rfl plcSuperD_75 rfl rfl rfl) ?_
 refine G_val rfl rfl rfl rfl (V_move rfl rfl) ?_
 refine G_put (l1 := []) (L' := [_]) rfl rfl rfl rfl (P_storeA (s := 5) rfl rfl rfl (mem_at 0 rfl) (by first | rfl | (simp [bcells_length, spCells, pCells, spCells, pCells, wCells, kCells, wCells, kCells, wCells, kCells, spCells, pCells, wCells, kCells, spCells, pCells, wCells, kCells, spCells, pCells, wCells, kCells]; done) | (simp [bcells_length, spCells, pCells, spCells, pCells, wCells, kCells, wCells, kCells, wCells, kCells, spCells, pCells, wCells, kCells, spCells, pCells, wCells, kCells, spCells, pCells, wCells, kCells]; omega) | (simp [bcells_length, *, spCells, pCells, spCells, pCells, wCells, kCells, wCells, kCells, wCells, kCells, spCells, pCells, wCells, kCells, spCells, pCells, wCells, kCells, spCells, pCells, wCells, kCells]; done)) infSuperD_75 rfl (by first | rfl | (simp [bcells_length, spCells, pCells, spCells, pCells, wCells, kCells, wCells, kCells, wCells, kCells, spCells, pCells, wCells, kCells, spCells, pCells, wCells, kCells, spCells, pCells, wCells, kCells]; done) | (simp [bcells_length, spCells, pCells, spCells, pCells, wCells, kCells, wCells, kCells, wCells, kCells, spCells, pCells, wCells, kCells, spCells, pCells, wCells, kCells, spCells, pCells, wCells, kCells]; omega) | (simp [bcells_length, *, spCells, pCells, spCells, pCells, wCells, kCells, wCells, kCells, wCells, kCells, spCells, pCells, wCells, kCells, spCells, pCells, wCells, kCells, spCells, pCells, wCells, kCells]; done)) (by first | rfl | exact bcells_all _ | (simp [Value.oneCell', spCells, pCells, spCells, pCells, wCells, kCells, wCells, kCells, wCells, kCells, spCells, pCells, wCells, kCells, spCells, pCells, wCells, kCells, spCells, pCells, wCells, kCells]; done) | (simp [Value.oneCell', *, spCells, pCells, spCells, pCells, wCells, kCells, wCells, kCells, wCells, kCells, spCells, pCells, wCells, kCells, spCells, pCells, wCells, kCells, spCells, pCells, wCells, kCells]; done))) rfl ?_
 refine G_val rfl rfl rfl rfl (V_assign rfl rfl) ?_
 refine G_done ?_
 refine G_ret (post := []) Try.func58 rfl (RVs_cons (RV_cell (s := 5) rfl (mem_at 0 rfl) Try.underlying75 rfl infSuperD_75 rfl (by first | rfl | (simp [bcells_length, spCells, pCells, spCells, pCells, wCells, kCells, wCells, kCells, wCells, kCells, spCells, pCells, wCells, kCells, spCells, pCells, wCells, kCells, spCells, pCells, wCells, kCells]; done) | (simp [bcells_length, spCells, pCells, spCells, pCells, wCells, kCells, wCells, kCells, wCells, kCells, spCells, pCells, wCells, kCells, spCells, pCells, wCells, kCells, spCells, pCells, wCells, kCells]; omega) | (simp [bcells_length, *, spCells, pCells, spCells, pCells, wCells, kCells, wCells, kCells, wCells, kCells, spCells, pCells, wCells, kCells, spCells, pCells, wCells, kCells, spCells, pCells, wCells, kCells]; done))) (RVs_cons (RV_tmp rfl) RVs_nil)) [] rfl ?_
 dsimp only [packed]
 exact ⟨rfl, rfl⟩

set_option maxRecDepth 100000 in
set_option maxHeartbeats 1000000 in
theorem sup_store (d n lb lcap : Nat) (lcs : Array Value) (uw : Sl) (k : Dk) (h : DkAt k n lb lcs lcap uw) (s : Sp) (hs : SpOk s) (hW : k.W.length ≤ 1000000) :
    Ct Try.prog 59 [.pointer (some ⟨d, 0, none⟩), .agg (spCells s).toArray] [] [(some d, .cells #[.slice (some ⟨lb, 0, none⟩) n lcap, uw.v k.W.length, .int .i64 k.fuse, .bool k.dead] 147 (0, 0)), (some lb, .cells lcs 9 (0, 0)), (uw.ob, .cells uw.cs 151 uw.fz)] fun v post => v = .int .i64 (storeE k s) ∧ ∃ lcs1 uw1, DkAt (storeK k s) n lb lcs1 lcap uw1 ∧ post = [(some d, .cells #[.slice (some ⟨lb, 0, none⟩) n lcap, uw1.v (storeK k s).W.length, .int .i64 (storeK k s).fuse, .bool (storeK k s).dead] 147 (0, 0)), (some lb, .cells lcs1 9 (0, 0)), (uw1.ob, .cells uw1.cs 151 uw1.fz)] := by
 refine ct_of Try.func59 rfl rfl (fun w0 => ?_)
 show G _ _ [(0, _), (1, _)] _ _
 refine G_seq ?_
 refine G_region (l := [0, 1]) rfl ?_
 refine G_new rfl rfl rfl rfl (N_boxA rfl rfl) (fun b3 => ?_)
 refine G_val rfl rfl rfl rfl (V_assign rfl rfl) ?_
 refine G_done ?_
 refine G_seq ?_
 refine G_seq ?_
 refine G_region (l := [0, 1]) rfl ?_
 refine G_val rfl rfl rfl rfl (V_move rfl rfl) ?_
 refine G_val rfl rfl rfl rfl (V_peqlN rfl Try.underlying52 rfl rfl) ?_
 refine G_done ?_
 refine G_else rfl ?_
 refine G_skip ?_
 refine G_seq ?_
 by_cases hm : MayS s
 · skip
   refine G_region (l := [0, 1, 2, 3, 4, 5, 6]) rfl ?_
   first
     | refine G_val rfl rfl rfl rfl (V_loadW (s := 5) rfl rfl (mem_at 0 rfl) Try.underlying75 rfl infSuperD_75 rfl (by first | rfl | (simp [bcells_length, spCells, pCells, spCells, pCells, wCells, kCells, wCells, kCells, wCells, kCells, spCells, pCells, wCells, kCells, spCells, pCells, wCells, kCells, spCells, pCells, wCells, kCells]; done) | (simp [bcells_length, spCells, pCells, spCells, pCells, wCells, kCells, wCells, kCells, wCells, kCells, spCells, pCells, wCells, kCells, spCells, pCells, wCells, kCells, spCells, pCells, wCells, kCells]; omega) | (simp [bcells_length, *, spCells, pCells, spCells, pCells, wCells, kCells, wCells, kCells, wCells, kCells, spCells, pCells, wCells, kCells, spCells, pCells, wCells, kCells, spCells, pCells, wCells, kCells]; done))) ?_
     | refine G_val rfl rfl rfl rfl (V_loadA (s := 5) rfl rfl (mem_at 0 rfl) Try.underlying75 rfl infSuperD_75 rfl rfl (by first | rfl | (simp [bcells_length, spCells, pCells, spCells, pCells, wCells, kCells, wCells, kCells, wCells, kCells, spCells, pCells, wCells, kCells, spCells, pCells, wCells, kCells, spCells, pCells, wCells, kCells]; done) | (simp [bcells_length, spCells, pCells, spCells, pCells, wCells, kCells, wCells, kCells, wCells, kCells, spCells, pCells, wCells, kCells, spCells, pCells, wCells, kCells, spCells, pCells, wCells, kCells]; omega) | (simp [bcells_length, *, spCells, pCells, spCells, pCells, wCells, kCells, wCells, kCells, wCells, kCells, spCells, pCells, wCells, kCells, spCells, pCells, wCells, kCells, spCells, pCells, wCells, kCells]; done))) ?_
   refine G_call (L2 := [_, _, _, _]) rfl rfl rfl rfl rfl rfl Try.call48 ((sup_encode s hs).weaken (fun v post h => by rw [(encT_yes (decide_eq_true hm)).1, (encT_yes (decide_eq_true hm)).2] at h; exact h)) [] [] rfl rfl ?_
   rintro v post ⟨rfl, rfl⟩
   show G _ _ _ [_, _, _, _] _
   refine G_val rfl rfl rfl rfl (V_move rfl rfl) ?_
   refine G_val rfl rfl rfl rfl (V_extract rfl rfl rfl) ?_
   refine G_val rfl rfl rfl rfl (V_extract rfl rfl rfl) ?_
   refine G_val rfl rfl rfl rfl (V_assign rfl rfl) ?_
   refine G_val rfl rfl rfl rfl (V_assign rfl rfl) ?_
   refine G_done ?_
   refine G_seq ?_
   refine G_seq ?_
   refine G_region (l := [0, 1]) rfl ?_
   refine G_val rfl rfl rfl rfl (V_move rfl rfl) ?_
   refine G_val rfl rfl rfl rfl (V_neq rfl rfl rfl) ?_
   refine G_done ?_
   refine G_ifD rfl (fun hc1 => ?_) (fun hc1 => ?_)
   · (first | (exact absurd rfl hc1) | (exact absurd hc1 (by decide)) | (exfalso; omega))
   refine G_skip ?_
   refine G_seq ?_
   refine G_seq ?_
   refine G_region (l := [0, 1, 2, 3, 4, 5]) rfl ?_
   refine G_val rfl rfl rfl rfl (V_move rfl rfl) ?_
   first
     | refine G_val rfl rfl rfl rfl (V_loadW (s := 5) rfl rfl (mem_at 0 rfl) Try.underlying75 rfl infSuperD_75 rfl (by first | rfl | (simp [bcells_length, spCells, pCells, spCells, pCells, wCells, kCells, wCells, kCells, wCells, kCells, spCells, pCells, wCells, kCells, spCells, pCells, wCells, kCells, spCells, pCells, wCells, kCells]; done) | (simp [bcells_length, spCells, pCells, spCells, pCells, wCells, kCells, wCells, kCells, wCells, kCells, spCells, pCells, wCells, kCells, spCells, pCells, wCells, kCells, spCells, pCells, wCells, kCells]; omega) | (simp [bcells_length, *, spCells, pCells, spCells, pCells, wCells, kCells, wCells, kCells, wCells, kCells, spCells, pCells, wCells, kCells, spCells, pCells, wCells, kCells, spCells, pCells, wCells, kCells]; done))) ?_
     | refine G_val rfl rfl rfl rfl (V_loadA (s := 5) rfl rfl (mem_at 0 rfl) Try.underlying75 rfl infSuperD_75 rfl rfl (by first | rfl | (simp [bcells_length, spCells, pCells, spCells, pCells, wCells, kCells, wCells, kCells, wCells, kCells, spCells, pCells, wCells, kCells, spCells, pCells, wCells, kCells, spCells, pCells, wCells, kCells]; done) | (simp [bcells_length, spCells, pCells, spCells, pCells, wCells, kCells, wCells, kCells, wCells, kCells, spCells, pCells, wCells, kCells, spCells, pCells, wCells, kCells, spCells, pCells, wCells, kCells]; omega) | (simp [bcells_length, *, spCells, pCells, spCells, pCells, wCells, kCells, wCells, kCells, wCells, kCells, spCells, pCells, wCells, kCells, spCells, pCells, wCells, kCells, spCells, pCells, wCells, kCells]; done))) ?_
   refine G_call (L2 := [_, _, _, _]) rfl rfl rfl rfl rfl rfl Try.call55 (sup_place s hs) [] [] rfl rfl ?_
   rintro v post ⟨rfl, rfl⟩
   show G _ _ _ [_, _, _, _] _
   refine G_val rfl rfl rfl rfl (V_move rfl rfl) ?_
   refine G_call (L2 := [_]) rfl rfl rfl rfl rfl rfl Try.call43 (dk_write d n lb lcap lcs uw k h ((s.seq : Int) % 2) (encS s) hW) [1, 1, 1] [] rfl rfl ?_
   rintro v post ⟨rfl, lcs1, uw1, h1, rfl⟩
   show G _ _ _ [_, _, _, _] _
   refine G_val rfl rfl rfl rfl (V_assign rfl rfl) ?_
   refine G_done ?_
   refine G_seq ?_
   refine G_region (l := [0, 1]) rfl ?_
   refine G_val rfl rfl rfl rfl (V_move rfl rfl) ?_
   refine G_val rfl rfl rfl rfl (V_neq rfl rfl rfl) ?_
   refine G_done ?_
   refine G_ifD rfl (fun hc2 => ?_) (fun hc2 => ?_)
   · skip
     refine G_seq ?_
     refine G_region (l := [0, 1]) rfl ?_
     refine G_val rfl rfl rfl rfl (V_move rfl rfl) ?_
     refine G_val rfl rfl rfl rfl (V_assign rfl rfl) ?_
     refine G_done ?_
     refine G_ret (post := [_, _, _]) Try.func59 rfl (RVs_cons (RV_tmp rfl) RVs_nil) [0, 0, 0] rfl ?_
     dsimp only [packed]
     first
       | (obtain ⟨e1, e2⟩ := store_no (k := k) hm; rw [e1, e2]; exact ⟨rfl, lcs, uw, h, rfl⟩)
       | (obtain ⟨e1, e2⟩ := store_w (k := k) hm (by assumption); rw [e1, e2]; exact ⟨rfl, lcs1, uw1, h1, rfl⟩)
       | (obtain ⟨e1, e2⟩ := store_y (k := k) hm (by omega); rw [e1, e2]; exact ⟨rfl, lcs1, uw1, h1, rfl⟩)
   refine G_skip ?_
   refine G_seq ?_
   refine G_region (l := [0, 1, 2]) rfl ?_
   refine G_val rfl rfl rfl rfl (V_move rfl rfl) ?_
   refine G_call (L2 := [_]) rfl rfl rfl rfl rfl rfl Try.call37 (dk_sync d n lb lcap lcs1 uw1 (k.write ((s.seq : Int) % 2) (encS s)) h1) [0, 0, 0] [] rfl rfl ?_
   rintro v post ⟨rfl, lcs1, uw1, h1, rfl⟩
   show G _ _ _ [_, _, _, _] _
   refine G_val rfl rfl rfl rfl (V_assign rfl rfl) ?_
   refine G_done ?_
   refine G_ret (post := [_, _, _]) Try.func59 rfl (RVs_cons (RV_tmp rfl) RVs_nil) [0, 0, 0] rfl ?_
   dsimp only [packed]
   first
     | (obtain ⟨e1, e2⟩ := store_no (k := k) hm; rw [e1, e2]; exact ⟨rfl, lcs, uw, h, rfl⟩)
     | (obtain ⟨e1, e2⟩ := store_w (k := k) hm (by assumption); rw [e1, e2]; exact ⟨rfl, lcs1, uw1, h1, rfl⟩)
     | (obtain ⟨e1, e2⟩ := store_y (k := k) hm (by omega); rw [e1, e2]; exact ⟨rfl, lcs1, uw1, h1, rfl⟩)
 · skip
   refine G_region (l := [0, 1, 2, 3, 4, 5, 6]) rfl ?_
   first
     | refine G_val rfl rfl rfl rfl (V_loadW (s := 5) rfl rfl (mem_at 0 rfl) Try.underlying75 rfl infSuperD_75 rfl (by first | rfl | (simp [bcells_length, spCells, pCells, spCells, pCells, wCells, kCells, wCells, kCells, wCells, kCells, spCells, pCells, wCells, kCells, spCells, pCells, wCells, kCells, spCells, pCells, wCells, kCells]; done) | (simp [bcells_length, spCells, pCells, spCells, pCells, wCells, kCells, wCells, kCells, wCells, kCells, spCells, pCells, wCells, kCells, spCells, pCells, wCells, kCells, spCells, pCells, wCells, kCells]; omega) | (simp [bcells_length, *, spCells, pCells, spCells, pCells, wCells, kCells, wCells, kCells, wCells, kCells, spCells, pCells, wCells, kCells, spCells, pCells, wCells, kCells, spCells, pCells, wCells, kCells]; done))) ?_
     | refine G_val rfl rfl rfl rfl (V_loadA (s := 5) rfl rfl (mem_at 0 rfl) Try.underlying75 rfl infSuperD_75 rfl rfl (by first | rfl | (simp [bcells_length, spCells, pCells, spCells, pCells, wCells, kCells, wCells, kCells, wCells, kCells, spCells, pCells, wCells, kCells, spCells, pCells, wCells, kCells, spCells, pCells, wCells, kCells]; done) | (simp [bcells_length, spCells, pCells, spCells, pCells, wCells, kCells, wCells, kCells, wCells, kCells, spCells, pCells, wCells, kCells, spCells, pCells, wCells, kCells, spCells, pCells, wCells, kCells]; omega) | (simp [bcells_length, *, spCells, pCells, spCells, pCells, wCells, kCells, wCells, kCells, wCells, kCells, spCells, pCells, wCells, kCells, spCells, pCells, wCells, kCells, spCells, pCells, wCells, kCells]; done))) ?_
   refine G_call (L2 := [_, _, _, _]) rfl rfl rfl rfl rfl rfl Try.call48 ((sup_encode s hs).weaken (fun v post h => by rw [(encT_no (decide_eq_false hm)).1, (encT_no (decide_eq_false hm)).2] at h; exact h)) [] [] rfl rfl ?_
   rintro v post ⟨rfl, rfl⟩
   show G _ _ _ [_, _, _, _] _
   refine G_val rfl rfl rfl rfl (V_move rfl rfl) ?_
   refine G_val rfl rfl rfl rfl (V_extract rfl rfl rfl) ?_
   refine G_val rfl rfl rfl rfl (V_extract rfl rfl rfl) ?_
   refine G_val rfl rfl rfl rfl (V_assign rfl rfl) ?_
   refine G_val rfl rfl rfl rfl (V_assign rfl rfl) ?_
   refine G_done ?_
   refine G_seq ?_
   refine G_seq ?_
   refine G_region (l := [0, 1]) rfl ?_
   refine G_val rfl rfl rfl rfl (V_move rfl rfl) ?_
   refine G_val rfl rfl rfl rfl (V_neq rfl rfl rfl) ?_
   refine G_done ?_
   refine G_ifD rfl (fun hc1 => ?_) (fun hc1 => ?_)
   rotate_left
   · (first | (exact absurd rfl hc1) | (exact absurd hc1 (by decide)) | (exfalso; omega))
   refine G_seq ?_
   refine G_region (l := [0, 1]) rfl ?_
   refine G_val rfl rfl rfl rfl (V_move rfl rfl) ?_
   refine G_val rfl rfl rfl rfl (V_assign rfl rfl) ?_
   refine G_done ?_
   refine G_ret (post := [_, _, _]) Try.func59 rfl (RVs_cons (RV_tmp rfl) RVs_nil) [1, 1, 1] rfl ?_
   dsimp only [packed]
   first
     | (obtain ⟨e1, e2⟩ := store_no (k := k) hm; rw [e1, e2]; exact ⟨rfl, lcs, uw, h, rfl⟩)
     | (obtain ⟨e1, e2⟩ := store_w (k := k) hm (by assumption); rw [e1, e2]; exact ⟨rfl, lcs1, uw1, h1, rfl⟩)
     | (obtain ⟨e1, e2⟩ := store_y (k := k) hm (by omega); rw [e1, e2]; exact ⟨rfl, lcs1, uw1, h1, rfl⟩)

set_option maxRecDepth 100000 in
set_option maxHeartbeats 1000000 in
theorem sup_store_nil (s : Sp) :
    Ct Try.prog 59 [.pointer none, .agg (spCells s).toArray] [] [] fun v post => v = .int .i64 19 ∧ post = [] := by
 refine ct_of Try.func59 rfl rfl (fun w0 => ?_)
 show G _ _ [(0, _), (1, _)] _ _
 refine G_seq ?_
 refine G_region (l := [0, 1]) rfl ?_
 refine G_new rfl rfl rfl rfl (N_boxA rfl rfl) (fun b3 => ?_)
 refine G_val rfl rfl rfl rfl (V_assign rfl rfl) ?_
 refine G_done ?_
 refine G_seq ?_
 refine G_seq ?_
 refine G_region (l := [0, 1]) rfl ?_
 refine G_val rfl rfl rfl rfl (V_move rfl rfl) ?_
 refine G_val rfl rfl rfl rfl (V_peqlN rfl Try.underlying52 rfl rfl) ?_
 refine G_done ?_
 refine G_then rfl ?_
 refine G_seq ?_
 refine G_region (l := [0]) rfl ?_
 refine G_val rfl rfl rfl rfl (V_assign rfl rfl) ?_
 refine G_done ?_
 refine G_ret (post := []) Try.func59 rfl (RVs_cons (RV_tmp rfl) RVs_nil) [] rfl ?_
 dsimp only [packed]
 exact ⟨rfl, rfl⟩

end
end Go.Proofs.Ytkidmbaakdaflaa
