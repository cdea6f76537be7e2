/- The law DiskLasts: behind a sync what was read lies there; behind a crash that keeps all writes whole, in order, too; behind any other one what lies there is read; the call returns true and leaves its arguments as they were. -/
import Derived.Test.YtkidmbaakdaflaaDiskM
import Derived.Test.YtkidmbaakdaflaaLaw
set_option linter.unusedSimpArgs false
set_option linter.unusedVariables false
namespace Go.Proofs.Ytkidmbaakdaflaa
open Go.ChangeShapes Go.WideShapes Go.ChangeAt Go.RowKit

section
theorem infLawDiskLasts_61 : Try.prog.info? 61 = some Try.t61 := by kernel_rfl
theorem plcLawDiskLasts_61 : placesOf Try.prog (Try.prog.fieldsOf 61) = some [(0, 1), (1, 1)] := by kernel_rfl


theorem set_getD {L : List (List UInt8)} {i j : Nat} {s : List UInt8} (hj : j < L.length) : (L.set i s).getD j [] = if i = j then s else L.getD j [] := by
  rw [List.getD_eq_getElem?_getD, List.getElem?_set, List.getD_eq_getElem?_getD]
  by_cases h : i = j
  · subst h; simp [hj]
  · simp [h]
theorem applyW_get (j : Nat) : ∀ (W : List (Int × List UInt8)) (L : List (List UInt8)), j < L.length → (∀ x ∈ W, 0 ≤ x.1) → (applyW L W).getD j [] = lastW (L.getD j []) (j : Int) W
  | [], L, _, _ => rfl
  | x :: W, L, hj, hW => by
    have ih := applyW_get j W (L.set x.1.toNat x.2) (by simpa using hj) (fun y hy => hW y (by simp [hy]))
    have hx := hW x (by simp)
    show (applyW (L.set x.1.toNat x.2) W).getD j [] = lastW (if x.1 = (j : Int) then x.2 else L.getD j []) (j : Int) W
    rw [ih, set_getD hj]
    congr 1
    by_cases e : x.1.toNat = j
    · rw [if_pos e, if_pos (by omega)]
    · rw [if_neg e, if_neg (by omega)]
def whole (m : Nat) : List (Int × Int) := (List.range m).map fun (j : Nat) => ((j : Int), 64)
theorem whole_next (m : Nat) : (whole m).flatMap kCells ++ kCells ((m : Int), 64) = (whole (m + 1)).flatMap kCells := by
  unfold whole; rw [List.range_succ, List.map_append, List.flatMap_append]; simp
theorem whole_len (m : Nat) : (whole m).length = m := by simp [whole]
theorem keepsL_whole (k : Dk) (h : DkOk k) : ∀ m, m ≤ k.W.length → keepsL k.W k.L (whole m) = applyW k.L (k.W.take m)
  | 0, _ => rfl
  | m + 1, hm => by
    have ih := keepsL_whole k h m (by omega)
    obtain ⟨y, hy⟩ := getI (show m < k.W.length by omega)
    have e : whole (m + 1) = whole m ++ [((m : Int), 64)] := by unfold whole; rw [List.range_succ, List.map_append]; rfl
    have e2 : keepsL k.W k.L (whole (m + 1)) = keep1 k.W (keepsL k.W k.L (whole m)) ((m : Int), 64) := by
      rw [e]; unfold keepsL; rw [List.foldl_append]; rfl
    have h1 := h.w64 y (List.mem_of_getElem? hy)
    have h2 := h.wat y (List.mem_of_getElem? hy)
    have h3 := getD64 (applyW_64 (k.W.take m) k.L h.l64 (fun x hx => h.w64 x (List.mem_of_mem_take hx))) (i := y.1.toNat) (by rw [applyW_len]; omega)
    rw [e2, ih, keep1_yes (y := y) (by simp only; omega) (by simpa using hy), applyW_next hy]
    congr 1
    have e3 : cut64 64 = 64 := by decide
    show y.2.take (cut64 64) ++ _ = _
    rw [e3, List.take_of_length_le (by omega)]
    show y.2 ++ ((applyW k.L (k.W.take m)).getD y.1.toNat []).drop (cut64 64) = _
    rw [e3, List.drop_of_length_le (by omega), List.append_nil]
/-- A disk whose power stays. -/
structure Lively (k : Dk) (n : Nat) : Prop where
  dead : k.dead = false
  fuse : k.fuse = -1
  len : k.L.length = n
theorem lively_run (acs : List Ac) : Lively (runK (newD 6) acs) 6 := by
  have step : ∀ k : Dk, ∀ a, Lively k 6 → Lively (runA k a) 6 := fun k a h => by
    have hs : k.spent.dead = false ∧ k.spent.fuse = -1 := by
      show spD _ _ = false ∧ spF _ _ = -1
      rw [h.dead, h.fuse]; exact ⟨rfl, rfl⟩
    unfold runA
    split
    · refine ⟨?_, ?_, by rw [write_len]; exact h.len⟩
      · unfold Dk.write; split
        · exact h.dead
        · rw [if_neg (by rw [hs.1]; exact Bool.false_ne_true)]; exact hs.1
      · unfold Dk.write; split
        · exact h.fuse
        · rw [if_neg (by rw [hs.1]; exact Bool.false_ne_true)]; exact hs.2
    · split
      · refine ⟨?_, ?_, by rw [sync_len]; exact h.len⟩
        · unfold Dk.sync; rw [if_neg (by rw [hs.1]; exact Bool.false_ne_true)]; exact hs.1
        · unfold Dk.sync; rw [if_neg (by rw [hs.1]; exact Bool.false_ne_true)]; exact hs.2
      · exact h
  have all : ∀ (l : List Ac) (k : Dk), Lively k 6 → Lively (l.foldl runA k) 6 := fun l => by
    induction l with
    | nil => exact fun k h => h
    | cons a l ih => exact fun k h => ih _ (step k a h)
  exact all acs _ ⟨rfl, rfl, rfl⟩
theorem lively_readE {k : Dk} {n : Nat} (h : Lively k n) (i : Nat) (hi : i < n) : k.readE (i : Int) = 0 :=
  (read_yes (hasE_ok.2 (by rw [h.len]; omega)) (by rw [h.dead]; exact Bool.false_ne_true)).1
theorem lively_readS {k : Dk} {n : Nat} (h : Lively k n) (i : Nat) (hi : i < n) : k.readS (i : Int) = lastW (k.L.getD i []) (i : Int) k.W := by
  have := (read_yes (k := k) (a := (i : Int)) (hasE_ok.2 (by rw [h.len]; omega)) (by rw [h.dead]; exact Bool.false_ne_true)).2
  rwa [Int.toNat_natCast] at this
theorem lively_liesS {k : Dk} {n : Nat} (h : Lively k n) (i : Nat) (hi : i < n) : k.liesS (i : Int) = k.L.getD i [] ∧ hasE k.L.length (i : Int) = 0 := by
  have h0 : hasE k.L.length (i : Int) = 0 := hasE_ok.2 (by rw [h.len]; omega)
  have := lies_yes h0
  rw [Int.toNat_natCast] at this
  exact ⟨this, h0⟩
theorem readAll_get {k : Dk} {m i : Nat} {s : List UInt8} (h : (readAll k m)[i]? = some s) : i < m ∧ s = k.readS (i : Int) := by
  unfold readAll at h
  rw [List.getElem?_map] at h
  rcases Nat.lt_or_ge i m with hi | hi
  · rw [List.getElem?_range hi] at h; simp at h; exact ⟨hi, h.symm⟩
  · rw [List.getElem?_eq_none (by simpa using hi)] at h; cases h
theorem readAll_len (k : Dk) (m : Nat) : (readAll k m).length = m := by simp [readAll]
/-- What lies on a disk without writes that wait, if it is what was read of another one. -/
theorem lies_all {k j : Dk} {n : Nat} (hk : Lively k n) (hw : k.W = []) (hkj : ∀ i, i < n → k.L.getD i [] = j.readS (i : Int)) : ∀ (i : Nat) s, (readAll j n)[i]? = some s → k.liesS (i : Int) = s ∧ hasE k.L.length (i : Int) = 0 ∧ k.readS (i : Int) = s ∧ k.readE (i : Int) = 0 := fun i s h => by
  obtain ⟨hi, rfl⟩ := readAll_get h
  obtain ⟨h1, h2⟩ := lively_liesS hk i hi
  have h3 := lively_readS hk i hi
  rw [hw] at h3
  exact ⟨by rw [h1, hkj i hi], h2, by rw [h3]; exact hkj i hi, lively_readE hk i hi⟩
theorem sync_lively {k : Dk} {n : Nat} (h : Lively k n) : k.syncE = 0 ∧ k.sync = k.spent.flushed ∧ Lively k.sync n := by
  obtain ⟨e1, e2⟩ := sync_live (k := k) (by rw [h.dead, h.fuse]; rfl)
  refine ⟨e2, e1, ?_⟩
  rw [e1]
  exact ⟨by show spD _ _ = false; rw [h.dead, h.fuse]; rfl, by show spF _ _ = -1; rw [h.dead, h.fuse]; rfl, by show (applyW _ _).length = _; rw [applyW_len]; exact h.len⟩
theorem lies_sync {k : Dk} {n : Nat} (h : Lively k n) (ho : DkOk k) : ∀ (i : Nat) s, (readAll k n)[i]? = some s → k.sync.liesS (i : Int) = s ∧ hasE k.sync.L.length (i : Int) = 0 ∧ k.sync.readS (i : Int) = s ∧ k.sync.readE (i : Int) = 0 := by
  obtain ⟨_, e, hl⟩ := sync_lively h
  refine lies_all hl (by rw [e]; rfl) (fun i hi => ?_)
  rw [e, lively_readS h i hi]
  exact applyW_get i k.W k.L (by rw [h.len]; exact hi) (fun x hx => (ho.wat x hx).1)
theorem crash_lively (k : Dk) {n : Nat} (h : k.L.length = n) (ks : List (Int × Int)) : Lively (k.crash ks) n := ⟨rfl, rfl, by rw [crash_len]; exact h⟩
theorem lies_whole {k : Dk} {n : Nat} (h : Lively k n) (ho : DkOk k) : ∀ (i : Nat) s, (readAll k n)[i]? = some s → (k.crash (whole k.W.length)).liesS (i : Int) = s ∧ hasE (k.crash (whole k.W.length)).L.length (i : Int) = 0 ∧ (k.crash (whole k.W.length)).readS (i : Int) = s ∧ (k.crash (whole k.W.length)).readE (i : Int) = 0 := by
  refine lies_all (crash_lively k h.len _) rfl (fun i hi => ?_)
  rw [lively_readS h i hi]
  show (keepsL k.W k.L (whole k.W.length)).getD i [] = _
  rw [keepsL_whole k ho _ (Nat.le_refl _), List.take_of_length_le (Nat.le_refl _)]
  exact applyW_get i k.W k.L (by rw [h.len]; exact hi) (fun x hx => (ho.wat x hx).1)
theorem lies_any {k : Dk} {n : Nat} (h : k.L.length = n) (ks : List (Int × Int)) : ∀ (i : Nat) s, (readAll (k.crash ks) n)[i]? = some s → (k.crash ks).liesS (i : Int) = s ∧ hasE (k.crash ks).L.length (i : Int) = 0 ∧ (k.crash ks).readS (i : Int) = s ∧ (k.crash ks).readE (i : Int) = 0 := by
  have hl := crash_lively k h ks
  exact lies_all hl rfl (fun i hi => by rw [lively_readS hl i hi]; rfl)
theorem not_large {acs : List Ac} (h : largeB acs = false) : acs.length ≤ 60 := by
  unfold largeB at h
  simp only [Bool.or_eq_false_iff, decide_eq_false_iff_not] at h
  omega
theorem sees_own {u : Sl} {m : Nat} (h : Own 2 u ((whole m).flatMap kCells) m) : Sees 2 u.ob 0 u.cap u.cs ((whole m).flatMap kCells) (whole m).length := by rw [whole_len]; exact h.sees
theorem uv_whole (u : Sl) (m : Nat) : u.v m = sv u.ob 0 (whole m).length u.cap := by rw [whole_len]; rfl
theorem sees_len {k : Dk} {m : Nat} {u : Sl} (h : Own 1 u ((readAll k m).map strC) m) : Sees 1 u.ob 0 u.cap u.cs ((readAll k m).map strC) (readAll k m).length := by rw [readAll_len]; exact h.sees
theorem sync_W {k : Dk} {n : Nat} (h : Lively k n) : k.sync.W.length = 0 := by rw [(sync_lively h).2.1]; rfl

set_option maxRecDepth 100000 in
set_option maxHeartbeats 4000000 in
theorem diskLasts_all (o1 : Option Nat) (p1 q1 : Nat) (c1 : Array Value) (T1 : TypeId) (f1 : Nat × Nat) (acs : List Ac) (hs : Sees 5 o1 p1 q1 c1 (acs.flatMap acCells) acs.length) (hok : ∀ a ∈ acs, AcOk a) (o2 : Option Nat) (p2 q2 : Nat) (c2 : Array Value) (T2 : TypeId) (f2 : Nat × Nat) (ks : List (Int × Int)) (hk : Sees 2 o2 p2 q2 c2 (ks.flatMap kCells) ks.length) :
    Ct Try.prog 8 [sv o1 p1 acs.length q1, sv o2 p2 ks.length q2] [(o1, .cells c1 T1 f1), (o2, .cells c2 T2 f2)] [] fun v post => v = .bool true ∧ post = [] := by
 have hsl := hs.max
 have hkl := hk.max
 have hsl2 := hs.le
 have hkl2 := hk.le
 refine ct_of Try.func8 rfl rfl (fun w0 => ?_)
 show G _ _ [(0, _), (1, _)] _ _
 refine G_seq ?_
 refine G_region (l := [0]) rfl ?_
 refine G_val rfl rfl rfl rfl (V_assign rfl rfl) ?_
 refine G_done ?_
 refine G_seq ?_
 refine G_seq ?_
 refine G_region (l := [0, 1, 2, 3, 4, 5, 6]) rfl ?_
 refine G_val rfl rfl rfl rfl (V_move rfl rfl) ?_
 refine G_call (L2 := []) rfl rfl rfl rfl rfl rfl Try.call30 (dl_large _ _ _ _ _ _ _ hs) [] [0] rfl rfl ?_
 rintro v post ⟨rfl, rfl⟩
 refine G_val rfl rfl rfl rfl (V_move rfl rfl) ?_
 refine G_split 19 rfl (fun hc1 => ?_) (fun hc1 => ?_)
 · skip
   refine G_off rfl rfl rfl rfl ?_
   refine G_off rfl rfl rfl rfl ?_
   refine G_off rfl rfl rfl rfl ?_
   refine G_val rfl rfl rfl rfl (V_pickT rfl rfl rfl) ?_
   refine G_done ?_
   refine G_then rfl ?_
   refine G_seq ?_
   refine G_region (l := [0, 1]) rfl ?_
   refine G_call (L2 := []) rfl rfl rfl rfl rfl rfl Try.call31 (dl_live) [] [] rfl rfl ?_
   rintro v post ⟨rfl, rfl⟩
   refine G_val rfl rfl rfl rfl (V_assign rfl rfl) ?_
   refine G_done ?_
   refine G_ret (post := []) Try.func8 rfl (RVs_cons (RV_tmp rfl) RVs_nil) [] rfl ?_
   dsimp only [packed]
   exact ⟨rfl, rfl⟩
 refine G_val rfl rfl rfl rfl (V_move rfl rfl) ?_
 refine G_val rfl rfl rfl rfl (V_len rfl rfl Try.underlying50 rfl) ?_
 refine G_val rfl rfl rfl rfl (V_gtr rfl rfl rfl) ?_
 refine G_val rfl rfl rfl rfl (V_pickF rfl rfl rfl) ?_
 refine G_done ?_
 refine G_ifD rfl (fun hc2 => ?_) (fun hc2 => ?_)
 · skip
   refine G_seq ?_
   refine G_region (l := [0, 1]) rfl ?_
   refine G_call (L2 := []) rfl rfl rfl rfl rfl rfl Try.call31 (dl_live) [] [] rfl rfl ?_
   rintro v post ⟨rfl, rfl⟩
   refine G_val rfl rfl rfl rfl (V_assign rfl rfl) ?_
   refine G_done ?_
   refine G_ret (post := []) Try.func8 rfl (RVs_cons (RV_tmp rfl) RVs_nil) [] rfl ?_
   dsimp only [packed]
   exact ⟨rfl, rfl⟩
 refine G_skip ?_
 refine G_seq ?_
 have hsm : acs.length ≤ 60 := not_large (by assumption)
 have hlv := lively_run acs
 have hww := runK_W (newD 6) acs acs.length
 rw [List.take_length] at hww
 have hww0 : (newD 6).W.length = 0 := rfl
 refine G_region (l := [0, 1, 2, 3, 4, 5]) rfl ?_
 refine G_call (L2 := []) rfl rfl rfl rfl rfl rfl Try.call32 (dk_new 6 (by omega) (by omega)) [] [] rfl rfl ?_
 rintro v post ⟨d1, lb1, cap1, cs1, rfl, h1, rfl⟩
 show G _ _ _ [_, _, _] _
 refine G_val rfl rfl rfl rfl (V_move rfl rfl) ?_
 refine G_val rfl rfl rfl rfl (V_extract rfl rfl rfl) ?_
 refine G_val rfl rfl rfl rfl (V_extract rfl rfl rfl) ?_
 refine G_val rfl rfl rfl rfl (V_assign rfl rfl) ?_
 refine G_val rfl rfl rfl rfl (V_assign rfl rfl) ?_
 refine G_done ?_
 refine G_seq ?_
 refine G_region (l := [0, 1, 2, 3, 4, 5]) rfl ?_
 refine G_call (L2 := [_, _, _]) rfl rfl rfl rfl rfl rfl Try.call32 (dk_new 6 (by omega) (by omega)) [] [] rfl rfl ?_
 rintro v post ⟨d2, lb2, cap2, cs2, rfl, h2, rfl⟩
 show G _ _ _ [_, _, _, _, _, _] _
 refine G_val rfl rfl rfl rfl (V_move rfl rfl) ?_
 refine G_val rfl rfl rfl rfl (V_extract rfl rfl rfl) ?_
 refine G_val rfl rfl rfl rfl (V_extract rfl rfl rfl) ?_
 refine G_val rfl rfl rfl rfl (V_assign rfl rfl) ?_
 refine G_val rfl rfl rfl rfl (V_assign rfl rfl) ?_
 refine G_done ?_
 refine G_seq ?_
 refine G_region (l := [0, 1, 2, 3, 4, 5]) rfl ?_
 refine G_call (L2 := [_, _, _, _, _, _]) rfl rfl rfl rfl rfl rfl Try.call32 (dk_new 6 (by omega) (by omega)) [] [] rfl rfl ?_
 rintro v post ⟨d3, lb3, cap3, cs3, rfl, h3, rfl⟩
 show G _ _ _ [_, _, _, _, _, _, _, _, _] _
 refine G_val rfl rfl rfl rfl (V_move rfl rfl) ?_
 refine G_val rfl rfl rfl rfl (V_extract rfl rfl rfl) ?_
 refine G_val rfl rfl rfl rfl (V_extract rfl rfl rfl) ?_
 refine G_val rfl rfl rfl rfl (V_assign rfl rfl) ?_
 refine G_val rfl rfl rfl rfl (V_assign rfl rfl) ?_
 refine G_done ?_
 refine G_seq ?_
 refine G_region (l := [0, 1, 2]) rfl ?_
 refine G_val rfl rfl rfl rfl (V_move rfl rfl) ?_
 refine G_val rfl rfl rfl rfl (V_move rfl rfl) ?_
 refine G_call (L2 := [_, _, _, _, _, _]) rfl rfl rfl rfl rfl rfl Try.call33 (dl_run d1 6 lb1 cap1 cs1 slNil (newD 6) h1 _ _ _ _ _ _ acs hs hok (by have : (newD 6).W.length = 0 := rfl; omega)) [6, 6, 6] [0] rfl rfl ?_
 rintro v post ⟨rfl, cs1, uw1, h1, rfl⟩
 show G _ _ _ [_, _, _, _, _, _, _, _, _] _
 refine G_done ?_
 refine G_seq ?_
 refine G_region (l := [0, 1, 2]) rfl ?_
 refine G_val rfl rfl rfl rfl (V_move rfl rfl) ?_
 refine G_val rfl rfl rfl rfl (V_move rfl rfl) ?_
 refine G_call (L2 := [_, _, _, _, _, _]) rfl rfl rfl rfl rfl rfl Try.call33 (dl_run d2 6 lb2 cap2 cs2 slNil (newD 6) h2 _ _ _ _ _ _ acs hs hok (by have : (newD 6).W.length = 0 := rfl; omega)) [6, 6, 6] [0] rfl rfl ?_
 rintro v post ⟨rfl, cs2, uw2, h2, rfl⟩
 show G _ _ _ [_, _, _, _, _, _, _, _, _] _
 refine G_done ?_
 refine G_seq ?_
 refine G_region (l := [0, 1, 2]) rfl ?_
 refine G_val rfl rfl rfl rfl (V_move rfl rfl) ?_
 refine G_val rfl rfl rfl rfl (V_move rfl rfl) ?_
 refine G_call (L2 := [_, _, _, _, _, _]) rfl rfl rfl rfl rfl rfl Try.call33 (dl_run d3 6 lb3 cap3 cs3 slNil (newD 6) h3 _ _ _ _ _ _ acs hs hok (by have : (newD 6).W.length = 0 := rfl; omega)) [6, 6, 6] [0] rfl rfl ?_
 rintro v post ⟨rfl, cs3, uw3, h3, rfl⟩
 show G _ _ _ [_, _, _, _, _, _, _, _, _] _
 refine G_done ?_
 refine G_seq ?_
 have hok2 := h1.ok
 refine G_region (l := [0, 1, 2, 3, 4, 5, 6]) rfl ?_
 refine G_val rfl rfl rfl rfl (V_move rfl rfl) ?_
 refine G_call (L2 := [_, _, _, _, _, _, _, _, _]) rfl rfl rfl rfl rfl rfl Try.call34 (dl_read d1 6 lb1 cap1 cs1 uw1 (runK (newD 6) acs) h1 6 (by omega) (fun i hi => lively_readE hlv i hi)) [] [8, 9, 10] rfl rfl ?_
 rintro v post ⟨ur, hur, rfl, rfl⟩
 show G _ _ _ [_, _, _, _, _, _, _, _, _, _] _
 refine G_val rfl rfl rfl rfl (V_move rfl rfl) ?_
 refine G_val rfl rfl rfl rfl (V_extract rfl rfl rfl) ?_
 refine G_val rfl rfl rfl rfl (V_extract rfl rfl rfl) ?_
 refine G_val rfl rfl rfl rfl (V_assign rfl rfl) ?_
 refine G_val rfl rfl rfl rfl (V_assign rfl rfl) ?_
 refine G_done ?_
 refine G_seq ?_
 refine G_region (l := [0, 1]) rfl ?_
 refine G_new rfl rfl rfl rfl (N_build0 rfl Try.underlying50 infLawDiskLasts_61) (fun b51 => ?_)
 refine G_val rfl rfl rfl rfl (V_assign rfl rfl) ?_
 refine G_done ?_
 refine G_seq ?_
 refine G_seq ?_
 refine G_region (l := [0]) rfl ?_
 refine G_val rfl rfl rfl rfl (V_assign rfl rfl) ?_
 refine G_done ?_
 refine G_block ?_
 refine G_sub ?he12 [0, 0, 6, 6, 6, 3, 3, 3, 0, 0, 0] ?hl12 (G_loop (X := Nat × Sl) (fun x => match x with | ⟨i, u⟩ => i ≤ (runK (newD 6) acs).W.length ∧ Own 2 u ((whole i).flatMap kCells) i) (fun x => match x with | ⟨i, u⟩ => (runK (newD 6) acs).W.length - i) (fun x => match x with | ⟨i, u⟩ => [(1, sv o2 p2 ks.length q2), (5, .pointer (some ⟨d1, 0, none⟩)), (7, .pointer (some ⟨d2, 0, none⟩)), (9, .pointer (some ⟨d3, 0, none⟩)), (11, ur.v 6), (12, .bool true), (13, u.v i), (14, .int .i64 (i : Int))]) (fun x => match x with | ⟨i, u⟩ => [(u.ob, .cells u.cs 61 u.fz), (ur.ob, .cells ur.cs 9 ur.fz), (some d1, .cells #[.slice (some ⟨lb1, 0, none⟩) 6 cap1, uw1.v (runK (newD 6) acs).W.length, .int .i64 (runK (newD 6) acs).fuse, .bool (runK (newD 6) acs).dead] 147 (0, 0)), (some lb1, .cells cs1 9 (0, 0)), (uw1.ob, .cells uw1.cs 151 uw1.fz), (some d2, .cells #[.slice (some ⟨lb2, 0, none⟩) 6 cap2, uw2.v (runK (newD 6) acs).W.length, .int .i64 (runK (newD 6) acs).fuse, .bool (runK (newD 6) acs).dead] 147 (0, 0)), (some lb2, .cells cs2 9 (0, 0)), (uw2.ob, .cells uw2.cs 151 uw2.fz), (some d3, .cells #[.slice (some ⟨lb3, 0, none⟩) 6 cap3, uw3.v (runK (newD 6) acs).W.length, .int .i64 (runK (newD 6) acs).fuse, .bool (runK (newD 6) acs).dead] 147 (0, 0)), (some lb3, .cells cs3 9 (0, 0)), (uw3.ob, .cells uw3.cs 151 uw3.fz)]) ?round12 (0, ⟨some b51, #[], (0, 0), 0⟩) ?h012)
 case he12 => exact (And.intro rfl (And.intro rfl (And.intro rfl (And.intro rfl (And.intro rfl (And.intro rfl (And.intro rfl (And.intro rfl trivial))))))))
 case hl12 => exact ⟨_, rfl⟩
 case h012 => exact ⟨Nat.zero_le _, own_empty 2 b51⟩
 case round12 =>
  intro x hJ ih
  try dsimp only at hJ ih
  obtain ⟨i, u⟩ := x
  try dsimp only at hJ ih
  obtain ⟨hi, hwu⟩ := hJ
  show G _ _ [(1, sv o2 p2 ks.length q2), (5, .pointer (some ⟨d1, 0, none⟩)), (7, .pointer (some ⟨d2, 0, none⟩)), (9, .pointer (some ⟨d3, 0, none⟩)), (11, ur.v 6), (12, .bool true), (13, u.v i), (14, .int .i64 (i : Int))] [(u.ob, .cells u.cs 61 u.fz), (ur.ob, .cells ur.cs 9 ur.fz), (some d1, .cells #[.slice (some ⟨lb1, 0, none⟩) 6 cap1, uw1.v (runK (newD 6) acs).W.length, .int .i64 (runK (newD 6) acs).fuse, .bool (runK (newD 6) acs).dead] 147 (0, 0)), (some lb1, .cells cs1 9 (0, 0)), (uw1.ob, .cells uw1.cs 151 uw1.fz), (some d2, .cells #[.slice (some ⟨lb2, 0, none⟩) 6 cap2, uw2.v (runK (newD 6) acs).W.length, .int .i64 (runK (newD 6) acs).fuse, .bool (runK (newD 6) acs).dead] 147 (0, 0)), (some lb2, .cells cs2 9 (0, 0)), (uw2.ob, .cells uw2.cs 151 uw2.fz), (some d3, .cells #[.slice (some ⟨lb3, 0, none⟩) 6 cap3, uw3.v (runK (newD 6) acs).W.length, .int .i64 (runK (newD 6) acs).fuse, .bool (runK (newD 6) acs).dead] 147 (0, 0)), (some lb3, .cells cs3 9 (0, 0)), (uw3.ob, .cells uw3.cs 151 uw3.fz)] _
  refine G_seq ?_
  refine G_seq ?_
  refine G_region (l := [0, 1, 2, 3, 4, 5, 6, 7]) rfl ?_
  refine G_val rfl rfl rfl rfl (V_move rfl rfl) ?_
  refine G_val rfl rfl rfl rfl (V_move rfl rfl) ?_
  refine G_call (L2 := [_, _, _, _, _, _, _, _, _, _, _]) rfl rfl rfl rfl rfl rfl Try.call35 (dk_waiting d2 6 lb2 cap2 cs2 uw2 (runK (newD 6) acs) h2) [] [7] rfl rfl ?_
  rintro v post ⟨rfl, rfl⟩
  show G _ _ _ [_, _, _, _, _, _, _, _, _, _, _] _
  refine G_val rfl rfl rfl rfl (V_lss rfl rfl rfl) ?_
  refine G_val rfl rfl rfl rfl (V_move rfl rfl) ?_
  refine G_splitD 56 rfl (fun hc3 => ?_) (fun hc3 => ?_)
  · skip
    refine G_val rfl rfl rfl rfl (V_move rfl rfl) ?_
    refine G_val rfl rfl rfl rfl (V_lss rfl rfl rfl) ?_
    refine G_val rfl rfl rfl rfl (V_pickT rfl rfl rfl) ?_
    refine G_done ?_
    refine G_ifD rfl (fun hc4 => ?_) (fun hc4 => ?_)
    rotate_left
    · (first | (exact absurd rfl hc4) | (simp at hc4; done) | (exfalso; omega))
    refine G_skip ?_
    refine G_seq ?_
    refine G_block ?_
    refine G_region (l := [0, 1, 2, 3, 4, 5]) rfl ?_
    refine G_val rfl rfl rfl rfl (V_move rfl rfl) ?_
    refine G_val rfl rfl rfl rfl (V_move rfl rfl) ?_
    refine G_val rfl rfl rfl rfl (V_buildS (cs := [_, _]) rfl Try.underlying61 infLawDiskLasts_61 rfl plcLawDiskLasts_61 rfl rfl rfl) ?_
    refine G_new rfl rfl rfl rfl (N_buildAll (s := 2) (cs := [_, _]) rfl Try.underlying50 infLawDiskLasts_61 rfl rfl rfl rfl rfl rfl rfl rfl rfl) (fun b65 => ?_)
    refine G_append (l1 := [_]) (s := u) (nn := i) (m := 1) (news := kCells ((i : Int), 64)) (bt := 16) rfl rfl rfl rfl Try.underlying50 Try.underlying50 (by first | exact .inl rfl | exact .inr ⟨_, rfl⟩) infLawDiskLasts_61 rfl rfl rfl rfl rfl rfl hwu rfl (src_mem (mem_at 2 rfl) rfl rfl (by simp [kCells, Value.oneCell'])) (by omega) (by omega) ?_
    intro u1 hu1 _
    show G _ _ _ [_, _, _, _, _, _, _, _, _, _, _, _] _
    refine G_val rfl rfl rfl rfl (V_assign rfl rfl) ?_
    refine G_done ?_
    refine G_inBlock ?_
    refine G_region (l := [0, 1, 2]) rfl ?_
    refine G_val rfl rfl rfl rfl (V_move rfl rfl) ?_
    first
      | refine G_val rfl rfl rfl rfl ((V_add rfl rfl rfl).int (wrap_i64 (by omega))) ?_
      | refine G_val rfl rfl rfl rfl (V_add rfl rfl rfl) ?_
    refine G_val rfl rfl rfl rfl (V_assign rfl rfl) ?_
    refine G_done ?_
    refine G_sub ?_ [1, 1, 1, 1, 1, 1, 1, 1, 1, 1, 1] ?_ (ih (i + 1, u1) ?_ ?_)
    · (refine (And.intro ?_ (And.intro ?_ (And.intro ?_ (And.intro ?_ (And.intro ?_ (And.intro ?_ (And.intro ?_ (And.intro ?_ trivial)))))))) <;> first | rfl | exact slot_int (by omega) | exact slot_int (by simp))
    · exact ⟨_, rfl⟩
    · exact ⟨by omega, by rw [← whole_next]; exact hu1⟩
    · (first | omega | (dsimp only; omega))
  refine G_off rfl rfl rfl rfl ?_
  refine G_off rfl rfl rfl rfl ?_
  refine G_val rfl rfl rfl rfl (V_pickF rfl rfl rfl) ?_
  refine G_done ?_
  refine G_else rfl ?_
  refine G_exit rfl ?_
  refine G_seq ?_
  refine G_seq ?_
  obtain rfl : i = (runK (newD 6) acs).W.length := by omega
  have hwh := sees_own hwu
  rw [uv_whole u]
  refine G_region (l := [0, 1, 2, 3, 4, 5, 6, 7, 8, 9, 10, 11, 12, 13, 14, 15, 16, 17, 18, 19, 20, 21]) rfl ?_
  refine G_val rfl rfl rfl rfl (V_move rfl rfl) ?_
  refine G_val rfl rfl rfl rfl (V_not rfl rfl) ?_
  refine G_val rfl rfl rfl rfl (V_move rfl rfl) ?_
  refine G_split 69 rfl (fun hc4 => ?_) (fun hc4 => ?_)
  · (first | (exact absurd rfl hc4) | (simp at hc4; done) | (exfalso; omega))
  refine G_val rfl rfl rfl rfl (V_move rfl rfl) ?_
  refine G_call (L2 := [_, _, _, _, _, _, _, _]) rfl rfl rfl rfl rfl rfl Try.call37 ((dk_sync d1 6 lb1 cap1 cs1 uw1 (runK (newD 6) acs) h1).weaken (fun v post h => by rw [(sync_lively hlv).1] at h; exact h)) [2, 2, 2] [] rfl rfl ?_
  rintro v post ⟨rfl, cs1, uw1, h1, rfl⟩
  show G _ _ _ [_, _, _, _, _, _, _, _, _, _, _] _
  refine G_call (L2 := [_, _, _, _, _, _, _, _, _, _, _]) rfl rfl rfl rfl rfl rfl Try.call36 (dl_num _) [] [] rfl rfl ?_
  rintro v post ⟨rfl, rfl⟩
  show G _ _ _ [_, _, _, _, _, _, _, _, _, _, _] _
  refine G_val rfl rfl rfl rfl (V_neq rfl rfl rfl) ?_
  refine G_val rfl rfl rfl rfl (V_pickF rfl rfl rfl) ?_
  refine G_val rfl rfl rfl rfl (V_move rfl rfl) ?_
  refine G_splitD 75 rfl (fun hc5 => ?_) (fun hc5 => ?_)
  · (first | (exact absurd rfl hc5) | (simp at hc5; done) | (exfalso; omega))
  refine G_val rfl rfl rfl rfl (V_move rfl rfl) ?_
  refine G_val rfl rfl rfl rfl (V_move rfl rfl) ?_
  refine G_call (L2 := [_, _, _, _, _, _, _, _]) rfl rfl rfl rfl rfl rfl Try.call38 (dk_crash d2 6 lb2 cap2 cs2 uw2 (runK (newD 6) acs) h2 _ _ _ _ _ _ (whole (runK (newD 6) acs).W.length) hwh) [5, 5, 5] [5] rfl rfl ?_
  rintro v post ⟨rfl, cs2, h2, rfl⟩
  show G _ _ _ [_, _, _, _, _, _, _, _, _, _, _] _
  refine G_call (L2 := [_, _, _, _, _, _, _, _, _, _, _]) rfl rfl rfl rfl rfl rfl Try.call36 (dl_num _) [] [] rfl rfl ?_
  rintro v post ⟨rfl, rfl⟩
  show G _ _ _ [_, _, _, _, _, _, _, _, _, _, _] _
  refine G_val rfl rfl rfl rfl (V_neq rfl rfl rfl) ?_
  refine G_val rfl rfl rfl rfl (V_pickF rfl rfl rfl) ?_
  refine G_val rfl rfl rfl rfl (V_move rfl rfl) ?_
  refine G_splitD 82 rfl (fun hc6 => ?_) (fun hc6 => ?_)
  · (first | (exact absurd rfl hc6) | (simp at hc6; done) | (exfalso; omega))
  refine G_val rfl rfl rfl rfl (V_move rfl rfl) ?_
  refine G_val rfl rfl rfl rfl (V_move rfl rfl) ?_
  refine G_call (L2 := [_, _, _, _, _, _, _, _]) rfl rfl rfl rfl rfl rfl Try.call38 (dk_crash d3 6 lb3 cap3 cs3 uw3 (runK (newD 6) acs) h3 _ _ _ _ _ _ ks hk) [8, 8, 8] [1] rfl rfl ?_
  rintro v post ⟨rfl, cs3, h3, rfl⟩
  show G _ _ _ [_, _, _, _, _, _, _, _, _, _, _] _
  refine G_call (L2 := [_, _, _, _, _, _, _, _, _, _, _]) rfl rfl rfl rfl rfl rfl Try.call36 (dl_num _) [] [] rfl rfl ?_
  rintro v post ⟨rfl, rfl⟩
  show G _ _ _ [_, _, _, _, _, _, _, _, _, _, _] _
  refine G_val rfl rfl rfl rfl (V_neq rfl rfl rfl) ?_
  refine G_val rfl rfl rfl rfl (V_pickF rfl rfl rfl) ?_
  refine G_done ?_
  refine G_ifD rfl (fun hc7 => ?_) (fun hc7 => ?_)
  · (first | (exact absurd rfl hc7) | (simp at hc7; done) | (exfalso; omega))
  refine G_skip ?_
  refine G_seq ?_
  refine G_region (l := [0, 1, 2, 3, 4, 5, 6]) rfl ?_
  refine G_val rfl rfl rfl rfl (V_move rfl rfl) ?_
  refine G_call (L2 := [_, _, _, _, _, _, _, _, _, _, _]) rfl rfl rfl rfl rfl rfl Try.call34 (dl_read d3 6 lb3 cap3 cs3 slNil ((runK (newD 6) acs).crash ks) h3 6 (by omega) (fun i hi => lively_readE (crash_lively (runK (newD 6) acs) hlv.len ks) i hi)) [] [2, 3, 4] rfl rfl ?_
  rintro v post ⟨un, hun, rfl, rfl⟩
  show G _ _ _ [_, _, _, _, _, _, _, _, _, _, _, _] _
  refine G_val rfl rfl rfl rfl (V_move rfl rfl) ?_
  refine G_val rfl rfl rfl rfl (V_extract rfl rfl rfl) ?_
  refine G_val rfl rfl rfl rfl (V_extract rfl rfl rfl) ?_
  refine G_val rfl rfl rfl rfl (V_assign rfl rfl) ?_
  refine G_val rfl rfl rfl rfl (V_assign rfl rfl) ?_
  refine G_done ?_
  refine G_seq ?_
  refine G_region (l := [0, 1, 2, 3, 4, 5, 6, 7, 8, 9, 10, 11, 12, 13, 14, 15, 16, 17, 18, 19, 20, 21, 22, 23, 24, 25, 26, 27, 28, 29, 30]) rfl ?_
  refine G_val rfl rfl rfl rfl (V_move rfl rfl) ?_
  refine G_val rfl rfl rfl rfl (V_move rfl rfl) ?_
  refine G_split 95 rfl (fun hc8 => ?_) (fun hc8 => ?_)
  rotate_left
  · (first | (exact absurd rfl hc8) | (simp at hc8; done) | (exfalso; omega))
  refine G_val rfl rfl rfl rfl (V_move rfl rfl) ?_
  refine G_val rfl rfl rfl rfl (V_move rfl rfl) ?_
  refine G_call (L2 := [_, _, _, _, _, _, _, _, _, _, _, _]) rfl rfl rfl rfl rfl rfl Try.call39 (dl_lies d1 6 lb1 cap1 cs1 uw1 (runK (newD 6) acs).sync h1 _ _ _ _ _ _ (readAll (runK (newD 6) acs) 6) (sees_len hur) (lies_sync hlv hok2)) [] [9, 10, 11, 13] rfl rfl ?_
  rintro v post ⟨rfl, rfl⟩
  show G _ _ _ [_, _, _, _, _, _, _, _, _, _, _, _] _
  refine G_val rfl rfl rfl rfl (V_pickT rfl rfl rfl) ?_
  refine G_val rfl rfl rfl rfl (V_move rfl rfl) ?_
  refine G_split 100 rfl (fun hc9 => ?_) (fun hc9 => ?_)
  rotate_left
  · (first | (exact absurd rfl hc9) | (simp at hc9; done) | (exfalso; omega))
  refine G_val rfl rfl rfl rfl (V_move rfl rfl) ?_
  refine G_val rfl rfl rfl rfl (V_move rfl rfl) ?_
  refine G_call (L2 := [_, _, _, _, _, _, _, _, _, _, _, _]) rfl rfl rfl rfl rfl rfl Try.call39 (dl_lies d2 6 lb2 cap2 cs2 slNil ((runK (newD 6) acs).crash (whole (runK (newD 6) acs).W.length)) h2 _ _ _ _ _ _ (readAll (runK (newD 6) acs) 6) (sees_len hur) (lies_whole hlv hok2)) [] [6, 7, 8, 13] rfl rfl ?_
  rintro v post ⟨rfl, rfl⟩
  show G _ _ _ [_, _, _, _, _, _, _, _, _, _, _, _] _
  refine G_val rfl rfl rfl rfl (V_pickT rfl rfl rfl) ?_
  refine G_val rfl rfl rfl rfl (V_move rfl rfl) ?_
  refine G_split 105 rfl (fun hc10 => ?_) (fun hc10 => ?_)
  rotate_left
  · (first | (exact absurd rfl hc10) | (simp at hc10; done) | (exfalso; omega))
  refine G_val rfl rfl rfl rfl (V_move rfl rfl) ?_
  refine G_val rfl rfl rfl rfl (V_move rfl rfl) ?_
  refine G_call (L2 := [_, _, _, _, _, _, _, _, _, _, _, _]) rfl rfl rfl rfl rfl rfl Try.call39 (dl_lies d3 6 lb3 cap3 cs3 slNil ((runK (newD 6) acs).crash ks) h3 _ _ _ _ _ _ (readAll ((runK (newD 6) acs).crash ks) 6) (sees_len hun) (lies_any hlv.len ks)) [] [3, 4, 5, 2] rfl rfl ?_
  rintro v post ⟨rfl, rfl⟩
  show G _ _ _ [_, _, _, _, _, _, _, _, _, _, _, _] _
  refine G_val rfl rfl rfl rfl (V_pickT rfl rfl rfl) ?_
  refine G_val rfl rfl rfl rfl (V_move rfl rfl) ?_
  refine G_split 110 rfl (fun hc11 => ?_) (fun hc11 => ?_)
  rotate_left
  · (first | (exact absurd rfl hc11) | (simp at hc11; done) | (exfalso; omega))
  refine G_val rfl rfl rfl rfl (V_move rfl rfl) ?_
  refine G_call (L2 := [_, _, _, _, _, _, _, _, _, _, _, _]) rfl rfl rfl rfl rfl rfl Try.call35 ((dk_waiting d1 6 lb1 cap1 cs1 uw1 (runK (newD 6) acs).sync h1).weaken (fun v post h => by rw [sync_W hlv] at h; exact h)) [] [9] rfl rfl ?_
  rintro v post ⟨rfl, rfl⟩
  show G _ _ _ [_, _, _, _, _, _, _, _, _, _, _, _] _
  refine G_val rfl rfl rfl rfl (V_move rfl rfl) ?_
  refine G_call (L2 := [_, _, _, _, _, _, _, _, _, _, _, _]) rfl rfl rfl rfl rfl rfl Try.call35 (dk_waiting d2 6 lb2 cap2 cs2 slNil ((runK (newD 6) acs).crash (whole (runK (newD 6) acs).W.length)) h2) [] [6] rfl rfl ?_
  rintro v post ⟨rfl, rfl⟩
  show G _ _ _ [_, _, _, _, _, _, _, _, _, _, _, _] _
  first
    | refine G_val rfl rfl rfl rfl ((V_add rfl rfl rfl).int (wrap_i64 (by omega))) ?_
    | refine G_val rfl rfl rfl rfl (V_add rfl rfl rfl) ?_
  refine G_val rfl rfl rfl rfl (V_move rfl rfl) ?_
  refine G_call (L2 := [_, _, _, _, _, _, _, _, _, _, _, _]) rfl rfl rfl rfl rfl rfl Try.call35 (dk_waiting d3 6 lb3 cap3 cs3 slNil ((runK (newD 6) acs).crash ks) h3) [] [3] rfl rfl ?_
  rintro v post ⟨rfl, rfl⟩
  show G _ _ _ [_, _, _, _, _, _, _, _, _, _, _, _] _
  first
    | refine G_val rfl rfl rfl rfl ((V_add rfl rfl rfl).int (wrap_i64 (by omega))) ?_
    | refine G_val rfl rfl rfl rfl (V_add rfl rfl rfl) ?_
  refine G_val rfl rfl rfl rfl (V_eql rfl rfl rfl) ?_
  refine G_val rfl rfl rfl rfl (V_pickT rfl rfl rfl) ?_
  refine G_val rfl rfl rfl rfl (V_move rfl rfl) ?_
  refine G_splitD 121 rfl (fun hc12 => ?_) (fun hc12 => ?_)
  rotate_left
  · (first | (exact absurd rfl hc12) | (simp at hc12; done) | (exfalso; omega))
  refine G_call (L2 := [_, _, _, _, _, _, _, _, _, _, _, _]) rfl rfl rfl rfl rfl rfl Try.call31 (dl_live) [] [] rfl rfl ?_
  rintro v post ⟨rfl, rfl⟩
  show G _ _ _ [_, _, _, _, _, _, _, _, _, _, _, _] _
  refine G_val rfl rfl rfl rfl (V_pickT rfl rfl rfl) ?_
  refine G_val rfl rfl rfl rfl (V_assign rfl rfl) ?_
  refine G_done ?_
  refine G_ret (post := []) Try.func8 rfl (RVs_cons (RV_tmp rfl) RVs_nil) [] rfl ?_
  dsimp only [packed]
  exact ⟨rfl, rfl⟩


theorem reads_slshape {P : Program} {W : World} {t e : TypeId} {cs : List Value} (h : Reads P W t cs) (ht : P.underlying t = some (.slice e)) : ∃ p i j, cs = [.slice p i j] := by
  obtain ⟨H, enc, n, x, h⟩ := h
  rcases Go.Deep.open_slice ht h with ⟨h0, _⟩ | ⟨a, len, cap, m, n, D, Pl, hcs, _, hl, hm, hmm, _, hx⟩
  · exact ⟨_, _, _, h0⟩
  · exact ⟨_, _, _, hcs⟩
instance : Inhabited (Int × Int) := ⟨(0, 0)⟩
theorem keep_of {W : World} {es : List Value} (hl : es.length = 2) (h : Reads Try.prog W 61 es) : ∃ x : Int × Int, es = kCells x ∧ True := by
  match es, hl with
  | [v0, v1], _ =>
    obtain ⟨n0, e0, _⟩ := reads_int (reads_field (s := 1) (vs := [v0]) h Try.underlying61 0 _ rfl (by kernel_rfl) rfl) Try.underlying3
    obtain ⟨n1, e1, _⟩ := reads_int (reads_field (s := 1) (vs := [v1]) h Try.underlying61 1 _ rfl (by kernel_rfl) rfl) Try.underlying3
    simp only [List.cons.injEq, and_true] at e0 e1
    subst e0 e1
    exact ⟨(n0, n1), rfl, trivial⟩
set_option maxRecDepth 100000 in
theorem act_of {W : World} {es : List Value} (hl : es.length = 5) (h : Reads Try.prog W 67 es) : ∃ a, es = acCells a ∧ AcOk a := by
  match es, hl with
  | [v0, v1, v2, v3, v4], _ =>
    obtain ⟨n0, e0, x0, y0⟩ := reads_int (reads_field (s := 1) (vs := [v0]) h Try.underlying67 0 _ rfl (by kernel_rfl) rfl) Try.underlying3
    obtain ⟨n1, e1, x1, y1⟩ := reads_int (reads_field (s := 1) (vs := [v1]) h Try.underlying67 1 _ rfl (by kernel_rfl) rfl) Try.underlying3
    obtain ⟨n2, e2, x2, y2⟩ := reads_int (reads_field (s := 1) (vs := [v2]) h Try.underlying67 2 _ rfl (by kernel_rfl) rfl) Try.underlying3
    obtain ⟨n3, e3, x3, y3⟩ := reads_int (reads_field (s := 1) (vs := [v3]) h Try.underlying67 3 _ rfl (by kernel_rfl) rfl) Try.underlying5
    obtain ⟨p, i, j, e4⟩ := reads_slshape (reads_field (s := 1) (vs := [v4]) h Try.underlying67 4 _ rfl (by kernel_rfl) rfl) Try.underlying50
    simp only [List.cons.injEq, and_true] at e0 e1 e2 e3 e4
    subst e0 e1 e2 e3 e4
    have y3' : n3 ≤ (255 : Int) := y3
    exact ⟨⟨n0, n1, n2, n3, p, i, j⟩, rfl, ⟨x1, y1, x2, y2, x3, by show n3 < 256; omega⟩⟩
theorem okv_slice {P : Program} {W : World} {r : Reach} {b : Nat} {t e : TypeId} {v : Value} (h : Value.okWide P W r b t v) (ht : P.underlying t = some (.slice e)) : ∃ p i j, v = .slice p i j ∧ Cell.okWide P W r b t v := by
  have h1 := okv_cell h ht rfl
  have h2 := h1
  unfold Cell.okWide at h2
  rw [ht] at h2
  cases v <;> first | exact ⟨_, _, _, rfl, h1⟩ | (exfalso; first | exact h2 | (unfold Cell.ok at h2; rw [ht] at h2; exact h2) | (simp [Cell.ok, ht] at h2; done))
set_option maxRecDepth 100000 in
theorem diskLasts_walk : LawWalk 8 Try.f8 := lawwalk_reads (fun W base args hs hval => by
  rw [Try.params8] at hs hval
  obtain ⟨l⟩ := args
  match l, hs with
  | [a, b], _ =>
    obtain ⟨h0, hr⟩ := hval 0 49 a rfl rfl
    obtain ⟨h1, hq⟩ := hval 1 50 b rfl rfl
    obtain ⟨p, i, j, rfl, hv⟩ := okv_slice h0 Try.underlying49
    obtain ⟨p', i', j', rfl, hw⟩ := okv_slice h1 Try.underlying50
    obtain ⟨o1, p1, q1, c1, T1, f1, acs, e, hk, hg, hb⟩ := reads_slice (sz := 5) hr Try.underlying49 (by kernel_rfl) rfl hv acCells ac_len AcOk (fun es hl h => act_of hl h)
    obtain ⟨o2, p2, q2, c2, T2, f2, ks, e2, hk2, _, hb2⟩ := reads_slice (sz := 2) hq Try.underlying50 (by kernel_rfl) rfl hw kCells k_len (fun _ => True) (fun es hl h => keep_of hl h)
    rw [e, e2]
    exact ⟨_, has_cons (has_cons (has_nil _) hb2) hb, diskLasts_all o1 p1 q1 c1 T1 f1 acs hk hg o2 p2 q2 c2 T2 f2 ks hk2⟩)


theorem diskLasts_holds : Rows.DiskLastsSaid :=
  OpenClaim.holds_of_wide 8 Try.f8 rfl rfl rfl rfl rfl rfl rfl ⟨rfl, rfl, rfl, rfl, rfl⟩ rfl rfl rfl rfl rfl (by kernel_rfl) Try.func8 (by kernel_rfl)
    (of_decide_eq_true (by kernel_rfl)) (by unfold Func.isWrapper; rw [if_neg (by decide +kernel)]; exact ⟨rfl, rfl⟩)
    (fun os started H enc _ => law_lifted (s := Rows.diskLastsSpec) os started H enc Try.func8 (by kernel_rfl)
      (ChangeSpec.witness6 (enc := enc) (C := Try.checked) false ⟨#[], #[.slice none 0 0, .slice none 0 0], []⟩ 8 (by kernel_rfl) (by kernel_rfl) (by kernel_rfl) (by kernel_rfl))
      rfl (by kernel_rfl) (by kernel_rfl) (by decide +kernel) (fun ds h => by match ds, h with | [_, _], _ => rfl) diskLasts_walk)
#print axioms diskLasts_holds

end
end Go.Proofs.Ytkidmbaakdaflaa
