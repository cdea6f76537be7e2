/- Disks, in plain lists: writes one behind the other; what is read; what a crash leaves of blocks that are sealed. -/
import Derived.Test.YtbblkgdejgoncaaDoorDiskY
import Derived.Test.YtbblkgdejgoncaaDoorSealQ
set_option linter.unusedSimpArgs false
set_option linter.unusedVariables false
namespace Go.Proofs.YtbblkgdejgoncaaDoor
open Go Go.RowKit

section



theorem set_getD {L : List (List UInt8)} {i j : Nat} {s : List UInt8} (hj : j < L.length) : (L.set i s).getD j [] = if i = j then s else L.getD j [] := by
  rw [List.getD_eq_getElem?_getD, List.getElem?_set, List.getD_eq_getElem?_getD]
  by_cases h : i = j
  · subst h; simp [hj]
  · simp [h]
theorem applyW_get (j : Nat) : ∀ (W : List (Int × List UInt8)) (L : List (List UInt8)), j < L.length → (∀ x ∈ W, 0 ≤ x.1) → (applyW L W).getD j [] = lastW (L.getD j []) (j : Int) W
  | [], L, _, _ => rfl
  | x :: W, L, hj, hW => by
    have ih := applyW_get j W (L.set x.1.toNat x.2) (by simpa using hj) (fun y hy => hW y (by simp [hy]))
    have hx := hW x (by simp)
    show (applyW (L.set x.1.toNat x.2) W).getD j [] = lastW (if x.1 = (j : Int) then x.2 else L.getD j []) (j : Int) W
    rw [ih, set_getD hj]
    congr 1
    by_cases e : x.1.toNat = j
    · rw [if_pos e, if_pos (by omega)]
    · rw [if_neg e, if_neg (by omega)]
theorem applyW_app (L : List (List UInt8)) (W V : List (Int × List UInt8)) : applyW L (W ++ V) = applyW (applyW L W) V := by
  unfold applyW; rw [List.foldl_append]
/-- A disk whose power stays. -/
structure Lively (k : Dk) : Prop where
  dead : k.dead = false
  fuse : k.fuse = -1
theorem lively_spent {k : Dk} (h : Lively k) : spD k.fuse k.dead = false ∧ Lively k.spent := by
  have h1 := h.dead
  have h2 := h.fuse
  refine ⟨by rw [h1, h2]; rfl, ?_, ?_⟩
  · show spD _ _ = false; rw [h1, h2]; rfl
  · show spF _ _ = -1; rw [h1, h2]; rfl
theorem newD_lively (n : Nat) : Lively (newD n) := ⟨rfl, rfl⟩
theorem crash_lively (k : Dk) (ks : List (Int × Int)) : Lively (k.crash ks) := ⟨rfl, rfl⟩
theorem sync_lively {k : Dk} (h : Lively k) : k.syncE = 0 ∧ k.sync.L = applyW k.L k.W ∧ k.sync.W = [] ∧ Lively k.sync := by
  obtain ⟨s1, s2⟩ := lively_spent h
  obtain ⟨e1, e2⟩ := sync_live s1
  rw [e1]
  exact ⟨e2, rfl, rfl, ⟨s2.dead, s2.fuse⟩⟩
theorem write_lively {k : Dk} (h : Lively k) {a : Int} {s : List UInt8} (ha : 0 ≤ a ∧ a < (k.L.length : Int)) (hs : s.length = 64) : k.writeE a s = 0 ∧ (k.write a s).L = k.L ∧ (k.write a s).W = k.W ++ [(a, s)] ∧ Lively (k.write a s) := by
  obtain ⟨s1, s2⟩ := lively_spent h
  obtain ⟨e1, e2⟩ := write_live (hasE_ok.2 ha) hs s1
  rw [e1]
  exact ⟨e2, rfl, rfl, ⟨s2.dead, s2.fuse⟩⟩
/-- What is read of all blocks. -/
def view (k : Dk) : List (List UInt8) := applyW k.L k.W
theorem view_len (k : Dk) : (view k).length = k.L.length := applyW_len _ _
theorem view_64 {k : Dk} (h : DkOk k) : ∀ s ∈ view k, s.length = 64 := applyW_64 _ _ h.l64 h.w64
theorem read_view {k : Dk} (h : DkOk k) (hd : k.dead = false) {i : Nat} (hi : i < k.L.length) : k.readS (i : Int) = (view k).getD i [] ∧ k.readE (i : Int) = 0 := by
  obtain ⟨e1, e2⟩ := read_yes (k := k) (a := (i : Int)) (hasE_ok.2 (by omega)) (by rw [hd]; exact Bool.false_ne_true)
  refine ⟨?_, e1⟩
  rw [e2, Int.toNat_natCast]
  exact (applyW_get i k.W k.L hi (fun x hx => (h.wat x hx).1)).symm
theorem view_nil {k : Dk} (h : k.W = []) : view k = k.L := by unfold view; rw [h]; rfl

theorem lastW_len {a : Int} : ∀ (W : List (Int × List UInt8)) (s : List UInt8), s.length ≤ 64 → (∀ x ∈ W, x.2.length = 64) → (lastW s a W).length ≤ 64
  | [], s, h, _ => h
  | x :: W, s, h, hW => by
    show (lastW (if x.1 = a then x.2 else s) a W).length ≤ 64
    refine lastW_len W _ ?_ (fun y hy => hW y (by simp [hy]))
    split
    · have := hW x (by simp); omega
    · exact h
theorem readS_len {k : Dk} (h : DkOk k) (a : Int) : (k.readS a).length ≤ 64 := by
  unfold Dk.readS
  split
  · simp
  · rename_i hn
    refine lastW_len _ _ ?_ h.w64
    rcases Nat.lt_or_ge a.toNat k.L.length with hl | hl
    · rw [getD64 h.l64 hl]; exact Nat.le_refl _
    · rw [List.getD_eq_getElem?_getD, List.getElem?_eq_none hl]; simp
/-- Blocks, one behind the other, each with its place. -/
def places (a : Int) : List (List UInt8) → List (Int × List UInt8)
  | [] => []
  | b :: r => (a, b) :: places (a + 1) r
theorem places_len : ∀ (bl : List (List UInt8)) (a : Int), (places a bl).length = bl.length
  | [], _ => rfl
  | b :: r, a => by rw [places, List.length_cons, places_len r, List.length_cons]
theorem places_app : ∀ (bl cl : List (List UInt8)) (a : Int), places a (bl ++ cl) = places a bl ++ places (a + (bl.length : Int)) cl
  | [], cl, a => by simp [places]
  | b :: r, cl, a => by
    rw [List.cons_append, places, places, places_app r cl, List.cons_append, List.length_cons, show a + 1 + (r.length : Int) = a + ((r.length + 1 : Nat) : Int) by omega]
theorem places_mem {x : Int × List UInt8} : ∀ {bl : List (List UInt8)} {a : Int}, x ∈ places a bl → ∃ (i : Nat) (b : List UInt8), bl[i]? = some b ∧ x = (a + (i : Int), b)
  | [], _, h => by cases h
  | b :: r, a, h => by
    rw [places] at h
    rcases List.mem_cons.1 h with rfl | h
    · exact ⟨0, b, rfl, by rw [Prod.mk.injEq]; exact ⟨by omega, rfl⟩⟩
    · obtain ⟨i, c, h1, rfl⟩ := places_mem h
      exact ⟨i + 1, c, by simpa using h1, by rw [Prod.mk.injEq]; exact ⟨by omega, rfl⟩⟩
theorem applyW_places : ∀ (bl : List (List UInt8)) (L : List (List UInt8)) (a : Nat), a + bl.length ≤ L.length → ∀ i, i < L.length → (applyW L (places (a : Int) bl)).getD i [] = if a ≤ i ∧ i < a + bl.length then bl.getD (i - a) [] else L.getD i []
  | [], L, a, _, i, _ => by rw [if_neg (by simp only [List.length_nil]; omega)]; rfl
  | b :: r, L, a, h, i, hi => by
    rw [List.length_cons] at h
    have ih := applyW_places r (L.set a b) (a + 1) (by simp; omega) i (by simpa using hi)
    show (applyW (L.set ((a : Int)).toNat b) (places ((a : Int) + 1) r)).getD i [] = _
    rw [Int.toNat_natCast, show (a : Int) + 1 = ((a + 1 : Nat) : Int) by omega, ih, set_getD hi, List.length_cons]
    by_cases e : a = i
    · subst e
      rw [if_neg (by omega), if_pos rfl, if_pos (by omega), Nat.sub_self]; rfl
    · rw [if_neg e]
      by_cases g : a + 1 ≤ i ∧ i < a + 1 + r.length
      · rw [if_pos g, if_pos (by omega), show i - a = (i - (a + 1)) + 1 by omega]; rfl
      · rw [if_neg g, if_neg (by omega)]
/-- The disk behind writes one behind the other, up to the first error; that error. -/
def wrsK (k : Dk) (a : Int) : List (List UInt8) → Dk
  | [] => k
  | b :: r => if k.writeE a b ≠ 0 then k.write a b else wrsK (k.write a b) (a + 1) r
def wrsE (k : Dk) (a : Int) : List (List UInt8) → Int
  | [] => 0
  | b :: r => if k.writeE a b ≠ 0 then k.writeE a b else wrsE (k.write a b) (a + 1) r
/-- How far a walk of these writes has come. -/
def WrsAt (k kk : Dk) (a : Int) (bl : List (List UInt8)) (i : Nat) : Prop := wrsK k a bl = wrsK kk (a + (i : Int)) (bl.drop i) ∧ wrsE k a bl = wrsE kk (a + (i : Int)) (bl.drop i)
theorem wrs_start (k : Dk) (a : Int) (bl : List (List UInt8)) : WrsAt k k a bl 0 := by unfold WrsAt; simp
theorem wrs_stop {k kk : Dk} {a : Int} {bl : List (List UInt8)} {i : Nat} {b : List UInt8} (h : WrsAt k kk a bl i) (hb : bl[i]? = some b) (he : ¬ kk.writeE (a + (i : Int)) b = 0) : wrsK k a bl = kk.write (a + (i : Int)) b ∧ wrsE k a bl = kk.writeE (a + (i : Int)) b := by
  obtain ⟨hlt, rfl⟩ := List.getElem?_eq_some_iff.1 hb
  obtain ⟨h1, h2⟩ := h
  rw [List.drop_eq_getElem_cons hlt] at h1 h2
  rw [h1, h2, wrsK, wrsE, if_pos he, if_pos he]; exact ⟨rfl, rfl⟩
theorem wrs_next {k kk : Dk} {a : Int} {bl : List (List UInt8)} {i : Nat} {b : List UInt8} (h : WrsAt k kk a bl i) (hb : bl[i]? = some b) (he : kk.writeE (a + (i : Int)) b = 0) : WrsAt k (kk.write (a + (i : Int)) b) a bl (i + 1) := by
  obtain ⟨hlt, rfl⟩ := List.getElem?_eq_some_iff.1 hb
  obtain ⟨h1, h2⟩ := h
  rw [List.drop_eq_getElem_cons hlt] at h1 h2
  unfold WrsAt
  rw [h1, h2, wrsK, wrsE, if_neg (by omega), if_neg (by omega), show a + (i : Int) + 1 = a + ((i + 1 : Nat) : Int) by omega]; exact ⟨rfl, rfl⟩
theorem wrs_end {k kk : Dk} {a : Int} {bl : List (List UInt8)} {i : Nat} (h : WrsAt k kk a bl i) (hi : bl.length ≤ i) : wrsK k a bl = kk ∧ wrsE k a bl = 0 := by
  obtain ⟨h1, h2⟩ := h
  rw [List.drop_of_length_le hi] at h1 h2
  exact ⟨h1, h2⟩
theorem wrs_ok : ∀ (bl : List (List UInt8)) (k : Dk) (a : Int), DkOk k → DkOk (wrsK k a bl)
  | [], _, _, h => h
  | b :: r, k, a, h => by
    rw [wrsK]; split
    · exact write_ok h a b
    · exact wrs_ok r _ _ (write_ok h a b)
theorem wrs_len : ∀ (bl : List (List UInt8)) (k : Dk) (a : Int), (wrsK k a bl).L.length = k.L.length
  | [], _, _ => rfl
  | b :: r, k, a => by
    rw [wrsK]; split
    · exact write_len k a b
    · rw [wrs_len r, write_len]
theorem wrs_W : ∀ (bl : List (List UInt8)) (k : Dk) (a : Int), (wrsK k a bl).W.length ≤ k.W.length + bl.length
  | [], _, _ => Nat.le_refl _
  | b :: r, k, a => by
    have h1 := write_W k a b
    rw [wrsK, List.length_cons]; split
    · omega
    · have := wrs_W r (k.write a b) (a + 1); omega
/-- What writes within a disk leave: so many of them wait; all, if there is no error. -/
theorem wrs_all : ∀ (bl : List (List UInt8)) (k : Dk) (a : Int), (∀ b ∈ bl, b.length = 64) → 0 ≤ a → a + (bl.length : Int) ≤ (k.L.length : Int) →
    ∃ j, j ≤ bl.length ∧ (wrsK k a bl).L = k.L ∧ (wrsK k a bl).W = k.W ++ places a (bl.take j) ∧ ((wrsE k a bl = 0 ∧ j = bl.length ∧ (k.dead = false → (wrsK k a bl).dead = false)) ∨ (wrsE k a bl = 21 ∧ j < bl.length ∧ (wrsK k a bl).dead = true))
  | [], k, a, _, _, _ => ⟨0, Nat.le_refl _, rfl, by simp [wrsK, places], .inl ⟨rfl, rfl, fun h => h⟩⟩
  | b :: r, k, a, hb, h0, h1 => by
    have hb0 := hb b (by simp)
    rw [List.length_cons] at h1
    have hh : hasE k.L.length a = 0 := hasE_ok.2 (by omega)
    cases hd : spD k.fuse k.dead with
    | true =>
      obtain ⟨e1, e2⟩ := write_dead hh hb0 hd
      refine ⟨0, Nat.zero_le _, ?_, ?_, .inr ⟨?_, by simp, ?_⟩⟩
      · rw [wrsK, if_pos (by rw [e2]; decide), e1]; rfl
      · rw [wrsK, if_pos (by rw [e2]; decide), e1]; simp [places]; rfl
      · rw [wrsE, if_pos (by rw [e2]; decide), e2]
      · rw [wrsK, if_pos (by rw [e2]; decide), e1]; exact hd
    | false =>
      obtain ⟨e1, e2⟩ := write_live hh hb0 hd
      obtain ⟨j, hj, g1, g2, g3⟩ := wrs_all r (k.write a b) (a + 1) (fun x hx => hb x (by simp [hx])) (by omega) (by rw [write_len]; omega)
      have ek : wrsK k a (b :: r) = wrsK (k.write a b) (a + 1) r := by rw [wrsK, if_neg (by rw [e2]; simp)]
      have ee : wrsE k a (b :: r) = wrsE (k.write a b) (a + 1) r := by rw [wrsE, if_neg (by rw [e2]; simp)]
      rw [ek, ee]
      have hL : (k.write a b).L = k.L := by rw [e1]; rfl
      have hW : (k.write a b).W = k.W ++ [(a, b)] := by rw [e1]; rfl
      have hD : (k.write a b).dead = false := by rw [e1]; exact hd
      refine ⟨j + 1, by simp; omega, by rw [g1, hL], by rw [g2, hW, List.take_succ_cons, places, List.append_assoc]; rfl, ?_⟩
      rcases g3 with ⟨g3, g4, g5⟩ | ⟨g3, g4, g5⟩
      · exact .inl ⟨g3, by rw [List.length_cons]; omega, fun _ => g5 hD⟩
      · exact .inr ⟨g3, by rw [List.length_cons]; omega, g5⟩
theorem wrs_lively : ∀ (bl : List (List UInt8)) (k : Dk) (a : Int), Lively k → (∀ b ∈ bl, b.length = 64) → 0 ≤ a → a + (bl.length : Int) ≤ (k.L.length : Int) →
    wrsE k a bl = 0 ∧ (wrsK k a bl).L = k.L ∧ (wrsK k a bl).W = k.W ++ places a bl ∧ Lively (wrsK k a bl)
  | [], k, a, h, _, _, _ => ⟨rfl, rfl, by simp [wrsK, places], h⟩
  | b :: r, k, a, h, hb, h0, h1 => by
    rw [List.length_cons] at h1
    obtain ⟨e2, hL, hW, hv⟩ := write_lively h (a := a) (s := b) (by omega) (hb b (by simp))
    obtain ⟨g1, g2, g3, g4⟩ := wrs_lively r (k.write a b) (a + 1) hv (fun x hx => hb x (by simp [hx])) (by omega) (by rw [write_len]; omega)
    have ek : wrsK k a (b :: r) = wrsK (k.write a b) (a + 1) r := by rw [wrsK, if_neg (by rw [e2]; simp)]
    have ee : wrsE k a (b :: r) = wrsE (k.write a b) (a + 1) r := by rw [wrsE, if_neg (by rw [e2]; simp)]
    rw [ek, ee]
    exact ⟨g1, by rw [g2, hL], by rw [g3, hW, places, List.append_assoc]; rfl, g4⟩
/-- What a crash leaves block by block: what no write that stays breaks. -/
theorem keeps_inv {W : List (Int × List UInt8)} (I : Nat → List UInt8 → Prop) (hx : ∀ x ∈ W, ∀ b c, c ≤ 64 → I x.1.toNat b → I x.1.toNat (x.2.take c ++ b.drop c)) :
    ∀ (ks : List (Int × Int)) (L : List (List UInt8)), (∀ x ∈ W, x.1.toNat < L.length) → (∀ i, i < L.length → I i (L.getD i [])) → ∀ i, i < L.length → I i ((keepsL W L ks).getD i [])
  | [], L, _, h, i, hi => h i hi
  | k :: ks, L, hw, h, i, hi => by
    show I i ((keepsL W (keep1 W L k) ks).getD i [])
    have hl := keep1_len W L k
    refine keeps_inv I hx ks (keep1 W L k) (fun x hx' => by rw [hl]; exact hw x hx') (fun i hi => ?_) i (by rw [hl]; exact hi)
    rw [hl] at hi
    by_cases hk : k.1 < 0 ∨ (W.length : Int) ≤ k.1
    · rw [keep1_no hk]; exact h i hi
    · obtain ⟨y, hy⟩ := getI (show k.1.toNat < W.length by omega)
      rw [keep1_yes hk hy, set_getD hi]
      by_cases e : y.1.toNat = i
      · rw [if_pos e]
        have hm := List.mem_of_getElem? hy
        have := hx y hm (L.getD y.1.toNat []) (cut64 k.2) (cut64_le _) (h _ (hw y hm))
        rw [e] at this ⊢
        exact this
      · rw [if_neg e]; exact h i hi

-- blocks that are sealed, and torn
def b3 (b : List UInt8) : Nat := (b.getD 3 0).toNat
def b59 (b : List UInt8) : Nat := (b.getD 59 0).toNat
/-- What has been sealed, whole or in part, by numbers up to this one. -/
structure Low (e : Nat) (b : List UInt8) : Prop where
  len : b.length = 64
  z : b.take 3 = [0, 0, 0]
  p : b3 b ≤ e
  q : b59 b ≤ e
theorem Low.mono {e f : Nat} {b : List UInt8} (h : Low e b) (hef : e ≤ f) : Low f b := ⟨h.len, h.z, Nat.le_trans h.p hef, Nat.le_trans h.q hef⟩
theorem zero_b3 : b3 (List.replicate 64 0) = 0 := by decide
theorem zero_b59 : b59 (List.replicate 64 0) = 0 := by decide
theorem low_zero (e : Nat) : Low e (List.replicate 64 0) := ⟨by simp, by decide, by rw [zero_b3]; omega, by rw [zero_b59]; omega⟩
theorem be4_small {e : Nat} (h : e < 256) : be 4 e = [0, 0, 0, UInt8.ofNat e] := by
  have h1 : e / 256 = 0 := by omega
  have h2 : e % 256 = e := by omega
  simp [be, h1, h2]
theorem sealL_small {e i : Nat} {d : List UInt8} (h0 : 0 < e) (h : e < 256) (hd : d.length = 48) : sealL e i d = [0, 0, 0, UInt8.ofNat e] ++ be 4 i ++ d ++ [0, 0, 0, UInt8.ofNat e] ++ be 4 i := by
  unfold sealL; rw [if_neg (by omega), be4_small h]
theorem seal_facts {e i : Nat} {d : List UInt8} (h0 : 0 < e) (h : e < 256) (hd : d.length = 48) : (sealL e i d).length = 64 ∧ (sealL e i d).take 3 = [0, 0, 0] ∧ b3 (sealL e i d) = e ∧ b59 (sealL e i d) = e ∧ ((sealL e i d).take 56).drop 8 = d := by
  have hE : sealE e d = 0 := (sealE_cases e d).2 (by omega)
  have h4 := be_length 4 i
  have hu : (UInt8.ofNat e).toNat = e := by rw [UInt8.toNat_ofNat']; omega
  refine ⟨sealL_length hE, ?_, ?_, ?_, (sealL_parts hE).2.2.1⟩
  · rw [sealL_small h0 h hd]; rfl
  · rw [sealL_small h0 h hd]; exact hu
  · rw [sealL_small h0 h hd]
    unfold b59
    rw [List.getD_eq_getElem?_getD, List.append_assoc, List.getElem?_append_right (by simp [h4, hd])]
    simp only [List.length_append, List.length_cons, List.length_nil, h4, hd]
    exact hu
theorem low_seal {e i : Nat} {d : List UInt8} (h0 : 0 < e) (h : e < 256) (hd : d.length = 48) : Low e (sealL e i d) := by
  obtain ⟨a, b, c, d, _⟩ := seal_facts (i := i) h0 h hd
  exact ⟨a, b, by omega, by omega⟩
theorem mix_get {S b : List UInt8} {c : Nat} (hS : S.length = 64) (hc : c ≤ 64) (j : Nat) : (S.take c ++ b.drop c)[j]? = if j < c then S[j]? else b[j]? := by
  have hl : (S.take c).length = c := by rw [List.length_take]; omega
  by_cases h : j < c
  · rw [if_pos h, List.getElem?_append_left (by omega), List.getElem?_take, if_pos h]
  · rw [if_neg h, List.getElem?_append_right (by omega), hl, List.getElem?_drop]; congr 1; omega
theorem mix_len {S b : List UInt8} {c : Nat} (hS : S.length = 64) (hb : b.length = 64) (hc : c ≤ 64) : (S.take c ++ b.drop c).length = 64 := by
  rw [List.length_append, List.length_take, List.length_drop]; omega
theorem getD_of {l m : List UInt8} {j k : Nat} (h : l[j]? = m[k]?) : l.getD j 0 = m.getD k 0 := by
  rw [List.getD_eq_getElem?_getD, List.getD_eq_getElem?_getD, h]
/-- What has come of a block when a sealed one was written over it, whole or in part, however often. -/
def Lain (e : Nat) (d b b' : List UInt8) : Prop := b' = b ∨ (b'.length = 64 ∧ b'.take 3 = [0, 0, 0] ∧ b3 b' = e ∧ b59 b' ≤ e ∧ (b59 b' = e → (b'.take 56).drop 8 = d))
theorem lain_seal {e i : Nat} {d b : List UInt8} (h0 : 0 < e) (h : e < 256) (hd : d.length = 48) : Lain e d b (sealL e i d) := by
  obtain ⟨a1, a2, a3, a4, a5⟩ := seal_facts (i := i) h0 h hd
  exact .inr ⟨a1, a2, a3, by omega, fun _ => a5⟩
theorem lain_over {e0 e i : Nat} {d b b' : List UInt8} {c : Nat} (hb : Low e0 b) (he : e0 < e) (h256 : e < 256) (hd : d.length = 48) (h : Lain e d b b') (hc : c ≤ 64) : Lain e d b ((sealL e i d).take c ++ b'.drop c) := by
  obtain ⟨a1, a2, a3, a4, a5⟩ := seal_facts (i := i) (show 0 < e by omega) h256 hd
  generalize hS : sealL e i d = S at a1 a2 a3 a4 a5
  have hb64 : b'.length = 64 := by rcases h with rfl | h; exact hb.len; exact h.1
  have hbz : b'.take 3 = [0, 0, 0] := by rcases h with rfl | h; exact hb.z; exact h.2.1
  have hbq : b59 b' ≤ e := by rcases h with rfl | h; (have := hb.q; omega); exact h.2.2.2.1
  have hbd : b59 b' = e → (b'.take 56).drop 8 = d := by
    rcases h with rfl | h
    · intro x; have := hb.q; omega
    · exact h.2.2.2.2
  by_cases h3 : c ≤ 3
  · have e1 : S.take c = b'.take c := by
      have x1 : S.take c = (S.take 3).take c := by rw [List.take_take]; congr 1; omega
      have x2 : b'.take c = (b'.take 3).take c := by rw [List.take_take]; congr 1; omega
      rw [x1, x2, a2, hbz]
    rw [e1, List.take_append_drop]; exact h
  · right
    refine ⟨mix_len a1 hb64 hc, ?_, ?_, ?_, ?_⟩
    · rw [List.take_append_of_le_length (by rw [List.length_take]; omega), List.take_take, Nat.min_eq_left (by omega), a2]
    · rw [← a3]
      exact congrArg UInt8.toNat (getD_of (by rw [mix_get a1 hc, if_pos (by omega)]))
    · by_cases h59 : 59 < c
      · have : b59 (S.take c ++ b'.drop c) = b59 S := congrArg UInt8.toNat (getD_of (by rw [mix_get a1 hc, if_pos h59]))
        omega
      · have : b59 (S.take c ++ b'.drop c) = b59 b' := congrArg UInt8.toNat (getD_of (by rw [mix_get a1 hc, if_neg h59]))
        omega
    · intro hx
      have hd2 : 59 < c ∨ (b'.take 56).drop 8 = d := by
        by_cases h59 : 59 < c
        · exact .inl h59
        · right
          have : b59 (S.take c ++ b'.drop c) = b59 b' := congrArg UInt8.toNat (getD_of (by rw [mix_get a1 hc, if_neg h59]))
          exact hbd (by omega)
      apply List.ext_getElem?
      intro j
      rw [List.getElem?_drop, List.getElem?_take, mix_get a1 hc]
      by_cases hj : 8 + j < 56
      · rw [if_pos hj]
        have s1 : S[8 + j]? = d[j]? := by rw [← a5, List.getElem?_drop, List.getElem?_take, if_pos hj]
        by_cases hjc : 8 + j < c
        · rw [if_pos hjc, s1]
        · rw [if_neg hjc]
          rcases hd2 with g | g
          · omega
          · rw [← g, List.getElem?_drop, List.getElem?_take, if_pos hj]
      · rw [if_neg hj, List.getElem?_eq_none (by omega)]
theorem low_lain {e0 e : Nat} {d b b' : List UInt8} (hb : Low e0 b) (he : e0 < e) (h : Lain e d b b') : Low e b' := by
  rcases h with rfl | ⟨a, b, c, d, _⟩
  · exact hb.mono (by omega)
  · exact ⟨a, b, by omega, d⟩
theorem open_parts {b : List UInt8} (h : openOk b = true) : b.length = 64 ∧ b.take 8 = b.drop 56 ∧ b3 b = b59 b ∧ openD b = (b.take 56).drop 8 ∧ openE b = num (b.take 4) := by
  have h' := h
  unfold openOk at h'
  have h' : b.length = 64 ∧ b.take 8 = b.drop 56 ∧ num (b.take 4) ≠ 0 := by simpa using h'
  obtain ⟨h1, h2, h3⟩ := h'
  refine ⟨h1, h2, congrArg UInt8.toNat (getD_of ?_), by unfold openD; rw [if_pos h], by unfold openE; rw [if_pos h]⟩
  have := congrArg (fun l => l[3]?) h2
  simpa [List.getElem?_take, List.getElem?_drop] using this
theorem num_low {b : List UInt8} (hl : b.length = 64) (hz : b.take 3 = [0, 0, 0]) : num (b.take 4) = b3 b := by
  have e : b.take 4 = [0, 0, 0, b.getD 3 0] := by
    rw [take_succ_of (a := b.getD 3 0) (by rw [List.getD_eq_getElem?_getD, List.getElem?_eq_getElem (by omega)]; rfl), hz]; rfl
  rw [e]; simp [num, b3]
theorem low_open {e : Nat} {b : List UInt8} (h : Low e b) (ho : openOk b = true) : openE b = b3 b ∧ openE b ≤ e := by
  obtain ⟨_, _, _, _, h5⟩ := open_parts ho
  rw [h5, num_low h.len h.z]; exact ⟨rfl, h.p⟩
theorem lain_open {e0 e : Nat} {d b b' : List UInt8} (hb : Low e0 b) (he : e0 < e) (h : Lain e d b b') (ho : openOk b' = true) : (b' = b ∧ openE b' ≤ e0) ∨ (openE b' = e ∧ openD b' = d) := by
  rcases h with rfl | ⟨a1, a2, a3, a4, a5⟩
  · exact .inl ⟨rfl, (low_open hb ho).2⟩
  · obtain ⟨_, _, h3, h4, h5⟩ := open_parts ho
    right
    refine ⟨by rw [h5, num_low a1 a2, a3], ?_⟩
    rw [h4]; exact a5 (by omega)

end
end Go.Proofs.YtbblkgdejgoncaaDoor
