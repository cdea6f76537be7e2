/- Long texts on some blocks of a disk (layer 27), in plain lists. -/
import Derived.Test.YtbblkgdejgoncaaDoorDiskA
set_option linter.unusedSimpArgs false
set_option linter.unusedVariables false
namespace Go.Proofs.YtbblkgdejgoncaaDoor
open Go Go.RowKit

section



def manyS (n : Nat) : Nat := (n + 47) / 48
theorem manyS_room (n : Nat) : n ≤ 48 * manyS n ∧ 48 * manyS n < n + 48 := by unfold manyS; omega
def padS (s : List UInt8) : List UInt8 := s ++ List.replicate (48 * manyS s.length - s.length) 0
theorem padS_len (s : List UInt8) : (padS s).length = 48 * manyS s.length := by
  have := manyS_room s.length
  rw [padS, List.length_append, List.length_replicate]; omega
def pieceS (s : List UInt8) (i : Nat) : List UInt8 := ((padS s).drop (48 * i)).take 48
theorem pieceS_len (s : List UInt8) {i : Nat} (h : i < manyS s.length) : (pieceS s i).length = 48 := by
  have := padS_len s
  unfold pieceS
  rw [List.length_take, List.length_drop]; omega
def blkS (e : Nat) (s : List UInt8) (i : Nat) : List UInt8 := sealL e i (pieceS s i)
def blksS (e : Nat) (s : List UInt8) : List (List UInt8) := (List.range (manyS s.length)).map (blkS e s)
theorem blksS_len (e : Nat) (s : List UInt8) : (blksS e s).length = manyS s.length := by simp [blksS]
theorem blksS_at (e : Nat) (s : List UInt8) {i : Nat} (h : i < manyS s.length) : (blksS e s)[i]? = some (blkS e s i) := by simp [blksS, h]
theorem blkS_E {e : Nat} (s : List UInt8) {i : Nat} (he : 0 < e) (h : i < manyS s.length) : sealE e (pieceS s i) = 0 := (sealE_cases _ _).2 (by rw [pieceS_len s h]; omega)
theorem blkS_len {e : Nat} (s : List UInt8) {i : Nat} (he : 0 < e) (h : i < manyS s.length) : (blkS e s i).length = 64 := sealL_length (blkS_E s he h)
theorem blksS_64 {e : Nat} (s : List UInt8) (he : 0 < e) : ∀ b ∈ blksS e s, b.length = 64 := by
  intro b hb
  simp only [blksS, List.mem_map, List.mem_range] at hb
  obtain ⟨i, hi, rfl⟩ := hb
  exact blkS_len s he hi
/-- What is wrong with a region, or an epoch. -/
def regE (N : Nat) (f b : Int) (e : Nat) : Int := if f < 0 ∨ b < 1 ∨ (N : Int) < b ∨ (N : Int) - b < f ∨ e = 0 then 1 else 0
theorem regE_ok {N : Nat} {f b : Int} {e : Nat} : regE N f b e = 0 ↔ 0 ≤ f ∧ 1 ≤ b ∧ f + b ≤ (N : Int) ∧ 0 < e := by
  unfold regE
  constructor
  · intro h; split at h
    · cases h
    · omega
  · intro h; rw [if_neg (by omega)]
theorem regE_one {N : Nat} {f b : Int} {e : Nat} (h : ¬ regE N f b e = 0) : regE N f b e = 1 := by
  unfold regE at *; split at h
  · rename_i g; rw [if_pos g]
  · exact absurd rfl h
def putK (k : Dk) (f b : Int) (e : Nat) (s : List UInt8) : Dk := if regE k.L.length f b e ≠ 0 then k else if b < (manyS s.length : Int) then k else wrsK k f (blksS e s)
def putE (k : Dk) (f b : Int) (e : Nat) (s : List UInt8) : Int := if regE k.L.length f b e ≠ 0 then 1 else if b < (manyS s.length : Int) then 17 else wrsE k f (blksS e s)
theorem put_no {k : Dk} {f b : Int} {e : Nat} {s : List UInt8} (h : ¬ regE k.L.length f b e = 0) : putK k f b e s = k ∧ putE k f b e s = 1 := by unfold putK putE; rw [if_pos h, if_pos h]; exact ⟨rfl, rfl⟩
theorem put_full {k : Dk} {f b : Int} {e : Nat} {s : List UInt8} (h : regE k.L.length f b e = 0) (h1 : b < (manyS s.length : Int)) : putK k f b e s = k ∧ putE k f b e s = 17 := by
  unfold putK putE; simp [h, h1]
theorem put_yes {k : Dk} {f b : Int} {e : Nat} {s : List UInt8} (h : regE k.L.length f b e = 0) (h1 : (manyS s.length : Int) ≤ b) : putK k f b e s = wrsK k f (blksS e s) ∧ putE k f b e s = wrsE k f (blksS e s) := by
  unfold putK putE; simp [h, show ¬ b < (manyS s.length : Int) by omega]
theorem put_ok {k : Dk} (h : DkOk k) (f b : Int) (e : Nat) (s : List UInt8) : DkOk (putK k f b e s) := by
  unfold putK; split
  · exact h
  · split
    · exact h
    · exact wrs_ok _ _ _ h
theorem put_len (k : Dk) (f b : Int) (e : Nat) (s : List UInt8) : (putK k f b e s).L.length = k.L.length := by
  unfold putK; split
  · rfl
  · split
    · rfl
    · exact wrs_len _ _ _
-- what is got
def okB (b : List UInt8) (e i : Nat) : Bool := openOk b && decide (openE b = e) && decide (openI b = i)
theorem okB_iff {b : List UInt8} {e i : Nat} : okB b e i = true ↔ openOk b = true ∧ openE b = e ∧ openI b = i := by
  unfold okB; simp [and_assoc]
def catD (bl : List (List UInt8)) : List UInt8 := (bl.map openD).flatten
theorem catD_next {bl : List (List UInt8)} {i : Nat} {b : List UInt8} (h : bl[i]? = some b) : catD (bl.take (i + 1)) = catD (bl.take i) ++ openD b := by
  rw [take_succ_of h]; unfold catD; simp
theorem catD_len {bl : List (List UInt8)} : ∀ {i : Nat}, i ≤ bl.length → (∀ j b, j < i → bl[j]? = some b → openOk b = true) → (catD (bl.take i)).length = 48 * i
  | 0, _, _ => by simp [catD]
  | i + 1, hi, h => by
    obtain ⟨b, hb⟩ := getI (show i < bl.length by omega)
    rw [catD_next hb, List.length_append, catD_len (by omega) (fun j b hj => h j b (by omega))]
    have ho := h i b (by omega) hb
    have : (openD b).length = 48 := by
      obtain ⟨h1, _, _, h4, _⟩ := open_parts ho
      rw [h4]; simp; omega
    omega
/-- All of the first blocks are sealed by an epoch and their places. -/
def okTo (bl : List (List UInt8)) (e m : Nat) : Prop := ∀ j, j < m → okB (bl.getD j []) e j = true
instance (bl : List (List UInt8)) (e m : Nat) : Decidable (okTo bl e m) := by unfold okTo; infer_instance
theorem okTo_next {bl : List (List UInt8)} {e i : Nat} (h : okTo bl e i) (hb : okB (bl.getD i []) e i = true) : okTo bl e (i + 1) := fun j hj => by
  rcases Nat.lt_or_ge j i with h1 | h1
  · exact h j h1
  · obtain rfl : j = i := by omega
    exact hb
theorem okTo_len {bl : List (List UInt8)} {e i : Nat} (h : okTo bl e i) (hi : i ≤ bl.length) : (catD (bl.take i)).length = 48 * i :=
  catD_len hi fun j b hj hb => by
    have := h j hj
    rw [List.getD_eq_getElem?_getD, hb] at this
    exact (okB_iff.1 this).1
def getOk (bl : List (List UInt8)) (e : Nat) (z : Int) : Prop := 0 ≤ z ∧ manyS z.toNat ≤ bl.length ∧ okTo bl e (manyS z.toNat) ∧ ∀ x ∈ (catD (bl.take (manyS z.toNat))).drop z.toNat, x = 0
instance (bl : List (List UInt8)) (e : Nat) (z : Int) : Decidable (getOk bl e z) := by unfold getOk; infer_instance
def getT (bl : List (List UInt8)) (e : Nat) (z : Int) : List UInt8 := if getOk bl e z then (catD (bl.take (manyS z.toNat))).take z.toNat else []
def getE (bl : List (List UInt8)) (e : Nat) (z : Int) : Int := if getOk bl e z then 0 else 18
theorem get_yes {bl : List (List UInt8)} {e : Nat} {z : Int} (h : getOk bl e z) : getT bl e z = (catD (bl.take (manyS z.toNat))).take z.toNat ∧ getE bl e z = 0 := by unfold getT getE; rw [if_pos h, if_pos h]; exact ⟨rfl, rfl⟩
theorem get_no {bl : List (List UInt8)} {e : Nat} {z : Int} (h : ¬ getOk bl e z) : getT bl e z = [] ∧ getE bl e z = 18 := by unfold getT getE; rw [if_neg h, if_neg h]; exact ⟨rfl, rfl⟩
theorem padS_chunk (s : List UInt8) : ∀ m, m ≤ manyS s.length → ((List.range m).map (pieceS s)).flatten = (padS s).take (48 * m)
  | 0, _ => rfl
  | m + 1, h => by
    rw [List.range_succ, List.map_append, List.flatten_append, padS_chunk s m (by omega)]
    simp only [List.map_cons, List.map_nil, List.flatten_cons, List.flatten_nil, List.append_nil]
    unfold pieceS
    rw [show 48 * (m + 1) = 48 * m + 48 by omega, List.take_add]
theorem blk_open {e i : Nat} {s : List UInt8} (he : 0 < e) (he2 : e < 4294967296) (hi : i < manyS s.length) (hi2 : i < 4294967296) : openOk (blkS e s i) = true ∧ openE (blkS e s i) = e ∧ openI (blkS e s i) = i ∧ openD (blkS e s i) = pieceS s i := by
  have h := blkS_E s he hi
  obtain ⟨a, b, c⟩ := open_seal he2 hi2 h
  exact ⟨openOk_seal he2 h, a, b, c⟩
/-- A text whose blocks lie first is got. -/
theorem get_text {bl : List (List UInt8)} {e : Nat} {s : List UInt8} (he : 0 < e) (he2 : e < 4294967296) (hm : manyS s.length < 4294967296) (hl : manyS s.length ≤ bl.length) (hb : ∀ i, i < manyS s.length → openOk (bl.getD i []) = true ∧ openE (bl.getD i []) = e ∧ openI (bl.getD i []) = i ∧ openD (bl.getD i []) = pieceS s i) :
    getT bl e (s.length : Int) = s ∧ getE bl e (s.length : Int) = 0 := by
  have hr := manyS_room s.length
  have hc : catD (bl.take (manyS s.length)) = padS s := by
    have h1 : (bl.take (manyS s.length)).map openD = (List.range (manyS s.length)).map (pieceS s) := by
      apply List.ext_getElem?
      intro j
      rw [List.getElem?_map, List.getElem?_map, List.getElem?_take]
      by_cases hj : j < manyS s.length
      · rw [if_pos hj, List.getElem?_range hj]
        have := (hb j hj).2.2.2
        rw [List.getD_eq_getElem?_getD] at this
        obtain ⟨x, hx⟩ := getI (show j < bl.length by omega)
        rw [hx] at this ⊢
        simp only [Option.map_some, Option.some.injEq]
        exact this
      · rw [if_neg hj, List.getElem?_eq_none (by simpa using hj)]; rfl
    unfold catD
    rw [h1, padS_chunk s _ (Nat.le_refl _), List.take_of_length_le (by rw [padS_len]; exact Nat.le_refl _)]
  have ht : ((s.length : Int)).toNat = s.length := Int.toNat_natCast _
  have hg : getOk bl e (s.length : Int) := by
    unfold getOk
    rw [ht, hc]
    refine ⟨by omega, hl, fun j hj => okB_iff.2 ⟨(hb j hj).1, (hb j hj).2.1, (hb j hj).2.2.1⟩, ?_⟩
    unfold padS
    rw [List.drop_left' rfl]
    intro x hx
    exact List.eq_of_mem_replicate hx
  obtain ⟨g1, g2⟩ := get_yes hg
  refine ⟨?_, g2⟩
  rw [g1, ht, hc]
  unfold padS
  exact List.take_left' rfl
/-- What is got of blocks of which each that opens so is the text's own is the text. -/
theorem get_only {bl : List (List UInt8)} {e : Nat} {s : List UInt8} (he : 0 < e) (he2 : e < 4294967296) (hm : manyS s.length < 4294967296) (hb : ∀ i, i < manyS s.length → i < bl.length → okB (bl.getD i []) e i = true → openD (bl.getD i []) = pieceS s i) :
    (getE bl e (s.length : Int) = 0 ∧ getT bl e (s.length : Int) = s) ∨ getE bl e (s.length : Int) = 18 := by
  by_cases hg : getOk bl e (s.length : Int)
  · have hg' := hg
    obtain ⟨_, g2, g3, _⟩ := hg'
    rw [Int.toNat_natCast] at g2 g3
    obtain ⟨a, b⟩ := get_text he he2 hm g2 (fun i hi => by
      obtain ⟨x, y, z⟩ := okB_iff.1 (g3 i hi)
      exact ⟨x, y, z, hb i hi (by omega) (g3 i hi)⟩)
    exact .inl ⟨b, a⟩
  · exact .inr (get_no hg).2
/-- What is read of some blocks. -/
def rdB (k : Dk) (f : Int) (n : Nat) : List (List UInt8) := (List.range n).map fun (i : Nat) => k.readS (f + (i : Int))
theorem rdB_len (k : Dk) (f : Int) (n : Nat) : (rdB k f n).length = n := by simp [rdB]
theorem rdB_at {k : Dk} {f : Int} {n i : Nat} (h : i < n) : (rdB k f n)[i]? = some (k.readS (f + (i : Int))) := by simp [rdB, h]
theorem rdB_get {k : Dk} {f : Int} {n i : Nat} (h : i < n) : (rdB k f n).getD i [] = k.readS (f + (i : Int)) := by rw [List.getD_eq_getElem?_getD, rdB_at h]; rfl

end
end Go.Proofs.YtbblkgdejgoncaaDoor
