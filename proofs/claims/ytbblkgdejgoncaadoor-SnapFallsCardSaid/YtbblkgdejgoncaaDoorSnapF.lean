/- Texts that fall (layer 27), in plain lists: whatever stays of what was put, each is got whole, or not at all. -/
import Derived.Test.YtbblkgdejgoncaaDoorSnapL
set_option linter.unusedSimpArgs false
set_option linter.unusedVariables false
namespace Go.Proofs.YtbblkgdejgoncaaDoor
open Go Go.RowKit

section



theorem newD_view (n i : Nat) (hi : i < n) : (newD n).L.getD i [] = zs64 := by
  show (List.replicate n (List.replicate 64 (0 : UInt8))).getD i [] = _
  rw [List.getD_eq_getElem?_getD, List.getElem?_replicate, if_pos hi]; rfl
/-- What a Put within a disk of twenty blocks' room leaves, under any fuse: so many of its blocks wait. -/
theorem put_some {k : Dk} {f : Nat} {e : Nat} {s : List UInt8} (hL : k.L.length = 41) (hf : f ≤ 20) (he : 0 < e) (hs : s.length ≤ 900) :
    ∃ j, j ≤ manyS s.length ∧ (putK k (f : Int) 20 e s).L = k.L ∧ (putK k (f : Int) 20 e s).W = k.W ++ places (f : Int) ((blksS e s).take j) := by
  have hm := manyS_room s.length
  have hr : regE k.L.length (f : Int) 20 e = 0 := by rw [hL, regE_ok]; omega
  obtain ⟨e1, _⟩ := put_yes (k := k) (s := s) hr (by omega)
  have hbl := blksS_len e s
  obtain ⟨j, h1, h2, h3, _⟩ := wrs_all (blksS e s) k (f : Int) (blksS_64 s he) (by omega) (by rw [hL, hbl]; omega)
  rw [e1]
  exact ⟨j, by omega, h2, h3⟩
theorem places_of {x : Int × List UInt8} {f e j : Nat} {s : List UInt8} (h : x ∈ places (f : Int) ((blksS e s).take j)) : ∃ i, i < manyS s.length ∧ i < j ∧ x.1.toNat = f + i ∧ x.2 = blkS e s i := by
  obtain ⟨i, b, hb, rfl⟩ := places_mem h
  rw [List.getElem?_take] at hb
  split at hb
  · rename_i hij
    have hi : i < manyS s.length := by
      rcases Nat.lt_or_ge i (manyS s.length) with h | h
      · exact h
      · rw [List.getElem?_eq_none (by rw [blksS_len]; exact h)] at hb; cases hb
    rw [blksS_at e s hi] at hb
    cases hb
    exact ⟨i, hi, hij, by simp only; omega, rfl⟩
  · cases hb
/-- A disk of 41 blocks without writes that wait: its blocks are low, and those of the first region are a text's. -/
structure First (s : List UInt8) (k : Dk) : Prop where
  len : k.L.length = 41
  nil : k.W = []
  alive : k.dead = false
  mine : ∀ i, i < manyS s.length → k.L.getD i [] = blkS 1 s i
  low : ∀ i, i < 20 → Low 1 (k.L.getD i [])
theorem first_put {s : List UInt8} (hs : s.length ≤ 900) : putE (newD 41) 0 20 1 s = 0 ∧ (putK (newD 41) 0 20 1 s).syncE = 0 ∧ First s (putK (newD 41) 0 20 1 s).sync := by
  have hm := manyS_room s.length
  have hok := newD_ok 41 (by omega) (by omega)
  have hn : (newD 41).L.length = 41 := by simp [newD]
  obtain ⟨e1, e2, e3, e4, e5⟩ := view_put (k := newD 41) (f := 0) (b := 20) (e := 1) (s := s) hok (newD_lively 41) (by rw [hn]; decide) (by omega)
  have hz : ((0 : Nat) : Int) = 0 := rfl
  rw [hz] at e1 e2 e3 e4 e5
  obtain ⟨s1, s2, s3, s4⟩ := sync_lively e2
  have hv : ∀ i, i < 41 → (putK (newD 41) 0 20 1 s).sync.L.getD i [] = if i < manyS s.length then blkS 1 s i else zs64 := by
    intro i hi
    have h5 := e5 i (by rw [hn]; exact hi)
    rw [s2]
    show (view (putK (newD 41) 0 20 1 s)).getD i [] = _
    rw [h5]
    by_cases hc : i < manyS s.length
    · rw [if_pos (by omega), if_pos hc, Nat.sub_zero]
    · rw [if_neg (by omega), if_neg hc]; exact newD_view 41 i hi
  refine ⟨e1, s1, ⟨?_, s3, s4.dead, fun i hi => ?_, fun i hi => ?_⟩⟩
  · rw [s2, applyW_len]
    rw [e3, hn]
  · rw [hv i (by omega), if_pos hi]
  · rw [hv i (by omega)]
    split
    · exact low_seal (by omega) (by omega) (pieceS_len s (by omega))
    · exact low_zero 1
theorem first_fuse {s : List UInt8} {k : Dk} (h : First s k) (z : Int) : First s (k.setFuse z) := ⟨h.len, h.nil, h.alive, h.mine, h.low⟩
theorem first_got {s : List UInt8} {k : Dk} (hs : s.length ≤ 900) (ho : DkOk k) (h : First s k) : gotT k 0 20 1 (s.length : Int) = s ∧ gotE k 0 20 1 (s.length : Int) = 0 := by
  have hm := manyS_room s.length
  refine got_of (f := 0) ho h.alive (by omega) (by rw [h.len]; decide) (by omega) (fun i hi => ?_)
  rw [view_nil h.nil, Nat.zero_add]; exact h.mine i hi
/-- What is put in the other region does not matter. -/
theorem first_other {s t : List UInt8} {k : Dk} (hs : s.length ≤ 900) (ht : t.length ≤ 900) (h : First s k) (ks : List (Int × Int)) : First s ((putK k 20 20 2 t).crash ks) := by
  have hm := manyS_room s.length
  have hmt := manyS_room t.length
  obtain ⟨j, hj, e1, e2⟩ := put_some (k := k) (f := 20) (e := 2) (s := t) h.len (by omega) (by omega) ht
  have e1 : (putK k 20 20 2 t).L = k.L := e1
  have e2 : (putK k 20 20 2 t).W = k.W ++ places ((20 : Nat) : Int) ((blksS 2 t).take j) := e2
  rw [h.nil, List.nil_append] at e2
  have key : ∀ i, i < 41 → (i < 20 → ((putK k 20 20 2 t).crash ks).L.getD i [] = k.L.getD i []) := by
    have := keeps_inv (W := places ((20 : Nat) : Int) ((blksS 2 t).take j)) (fun i b => i < 20 → b = k.L.getD i []) (fun x hx b c _ _ => by
      obtain ⟨i, _, _, h3, _⟩ := places_of hx
      intro hlt; omega) ks k.L (fun x hx => by
      obtain ⟨i, h1, _, h3, _⟩ := places_of hx
      rw [h.len]; omega) (fun i _ _ => rfl)
    intro i hi
    have h2 := this i (by rw [h.len]; exact hi)
    show i < 20 → (keepsL (putK k 20 20 2 t).W (putK k 20 20 2 t).L ks).getD i [] = _
    rw [e1, e2]; exact h2
  refine ⟨?_, rfl, rfl, fun i hi => ?_, fun i hi => ?_⟩
  · rw [crash_len, e1]; exact h.len
  · rw [key i (by omega) (by omega)]; exact h.mine i hi
  · rw [key i (by omega) hi]; exact h.low i hi
/-- What is put over it: each block is as it was, or the new one's, whole or in part. -/
theorem first_over {s t : List UInt8} {k : Dk} (hs : s.length ≤ 900) (ht : t.length ≤ 900) (h : First s k) (ks : List (Int × Int)) :
    ((putK k 0 20 3 t).crash ks).L.length = 41 ∧ ∀ i, i < 20 → Lain 3 (pieceS t i) (k.L.getD i []) (((putK k 0 20 3 t).crash ks).L.getD i []) ∧ (manyS t.length ≤ i → ((putK k 0 20 3 t).crash ks).L.getD i [] = k.L.getD i []) := by
  have hm := manyS_room s.length
  have hmt := manyS_room t.length
  obtain ⟨j, hj, e1, e2⟩ := put_some (k := k) (f := 0) (e := 3) (s := t) h.len (by omega) (by omega) ht
  have e1 : (putK k 0 20 3 t).L = k.L := e1
  have e2 : (putK k 0 20 3 t).W = k.W ++ places ((0 : Nat) : Int) ((blksS 3 t).take j) := e2
  rw [h.nil, List.nil_append] at e2
  refine ⟨by rw [crash_len, e1]; exact h.len, fun i hi => ?_⟩
  have := keeps_inv (W := places ((0 : Nat) : Int) ((blksS 3 t).take j)) (fun i b => i < 20 → Lain 3 (pieceS t i) (k.L.getD i []) b ∧ (manyS t.length ≤ i → b = k.L.getD i [])) (fun x hx b c hc hI => by
      obtain ⟨i, h1, _, h3, h4⟩ := places_of hx
      intro hlt
      rw [h3, Nat.zero_add] at hI hlt ⊢
      rw [h4]
      refine ⟨lain_over (h.low i hlt) (by omega) (by omega) (pieceS_len t h1) (hI hlt).1 hc, fun hge => by omega⟩) ks k.L (fun x hx => by
      obtain ⟨i, h1, _, h3, _⟩ := places_of hx
      rw [h.len]; omega) (fun i _ _ => ⟨.inl rfl, fun _ => rfl⟩) i (by rw [h.len]; omega) hi
  show Lain 3 _ _ ((keepsL (putK k 0 20 3 t).W (putK k 0 20 3 t).L ks).getD i []) ∧ (_ → (keepsL (putK k 0 20 3 t).W (putK k 0 20 3 t).L ks).getD i [] = _)
  rw [e1, e2]; exact this
theorem over_read {s t : List UInt8} {k : Dk} (ho : DkOk k) (hs : s.length ≤ 900) (ht : t.length ≤ 900) (h : First s k) (ks : List (Int × Int)) {e : Nat} {i : Nat} (hi : i < 20) :
    (rdB ((putK k 0 20 3 t).crash ks) 0 20).getD i [] = ((putK k 0 20 3 t).crash ks).L.getD i [] := by
  have hl := (first_over hs ht h ks).1
  rw [rdB_get hi, show (0 : Int) + (i : Int) = (i : Int) by omega, (read_view (crash_ok (put_ok ho _ _ _ _) ks) rfl (i := i) (by rw [hl]; omega)).1, view_nil rfl]
theorem over_new {s t : List UInt8} {k : Dk} (ho : DkOk k) (hs : s.length ≤ 900) (ht : t.length ≤ 900) (h : First s k) (ks : List (Int × Int)) :
    (gotE ((putK k 0 20 3 t).crash ks) 0 20 3 (t.length : Int) = 0 ∧ gotT ((putK k 0 20 3 t).crash ks) 0 20 3 (t.length : Int) = t) ∨ gotE ((putK k 0 20 3 t).crash ks) 0 20 3 (t.length : Int) = 18 := by
  have hm := manyS_room t.length
  obtain ⟨hl, hb⟩ := first_over hs ht h ks
  obtain ⟨g1, g2⟩ := got_yes (k := (putK k 0 20 3 t).crash ks) (f := 0) (b := 20) (e := 3) (z := (t.length : Int)) (by rw [hl]; decide)
  rw [g1, g2]
  refine get_only (by omega) (by omega) (by omega) (fun i hi _ hok => ?_)
  have hi20 : i < 20 := by omega
  rw [show ((20 : Int)).toNat = 20 from rfl, over_read (e := 3) ho hs ht h ks hi20] at hok ⊢
  obtain ⟨o1, o2, _⟩ := okB_iff.1 hok
  rcases lain_open (h.low i hi20) (by omega) (hb i hi20).1 o1 with ⟨_, x⟩ | ⟨_, x⟩
  · omega
  · exact x
theorem over_old {s t : List UInt8} {k : Dk} (ho : DkOk k) (hs : s.length ≤ 900) (ht : t.length ≤ 900) (h : First s k) (ks : List (Int × Int)) :
    (gotE ((putK k 0 20 3 t).crash ks) 0 20 1 (s.length : Int) = 0 ∧ gotT ((putK k 0 20 3 t).crash ks) 0 20 1 (s.length : Int) = s) ∨ gotE ((putK k 0 20 3 t).crash ks) 0 20 1 (s.length : Int) = 18 := by
  have hm := manyS_room s.length
  obtain ⟨hl, hb⟩ := first_over hs ht h ks
  obtain ⟨g1, g2⟩ := got_yes (k := (putK k 0 20 3 t).crash ks) (f := 0) (b := 20) (e := 1) (z := (s.length : Int)) (by rw [hl]; decide)
  rw [g1, g2]
  refine get_only (by omega) (by omega) (by omega) (fun i hi _ hok => ?_)
  have hi20 : i < 20 := by omega
  rw [show ((20 : Int)).toNat = 20 from rfl, over_read (e := 1) ho hs ht h ks hi20] at hok ⊢
  obtain ⟨o1, o2, _⟩ := okB_iff.1 hok
  rcases lain_open (h.low i hi20) (by omega) (hb i hi20).1 o1 with ⟨x, _⟩ | ⟨x, _⟩
  · rw [x, h.mine i hi]
    exact (blk_open (by omega) (by omega) hi (by omega)).2.2.2
  · omega
theorem new_W41 : (newD 41).W.length ≤ 100000 := Nat.zero_le _

end
end Go.Proofs.YtbblkgdejgoncaaDoor
