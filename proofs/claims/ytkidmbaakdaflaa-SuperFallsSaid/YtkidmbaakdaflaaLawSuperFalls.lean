/- The law SuperFalls: however the power goes in a Store of a super whose Seq is one more than that of the one that lies there, and whatever stays: one of the two lies there, the new one, if Store answered OK; the call returns true and leaves its arguments as they were. -/
import Derived.Test.YtkidmbaakdaflaaSuperD
import Derived.Test.YtkidmbaakdaflaaLaw
set_option linter.unusedSimpArgs false
set_option linter.unusedVariables false
namespace Go.Proofs.Ytkidmbaakdaflaa
open Go.ChangeShapes Go.WideShapes Go.ChangeAt Go.RowKit

section
theorem infLawSuperFalls_3 : Try.prog.info? 3 = some Try.t3 := by kernel_rfl
theorem infLawSuperFalls_50 : Try.prog.info? 50 = some Try.t50 := by kernel_rfl
theorem infLawSuperFalls_73 : Try.prog.info? 73 = some Try.t73 := by kernel_rfl
theorem infLawSuperFalls_75 : Try.prog.info? 75 = some Try.t75 := by kernel_rfl


def z64 : List UInt8 := List.replicate 64 0
/-- A disk of two blocks: one has a text, the other has bytes 0. -/
def two (p : Nat) (x y : List UInt8) : List (List UInt8) := if p = 0 then [x, y] else [y, x]
theorem two_len (p : Nat) (x y : List UInt8) : (two p x y).length = 2 := by unfold two; split <;> rfl
theorem two_0 {p : Nat} (x y : List UInt8) (h : p = 0 ∨ p = 1) : (two p x y).getD p [] = x ∧ (two p x y).getD (1 - p) [] = y := by
  rcases h with rfl | rfl <;> exact ⟨rfl, rfl⟩
theorem two_set {p : Nat} (x y z : List UInt8) (h : p = 0 ∨ p = 1) : (two p x y).set p z = two p z y ∧ (two p x y).set (1 - p) z = two p x z := by
  rcases h with rfl | rfl <;> exact ⟨rfl, rfl⟩
theorem wr_live {k : Dk} {p : Nat} {e : List UInt8} (hl : k.L.length = 2) (hp : p = 0 ∨ p = 1) (he : e.length = 64) (hd : spD k.fuse k.dead = false) : k.write (p : Int) e = k.spent.pushed (p : Int) e ∧ k.writeE (p : Int) e = 0 :=
  write_live (hasE_ok.2 (by rw [hl]; omega)) he hd
theorem wr_dead {k : Dk} {p : Nat} {e : List UInt8} (hl : k.L.length = 2) (hp : p = 0 ∨ p = 1) (he : e.length = 64) (hd : spD k.fuse k.dead = true) : k.write (p : Int) e = k.spent ∧ k.writeE (p : Int) e = 21 :=
  write_dead (hasE_ok.2 (by rw [hl]; omega)) he hd
theorem seq_cast (s : Sp) : (s.seq : Int) % 2 = ((s.seq % 2 : Nat) : Int) := by omega
/-- A Store by the fuse: none, or one that is far; next to go; one step further. -/
theorem store_far {L : List (List UInt8)} {s : Sp} {f : Int} (hm : MayS s) (hl : L.length = 2) (hf : f = -1 ∨ 2 ≤ f) : storeE ⟨L, [], f, false⟩ s = 0 ∧ ∃ g, storeK ⟨L, [], f, false⟩ s = ⟨L.set (s.seq % 2) (encS s), [], g, false⟩ := by
  have h1 : spD f false = false := by unfold spD; simp; omega
  have h2 : spD (spF f false) false = false := by unfold spD spF; simp; omega
  obtain ⟨e1, e2⟩ := wr_live (k := ⟨L, [], f, false⟩) (p := s.seq % 2) hl (by omega) (encS_len hm) h1
  rw [← seq_cast] at e1 e2
  obtain ⟨e3, e4⟩ := store_y hm e2
  rw [e1] at e3 e4
  have h3 : spD ((⟨L, [], f, false⟩ : Dk).spent.pushed ((s.seq : Int) % 2) (encS s)).fuse ((⟨L, [], f, false⟩ : Dk).spent.pushed ((s.seq : Int) % 2) (encS s)).dead = false := by
    show spD (spF f false) (spD f false) = false
    rw [h1]; exact h2
  obtain ⟨e5, e6⟩ := sync_live h3
  refine ⟨e4.trans e6, spF (spF f false) (spD f false), e3.trans (e5.trans ?_)⟩
  show (⟨applyW L [((s.seq : Int) % 2, encS s)], [], spF (spF f false) (spD f false), spD (spF f false) (spD f false)⟩ : Dk) = _
  rw [h1, h2]
  have : ((s.seq : Int) % 2).toNat = s.seq % 2 := by omega
  show (⟨L.set ((s.seq : Int) % 2).toNat (encS s), [], _, _⟩ : Dk) = _
  rw [this]
theorem store_0 {L : List (List UInt8)} {s : Sp} (hm : MayS s) (hl : L.length = 2) : storeE ⟨L, [], 0, false⟩ s = 21 ∧ (storeK ⟨L, [], 0, false⟩ s).L = L ∧ (storeK ⟨L, [], 0, false⟩ s).W = [] := by
  obtain ⟨e1, e2⟩ := wr_dead (k := ⟨L, [], 0, false⟩) (p := s.seq % 2) hl (by omega) (encS_len hm) rfl
  rw [← seq_cast] at e1 e2
  obtain ⟨e3, e4⟩ := store_w hm (show ¬ _ = (0 : Int) by rw [e2]; simp)
  exact ⟨e4.trans e2, by rw [e3, e1]; rfl, by rw [e3, e1]; rfl⟩
theorem store_1 {L : List (List UInt8)} {s : Sp} (hm : MayS s) (hl : L.length = 2) : storeE ⟨L, [], 1, false⟩ s = 21 ∧ (storeK ⟨L, [], 1, false⟩ s).L = L ∧ (storeK ⟨L, [], 1, false⟩ s).W = [(((s.seq % 2 : Nat) : Int), encS s)] := by
  obtain ⟨e1, e2⟩ := wr_live (k := ⟨L, [], 1, false⟩) (p := s.seq % 2) hl (by omega) (encS_len hm) rfl
  have e1' := e1
  rw [← seq_cast] at e1 e2
  obtain ⟨e3, e4⟩ := store_y hm e2
  rw [e1] at e3 e4
  obtain ⟨e5, e6⟩ := sync_dead (k := (⟨L, [], 1, false⟩ : Dk).spent.pushed ((s.seq : Int) % 2) (encS s)) rfl
  refine ⟨e4.trans e6, by rw [e3, e5]; rfl, ?_⟩
  rw [e3, e5]
  show [((s.seq : Int) % 2, encS s)] = _
  rw [seq_cast]
/-- What stays of one write, whatever stays. -/
theorem keeps_one {p : Nat} {x y e : List UInt8} (hp : p = 0 ∨ p = 1) (he : e.length = 64) (hy : y.length = 64) : ∀ (ks : List (Int × Int)) (m : Nat), m ≤ 64 → ∃ m', m' ≤ 64 ∧ keepsL [(((1 - p : Nat) : Int), e)] (two p x (e.take m ++ y.drop m)) ks = two p x (e.take m' ++ y.drop m')
  | [], m, hm => ⟨m, hm, rfl⟩
  | k :: ks, m, hm => by
    have hc := cut64_le k.2
    have h1 : ∃ m1, m1 ≤ 64 ∧ keep1 [(((1 - p : Nat) : Int), e)] (two p x (e.take m ++ y.drop m)) k = two p x (e.take m1 ++ y.drop m1) := by
      by_cases hk : k.1 < 0 ∨ (([(((1 - p : Nat) : Int), e)] : List (Int × List UInt8)).length : Int) ≤ k.1
      · exact ⟨m, hm, keep1_no hk⟩
      · have h0 : k.1 = 0 := by simp at hk; omega
        rw [keep1_yes (y := (((1 - p : Nat) : Int), e)) hk (by rw [h0]; rfl)]
        have e1 : (((1 - p : Nat) : Int)).toNat = 1 - p := by omega
        simp only
        rw [e1, (two_0 x _ hp).2, (two_set x _ _ hp).2]
        refine ⟨max m (cut64 k.2), by omega, ?_⟩
        congr 1
        rcases Nat.le_total (cut64 k.2) m with h | h
        · rw [Nat.max_eq_left h, List.drop_append_of_le_length (by rw [List.length_take]; omega), ← List.append_assoc]
          congr 1
          rw [List.drop_take]
          have : e.take m = e.take (cut64 k.2) ++ (e.drop (cut64 k.2)).take (m - cut64 k.2) := by
            rw [← List.take_add]; congr 1; omega
          exact this.symm
        · rw [Nat.max_eq_right h]
          congr 1
          rw [List.drop_append, List.length_take, Nat.min_eq_left (by omega), List.drop_of_length_le (by rw [List.length_take]; omega), List.nil_append, List.drop_drop]
          congr 1; omega
    obtain ⟨m1, hm1, e1⟩ := h1
    obtain ⟨m', hm', e2⟩ := keeps_one hp he hy ks m1 hm1 (x := x)
    refine ⟨m', hm', ?_⟩
    show keepsL _ (keep1 _ _ k) ks = _
    rw [e1]; exact e2
theorem keeps_none (L : List (List UInt8)) : ∀ ks : List (Int × Int), keepsL [] L ks = L
  | [] => rfl
  | k :: ks => by
    show keepsL [] (keep1 [] L k) ks = L
    rw [keep1_no (by simp; omega)]; exact keeps_none L ks
theorem torn_law {s t : List UInt8} {c : Nat} (hs : s.length = 64) (ht : t.length = 64) (hc : c ≤ 64) (hs8 : s.take 8 = s.drop 56) (ht8 : t.take 8 = t.drop 56) (hne : s.take 8 ≠ t.take 8) (ho : openOk (s.take c ++ t.drop c) = true) :
    s.take c ++ t.drop c = s ∨ s.take c ++ t.drop c = t := by
  unfold openOk at ho
  have ho : (s.take c ++ t.drop c).length = 64 ∧ (s.take c ++ t.drop c).take 8 = (s.take c ++ t.drop c).drop 56 ∧ num ((s.take c ++ t.drop c).take 4) ≠ 0 := by simpa using ho
  obtain ⟨_, h2, _⟩ := ho
  have hl : (s.take c).length = c := by simp; omega
  by_cases h56 : c ≤ 56
  · have hd : (s.take c ++ t.drop c).drop 56 = t.drop 56 := by
      rw [List.drop_append, hl, List.drop_eq_nil_of_le (by omega), List.nil_append, List.drop_drop]
      congr 1
      omega
    rw [hd, ← ht8] at h2
    by_cases h8 : 8 ≤ c
    · exfalso
      rw [List.take_append_of_le_length (by omega), List.take_take, Nat.min_eq_left h8] at h2
      exact hne h2
    · right
      have h3 := congrArg (List.take c) h2
      rw [List.take_take, List.take_take, Nat.min_eq_left (by omega), List.take_append_of_le_length (by omega), List.take_take, Nat.min_self] at h3
      rw [h3, List.take_append_drop]
  · left
    have h1 : (s.take c ++ t.drop c).take 8 = s.take 8 := by
      rw [List.take_append_of_le_length (by omega), List.take_take, Nat.min_eq_left (by omega)]
    rw [h1, hs8, List.drop_append, hl, show 56 - c = 0 by omega, List.drop_zero] at h2
    have h3 : s.drop 56 = (s.take c).drop 56 ++ s.drop c := by
      conv => lhs; rw [← List.take_append_drop c s]
      rw [List.drop_append, hl, show 56 - c = 0 by omega, List.drop_zero]
    rw [h3] at h2
    have h4 := List.append_cancel_left h2
    rw [← h4, List.take_append_drop]
theorem zero_open : openOk z64 = false := by decide
theorem torn_next {s : Sp} (hs : SpOk s) (hm : MayS s) {m : Nat} (h64 : m ≤ 64) (h : isS ((encS s).take m ++ z64.drop m)) : (encS s).take m ++ z64.drop m = encS s := by
  obtain ⟨a1, _, _, a4⟩ := sealL_parts (i := 0) (encS_E hm)
  have hq := hs.q1
  have hne : (encS s).take 8 ≠ z64.take 8 := fun e => by
    have h1 : num (((encS s).take 8).take 4) = num ((z64.take 8).take 4) := congrArg (fun l => num (l.take 4)) e
    rw [List.take_take, Nat.min_eq_left (by omega)] at h1
    have h2 : num ((encS s).take 4) = s.seq := by
      have : (encS s).take 4 = be 4 s.seq := a1
      rw [this, num_be 4 _ (by omega)]
    have h3 : num ((z64.take 8).take 4) = 0 := by decide
    rw [h2, h3] at h1
    have := hm.1
    omega
  rcases torn_law (encS_len hm) (by decide) h64 a4 (by decide) hne h.1 with e | e
  · exact e
  · rw [e] at h; have := h.1; rw [zero_open] at this; cases this
theorem pick_two {s t : Sp} (hs : SpOk s) (hm : MayS s) (ht : SpOk t) (hmt : MayS t) (hq : t.seq = s.seq + 1) {X : List UInt8} (hX : isS X → X = encS t) :
    pickS ((two (s.seq % 2) (encS s) X).getD 0 []) ((two (s.seq % 2) (encS s) X).getD 1 []) = if isS X then t else s := by
  obtain ⟨i1, d1⟩ := dec_enc hs hm
  have hs1 := hm.1
  have hp : s.seq % 2 = 0 ∨ s.seq % 2 = 1 := by omega
  have first : ∀ i, s.seq % 2 = i → ∀ o : Sp, o.seq < s.seq → pickStep o (encS s) i = s := fun i hi o ho => by
    unfold pickStep; rw [d1, if_pos ⟨i1, hi, ho⟩]
  rcases hp with hp | hp
  · rw [hp]
    show pickStep (pickStep zeroSp (encS s) 0) X 1 = _
    rw [first 0 hp zeroSp (by show 0 < _; omega)]
    by_cases h : isS X
    · rw [if_pos h]
      obtain ⟨i2, d2⟩ := dec_enc ht hmt
      rw [hX h]
      unfold pickStep; rw [d2, if_pos ⟨i2, by omega, by omega⟩]
    · rw [if_neg h]; exact if_neg fun x => h x.1
  · rw [hp]
    show pickStep (pickStep zeroSp X 0) (encS s) 1 = _
    by_cases h : isS X
    · rw [if_pos h]
      obtain ⟨i2, d2⟩ := dec_enc ht hmt
      rw [hX h]
      have e : pickStep zeroSp (encS t) 0 = t := by unfold pickStep; rw [d2, if_pos ⟨i2, by omega, by show 0 < _; omega⟩]
      rw [e]
      unfold pickStep; rw [d1, if_neg (fun x => by have := x.2.2; omega)]
    · rw [if_neg h]
      have e : pickStep zeroSp X 0 = zeroSp := if_neg fun x => h x.1
      rw [e]
      exact first 1 hp zeroSp (by show 0 < _; omega)
theorem rd_plain {L : List (List UInt8)} (hl : L.length = 2) (i : Nat) (hi : i < 2) : (⟨L, [], -1, false⟩ : Dk).readS (i : Int) = L.getD i [] ∧ (⟨L, [], -1, false⟩ : Dk).readE (i : Int) = 0 := by
  obtain ⟨e1, e2⟩ := read_yes (k := ⟨L, [], -1, false⟩) (a := (i : Int)) (hasE_ok.2 (by show _ ∧ _ < ((L.length : Nat) : Int); rw [hl]; omega)) Bool.false_ne_true
  refine ⟨e2.trans ?_, e1⟩
  show L.getD ((i : Int)).toNat [] = _
  rw [Int.toNat_natCast]
theorem load_two {s t : Sp} (hs : SpOk s) (hm : MayS s) (ht : SpOk t) (hmt : MayS t) (hq : t.seq = s.seq + 1) {X : List UInt8} (hX : isS X → X = encS t) :
    loadE ⟨two (s.seq % 2) (encS s) X, [], -1, false⟩ = 0 ∧ loadS ⟨two (s.seq % 2) (encS s) X, [], -1, false⟩ = if isS X then t else s := by
  have r0 := rd_plain (two_len (s.seq % 2) (encS s) X) 0 (by omega)
  have r1 := rd_plain (two_len (s.seq % 2) (encS s) X) 1 (by omega)
  have hp := pick_two hs hm ht hmt hq hX
  have q0 : 0 < (if isS X then t else s).seq := by
    have := hm.1
    split <;> omega
  have r00 : (⟨two (s.seq % 2) (encS s) X, [], -1, false⟩ : Dk).readS 0 = _ := r0.1
  have r01 : (⟨two (s.seq % 2) (encS s) X, [], -1, false⟩ : Dk).readE 0 = 0 := r0.2
  have r10 : (⟨two (s.seq % 2) (encS s) X, [], -1, false⟩ : Dk).readS 1 = _ := r1.1
  have r11 : (⟨two (s.seq % 2) (encS s) X, [], -1, false⟩ : Dk).readE 1 = 0 := r1.2
  unfold loadE loadS
  rw [r00, r01, r10, r11, hp]
  simp [q0]
def kB (s : Sp) (z : Int) : Dk := ⟨two (s.seq % 2) (encS s) z64, [], max z (-1), false⟩
def kC (s t : Sp) (z : Int) (ks : List (Int × Int)) : Dk := (storeK (kB s z) t).crash ks
theorem first_store {s : Sp} (hm : MayS s) : storeE (newD 2) s = 0 ∧ ∀ z, (storeK (newD 2) s).setFuse z = kB s z := by
  have e0 : newD 2 = ⟨two (s.seq % 2) z64 z64, [], -1, false⟩ := by
    have : two (s.seq % 2) z64 z64 = [z64, z64] := by unfold two; split <;> rfl
    rw [this]; rfl
  obtain ⟨e1, g, e2⟩ := store_far (L := two (s.seq % 2) z64 z64) hm (two_len _ _ _) (.inl rfl)
  rw [e0]
  refine ⟨e1, fun z => ?_⟩
  rw [e2, (two_set z64 z64 (encS s) (show s.seq % 2 = 0 ∨ s.seq % 2 = 1 by omega)).1]
  rfl
theorem kB_W (s : Sp) (z : Int) : (kB s z).W.length = 0 := rfl
theorem kC_load {s t : Sp} {z : Int} {ks : List (Int × Int)} (h : loadE (kC s t z ks) = 0) : loadE ((storeK (kB s z) t).crash ks) = 0 := h
theorem kC_loadS {s t : Sp} {z : Int} {ks : List (Int × Int)} {p : Prop} (h : loadS (kC s t z ks) = t ∨ (loadS (kC s t z ks) = s ∧ p)) : loadS ((storeK (kB s z) t).crash ks) = t ∨ (loadS ((storeK (kB s z) t).crash ks) = s ∧ p) := h
theorem fall_all {s t : Sp} (hs : SpOk s) (hm : MayS s) (ht : SpOk t) (hmt : MayS t) (hq : t.seq = s.seq + 1) (z : Int) (ks : List (Int × Int)) :
    loadE (kC s t z ks) = 0 ∧ (loadS (kC s t z ks) = t ∨ (loadS (kC s t z ks) = s ∧ 0 ≤ z ∧ z < 2)) ∧ ((0 ≤ z ∧ z < 2) → storeE (kB s z) t = 21) ∧ (¬ (0 ≤ z ∧ z < 2) → storeE (kB s z) t = 0) := by
  have hl := two_len (s.seq % 2) (encS s) z64
  have hp : s.seq % 2 = 0 ∨ s.seq % 2 = 1 := by omega
  have ht2 : t.seq % 2 = 1 - s.seq % 2 := by omega
  have hz0 : ¬ isS z64 := fun h => by have := h.1; rw [zero_open] at this; cases this
  by_cases h0 : z = 0
  · subst h0
    obtain ⟨e1, e2, e3⟩ := store_0 (L := two (s.seq % 2) (encS s) z64) hmt hl
    have ec : kC s t 0 ks = ⟨two (s.seq % 2) (encS s) z64, [], -1, false⟩ := by
      show (⟨keepsL (storeK ⟨_, [], 0, false⟩ t).W (storeK ⟨_, [], 0, false⟩ t).L ks, [], -1, false⟩ : Dk) = _
      rw [e2, e3, keeps_none]
    obtain ⟨l1, l2⟩ := load_two hs hm ht hmt hq (X := z64) (fun h => absurd h hz0)
    rw [ec, l1, l2, if_neg hz0]
    exact ⟨rfl, .inr ⟨rfl, by omega, by omega⟩, fun _ => e1, fun h => absurd (by omega) h⟩
  · by_cases h1 : z = 1
    · subst h1
      obtain ⟨e1, e2, e3⟩ := store_1 (L := two (s.seq % 2) (encS s) z64) hmt hl
      obtain ⟨m', hm', e4⟩ := keeps_one (x := encS s) (y := z64) hp (encS_len hmt) (by decide) ks 0 (by omega)
      have ec : kC s t 1 ks = ⟨two (s.seq % 2) (encS s) ((encS t).take m' ++ z64.drop m'), [], -1, false⟩ := by
        show (⟨keepsL (storeK ⟨_, [], 1, false⟩ t).W (storeK ⟨_, [], 1, false⟩ t).L ks, [], -1, false⟩ : Dk) = _
        rw [e2, e3, ht2, ← e4]; rfl
      obtain ⟨l1, l2⟩ := load_two hs hm ht hmt hq (X := (encS t).take m' ++ z64.drop m') (fun h => torn_next ht hmt hm' h)
      rw [ec, l1, l2]
      refine ⟨rfl, ?_, fun _ => e1, fun h => absurd (by omega) h⟩
      by_cases hx : isS ((encS t).take m' ++ z64.drop m')
      · rw [if_pos hx]; exact .inl rfl
      · rw [if_neg hx]; exact .inr ⟨rfl, by omega, by omega⟩
    · have hf : max z (-1) = -1 ∨ 2 ≤ max z (-1) := by
        rcases Int.lt_or_le z 0 with h | h
        · left; exact Int.max_eq_right (by omega)
        · right; rw [Int.max_eq_left (by omega)]; omega
      obtain ⟨e1, g, e2⟩ := store_far (L := two (s.seq % 2) (encS s) z64) hmt hl hf
      rw [ht2, (two_set (encS s) z64 (encS t) hp).2] at e2
      have ec : kC s t z ks = ⟨two (s.seq % 2) (encS s) (encS t), [], -1, false⟩ := by
        unfold kC kB; rw [e2]
        show (⟨keepsL [] _ ks, [], -1, false⟩ : Dk) = _
        rw [keeps_none]
      obtain ⟨l1, l2⟩ := load_two hs hm ht hmt hq (X := encS t) (fun _ => rfl)
      rw [ec, l1, l2, if_pos (dec_enc ht hmt).1]
      exact ⟨rfl, .inl rfl, fun h => by omega, fun _ => e1⟩


def nx (s t : Sp) : Sp := ⟨s.seq + 1, t.base, t.epoch, t.slot, t.size⟩
theorem nx_ok {s t : Sp} (ht : SpOk t) (h : s.seq + 1 < 4294967296) : SpOk (nx s t) := ⟨h, ht.b1, ht.e1, ht.s0, ht.s1, ht.z0, ht.z1⟩
attribute [local irreducible] kC kB storeK loadS loadE storeE encS

set_option maxRecDepth 100000 in
set_option maxHeartbeats 4000000 in
theorem superFalls_all (s t : Sp) (hs : SpOk s) (ht : SpOk t) (z : Int) (hz1 : z ≤ 9223372036854775807) (o1 : Option Nat) (p1 q1 : Nat) (c1 : Array Value) (T1 : TypeId) (f1 : Nat × Nat) (ks : List (Int × Int)) (hk : Sees 2 o1 p1 q1 c1 (ks.flatMap kCells) ks.length) :
    Ct Try.prog 12 [.agg (spCells s).toArray, .agg (spCells t).toArray, .agg #[.int .i64 z, sv o1 p1 ks.length q1]] [(o1, .cells c1 T1 f1)] [] fun v post => v = .bool true ∧ post = [] := by
 have hsq := hs.q1
 have hk1 := hk.le
 have hk2 := hk.max
 refine ct_of Try.func12 rfl rfl (fun w0 => ?_)
 show G _ _ [(0, _), (1, _), (2, _)] _ _
 refine G_seq ?_
 refine G_region (l := [0, 1, 2, 3]) rfl ?_
 refine G_new rfl rfl rfl rfl (N_boxA rfl rfl) (fun b3 => ?_)
 refine G_new rfl rfl rfl rfl (N_boxA rfl rfl) (fun b4 => ?_)
 refine G_new rfl rfl rfl rfl (N_boxA rfl rfl) (fun b5 => ?_)
 refine G_val rfl rfl rfl rfl (V_assign rfl rfl) ?_
 refine G_done ?_
 refine G_seq ?_
 refine G_seq ?_
 refine G_region (l := [0, 1, 2, 3, 4, 5, 6, 7, 8, 9, 10, 11, 12, 13]) rfl ?_
 first
   | refine G_val rfl rfl rfl rfl (V_loadW (s := 5) rfl rfl (mem_at 3 rfl) Try.underlying75 rfl infLawSuperFalls_75 rfl (by first | rfl | (simp [bcells_length, spCells, pCells, spCells, pCells, wCells, kCells, wCells, kCells, wCells, kCells, spCells, pCells, wCells, kCells, spCells, pCells, wCells, kCells, spCells, pCells, wCells, kCells, spCells, pCells, wCells, kCells]; done) | (simp [bcells_length, spCells, pCells, spCells, pCells, wCells, kCells, wCells, kCells, wCells, kCells, spCells, pCells, wCells, kCells, spCells, pCells, wCells, kCells, spCells, pCells, wCells, kCells, spCells, pCells, wCells, kCells]; omega) | (simp [bcells_length, *, spCells, pCells, spCells, pCells, wCells, kCells, wCells, kCells, wCells, kCells, spCells, pCells, wCells, kCells, spCells, pCells, wCells, kCells, spCells, pCells, wCells, kCells, spCells, pCells, wCells, kCells]; done))) ?_
   | refine G_val rfl rfl rfl rfl (V_loadA (s := 5) rfl rfl (mem_at 3 rfl) Try.underlying75 rfl infLawSuperFalls_75 rfl rfl (by first | rfl | (simp [bcells_length, spCells, pCells, spCells, pCells, wCells, kCells, wCells, kCells, wCells, kCells, spCells, pCells, wCells, kCells, spCells, pCells, wCells, kCells, spCells, pCells, wCells, kCells, spCells, pCells, wCells, kCells]; done) | (simp [bcells_length, spCells, pCells, spCells, pCells, wCells, kCells, wCells, kCells, wCells, kCells, spCells, pCells, wCells, kCells, spCells, pCells, wCells, kCells, spCells, pCells, wCells, kCells, spCells, pCells, wCells, kCells]; omega) | (simp [bcells_length, *, spCells, pCells, spCells, pCells, wCells, kCells, wCells, kCells, wCells, kCells, spCells, pCells, wCells, kCells, spCells, pCells, wCells, kCells, spCells, pCells, wCells, kCells, spCells, pCells, wCells, kCells]; done))) ?_
 refine G_call (L2 := [_, _, _]) rfl rfl rfl rfl rfl rfl Try.call54 (rsup_may s hs) [] [] rfl rfl ?_
 rintro v post ⟨rfl, rfl⟩
 show G _ _ _ [_, _, _] _
 refine G_val rfl rfl rfl rfl (V_not rfl rfl) ?_
 refine G_val rfl rfl rfl rfl (V_move rfl rfl) ?_
 refine G_split 17 rfl (fun hc1 => ?_) (fun hc1 => ?_)
 · skip
   refine G_off rfl rfl rfl rfl ?_
   refine G_off rfl rfl rfl rfl ?_
   refine G_off rfl rfl rfl rfl ?_
   refine G_val rfl rfl rfl rfl (V_pickT rfl rfl rfl) ?_
   refine G_val rfl rfl rfl rfl (V_move rfl rfl) ?_
   refine G_off rfl rfl rfl rfl ?_
   refine G_off rfl rfl rfl rfl ?_
   refine G_off rfl rfl rfl rfl ?_
   refine G_off rfl rfl rfl rfl ?_
   refine G_val rfl rfl rfl rfl (V_pickT rfl rfl rfl) ?_
   refine G_done ?_
   refine G_then rfl ?_
   refine G_seq ?_
   refine G_region (l := [0, 1]) rfl ?_
   refine G_call (L2 := [_, _, _]) rfl rfl rfl rfl rfl rfl Try.call47 (sl_live) [] [] rfl rfl ?_
   rintro v post ⟨rfl, rfl⟩
   show G _ _ _ [_, _, _] _
   refine G_val rfl rfl rfl rfl (V_assign rfl rfl) ?_
   refine G_done ?_
   refine G_ret (post := []) Try.func12 rfl (RVs_cons (RV_tmp rfl) RVs_nil) [] rfl ?_
   dsimp only [packed]
   exact ⟨rfl, rfl⟩
 refine G_val rfl rfl rfl rfl (V_fieldAddr (fo := 0) rfl Try.underlying75 rfl infLawSuperFalls_73 rfl rfl rfl) ?_
 refine G_val rfl rfl rfl rfl (V_load1 rfl rfl (mem_at 3 rfl) rfl Try.underlying73 rfl) ?_
 refine G_val rfl rfl rfl rfl (V_eql rfl rfl rfl) ?_
 refine G_val rfl rfl rfl rfl (V_pickF rfl rfl rfl) ?_
 refine G_val rfl rfl rfl rfl (V_move rfl rfl) ?_
 refine G_splitD 22 rfl (fun hc2 => ?_) (fun hc2 => ?_)
 · skip
   refine G_off rfl rfl rfl rfl ?_
   refine G_off rfl rfl rfl rfl ?_
   refine G_off rfl rfl rfl rfl ?_
   refine G_off rfl rfl rfl rfl ?_
   refine G_val rfl rfl rfl rfl (V_pickT rfl rfl rfl) ?_
   refine G_done ?_
   refine G_then rfl ?_
   refine G_seq ?_
   refine G_region (l := [0, 1]) rfl ?_
   refine G_call (L2 := [_, _, _]) rfl rfl rfl rfl rfl rfl Try.call47 (sl_live) [] [] rfl rfl ?_
   rintro v post ⟨rfl, rfl⟩
   show G _ _ _ [_, _, _] _
   refine G_val rfl rfl rfl rfl (V_assign rfl rfl) ?_
   refine G_done ?_
   refine G_ret (post := []) Try.func12 rfl (RVs_cons (RV_tmp rfl) RVs_nil) [] rfl ?_
   dsimp only [packed]
   exact ⟨rfl, rfl⟩
 refine G_val rfl rfl rfl rfl (V_fieldAddr (fo := 1) rfl Try.underlying91 rfl infLawSuperFalls_50 rfl rfl rfl) ?_
 refine G_val rfl rfl rfl rfl (V_load1 rfl rfl (mem_at 1 rfl) rfl Try.underlying50 rfl) ?_
 refine G_val rfl rfl rfl rfl (V_len rfl rfl Try.underlying50 rfl) ?_
 refine G_val rfl rfl rfl rfl (V_gtr rfl rfl rfl) ?_
 refine G_val rfl rfl rfl rfl (V_pickF rfl rfl rfl) ?_
 refine G_done ?_
 refine G_ifD rfl (fun hc3 => ?_) (fun hc3 => ?_)
 · skip
   refine G_seq ?_
   refine G_region (l := [0, 1]) rfl ?_
   refine G_call (L2 := [_, _, _]) rfl rfl rfl rfl rfl rfl Try.call47 (sl_live) [] [] rfl rfl ?_
   rintro v post ⟨rfl, rfl⟩
   show G _ _ _ [_, _, _] _
   refine G_val rfl rfl rfl rfl (V_assign rfl rfl) ?_
   refine G_done ?_
   refine G_ret (post := []) Try.func12 rfl (RVs_cons (RV_tmp rfl) RVs_nil) [] rfl ?_
   dsimp only [packed]
   exact ⟨rfl, rfl⟩
 refine G_skip ?_
 refine G_seq ?_
 refine G_region (l := [0, 1, 2, 3, 4]) rfl ?_
 refine G_val rfl rfl rfl rfl (V_fieldAddr (fo := 0) rfl Try.underlying75 rfl infLawSuperFalls_73 rfl rfl rfl) ?_
 refine G_val rfl rfl rfl rfl (V_load1 rfl rfl (mem_at 3 rfl) rfl Try.underlying73 rfl) ?_
 first
   | refine G_val rfl rfl rfl rfl ((V_add rfl rfl rfl).int (wrap_u32 (by omega))) ?_
   | refine G_val rfl rfl rfl rfl (V_add rfl rfl rfl) ?_
 refine G_val rfl rfl rfl rfl (V_fieldAddr (fo := 0) rfl Try.underlying75 rfl infLawSuperFalls_73 rfl rfl rfl) ?_
 refine G_put (l1 := [_]) (L' := [_, _, _]) rfl rfl rfl rfl (P_store1 rfl rfl rfl (mem_at 1 rfl) (by first | exact of_decide_eq_true rfl | omega | (simp [spCells, pCells, spCells, pCells, wCells, kCells, wCells, kCells, wCells, kCells, spCells, pCells, wCells, kCells, spCells, pCells, wCells, kCells, spCells, pCells, wCells, kCells, spCells, pCells, wCells, kCells]; done) | (simp [spCells, pCells, spCells, pCells, wCells, kCells, wCells, kCells, wCells, kCells, spCells, pCells, wCells, kCells, spCells, pCells, wCells, kCells, spCells, pCells, wCells, kCells, spCells, pCells, wCells, kCells]; omega) | (simp [spCells, pCells, spCells, pCells, wCells, kCells, wCells, kCells, wCells, kCells, spCells, pCells, wCells, kCells, spCells, pCells, wCells, kCells, spCells, pCells, wCells, kCells, spCells, pCells, wCells, kCells] at *; omega)) infLawSuperFalls_73 rfl rfl) rfl ?_
 refine G_done ?_
 refine G_seq ?_
 refine G_seq ?_
 have hnk := nx_ok (s := s) ht (by omega)
 show G _ _ _ [_, (some b4, .cells (spCells (nx s t)).toArray 75 (0, 0)), _] _
 refine G_region (l := [0, 1, 2]) rfl ?_
 first
   | refine G_val rfl rfl rfl rfl (V_loadW (s := 5) rfl rfl (mem_at 2 rfl) Try.underlying75 rfl infLawSuperFalls_75 rfl (by first | rfl | (simp [bcells_length, spCells, pCells, spCells, pCells, wCells, kCells, wCells, kCells, wCells, kCells, spCells, pCells, wCells, kCells, spCells, pCells, wCells, kCells, spCells, pCells, wCells, kCells, spCells, pCells, wCells, kCells]; done) | (simp [bcells_length, spCells, pCells, spCells, pCells, wCells, kCells, wCells, kCells, wCells, kCells, spCells, pCells, wCells, kCells, spCells, pCells, wCells, kCells, spCells, pCells, wCells, kCells, spCells, pCells, wCells, kCells]; omega) | (simp [bcells_length, *, spCells, pCells, spCells, pCells, wCells, kCells, wCells, kCells, wCells, kCells, spCells, pCells, wCells, kCells, spCells, pCells, wCells, kCells, spCells, pCells, wCells, kCells, spCells, pCells, wCells, kCells]; done))) ?_
   | refine G_val rfl rfl rfl rfl (V_loadA (s := 5) rfl rfl (mem_at 2 rfl) Try.underlying75 rfl infLawSuperFalls_75 rfl rfl (by first | rfl | (simp [bcells_length, spCells, pCells, spCells, pCells, wCells, kCells, wCells, kCells, wCells, kCells, spCells, pCells, wCells, kCells, spCells, pCells, wCells, kCells, spCells, pCells, wCells, kCells, spCells, pCells, wCells, kCells]; done) | (simp [bcells_length, spCells, pCells, spCells, pCells, wCells, kCells, wCells, kCells, wCells, kCells, spCells, pCells, wCells, kCells, spCells, pCells, wCells, kCells, spCells, pCells, wCells, kCells, spCells, pCells, wCells, kCells]; omega) | (simp [bcells_length, *, spCells, pCells, spCells, pCells, wCells, kCells, wCells, kCells, wCells, kCells, spCells, pCells, wCells, kCells, spCells, pCells, wCells, kCells, spCells, pCells, wCells, kCells, spCells, pCells, wCells, kCells]; done))) ?_
 refine G_call (L2 := [_, _, _]) rfl rfl rfl rfl rfl rfl Try.call54 (rsup_may (nx s t) (nx_ok ht (by omega))) [] [] rfl rfl ?_
 rintro v post ⟨rfl, rfl⟩
 show G _ _ _ [_, _, _] _
 refine G_val rfl rfl rfl rfl (V_not rfl rfl) ?_
 refine G_done ?_
 refine G_if rfl (fun hc4 => ?_) (fun hc4 => ?_)
 · skip
   refine G_seq ?_
   refine G_region (l := [0, 1]) rfl ?_
   refine G_call (L2 := [_, _, _]) rfl rfl rfl rfl rfl rfl Try.call47 (sl_live) [] [] rfl rfl ?_
   rintro v post ⟨rfl, rfl⟩
   show G _ _ _ [_, _, _] _
   refine G_val rfl rfl rfl rfl (V_assign rfl rfl) ?_
   refine G_done ?_
   refine G_ret (post := []) Try.func12 rfl (RVs_cons (RV_tmp rfl) RVs_nil) [] rfl ?_
   dsimp only [packed]
   exact ⟨rfl, rfl⟩
 refine G_skip ?_
 refine G_seq ?_
 have hms : MayS s := of_decide_eq_true (by simpa using hc1)
 have hmn : MayS (nx s t) := of_decide_eq_true (by first | assumption | (simpa using hc4) | (simpa using hc5) | (simpa using hc3) | (simpa using hc2))
 obtain ⟨hL, hfl, hE⟩ := fall_all hs hms hnk hmn rfl z ks
 have hL0 := kC_load hL
 replace hfl := kC_loadS hfl
 refine G_region (l := [0, 1, 2, 3, 4, 5]) rfl ?_
 refine G_call (L2 := [_, _, _]) rfl rfl rfl rfl rfl rfl Try.call32 (dk_new 2 (by omega) (by omega)) [] [] rfl rfl ?_
 rintro v post ⟨d1, lb1, cap1, cs1, rfl, h1, rfl⟩
 show G _ _ _ [_, _, _, _, _, _] _
 refine G_val rfl rfl rfl rfl (V_move rfl rfl) ?_
 refine G_val rfl rfl rfl rfl (V_extract rfl rfl rfl) ?_
 refine G_val rfl rfl rfl rfl (V_extract rfl rfl rfl) ?_
 refine G_val rfl rfl rfl rfl (V_assign rfl rfl) ?_
 refine G_val rfl rfl rfl rfl (V_assign rfl rfl) ?_
 refine G_done ?_
 refine G_seq ?_
 refine G_region (l := [0, 1, 2, 3]) rfl ?_
 refine G_val rfl rfl rfl rfl (V_move rfl rfl) ?_
 first
   | refine G_val rfl rfl rfl rfl (V_loadW (s := 5) rfl rfl (mem_at 6 rfl) Try.underlying75 rfl infLawSuperFalls_75 rfl (by first | rfl | (simp [bcells_length, spCells, pCells, spCells, pCells, wCells, kCells, wCells, kCells, wCells, kCells, spCells, pCells, wCells, kCells, spCells, pCells, wCells, kCells, spCells, pCells, wCells, kCells, spCells, pCells, wCells, kCells]; done) | (simp [bcells_length, spCells, pCells, spCells, pCells, wCells, kCells, wCells, kCells, wCells, kCells, spCells, pCells, wCells, kCells, spCells, pCells, wCells, kCells, spCells, pCells, wCells, kCells, spCells, pCells, wCells, kCells]; omega) | (simp [bcells_length, *, spCells, pCells, spCells, pCells, wCells, kCells, wCells, kCells, wCells, kCells, spCells, pCells, wCells, kCells, spCells, pCells, wCells, kCells, spCells, pCells, wCells, kCells, spCells, pCells, wCells, kCells]; done))) ?_
   | refine G_val rfl rfl rfl rfl (V_loadA (s := 5) rfl rfl (mem_at 6 rfl) Try.underlying75 rfl infLawSuperFalls_75 rfl rfl (by first | rfl | (simp [bcells_length, spCells, pCells, spCells, pCells, wCells, kCells, wCells, kCells, wCells, kCells, spCells, pCells, wCells, kCells, spCells, pCells, wCells, kCells, spCells, pCells, wCells, kCells, spCells, pCells, wCells, kCells]; done) | (simp [bcells_length, spCells, pCells, spCells, pCells, wCells, kCells, wCells, kCells, wCells, kCells, spCells, pCells, wCells, kCells, spCells, pCells, wCells, kCells, spCells, pCells, wCells, kCells, spCells, pCells, wCells, kCells]; omega) | (simp [bcells_length, *, spCells, pCells, spCells, pCells, wCells, kCells, wCells, kCells, wCells, kCells, spCells, pCells, wCells, kCells, spCells, pCells, wCells, kCells, spCells, pCells, wCells, kCells, spCells, pCells, wCells, kCells]; done))) ?_
 refine G_call (L2 := [_, _, _]) rfl rfl rfl rfl rfl rfl Try.call59 ((sup_store d1 2 lb1 cap1 cs1 slNil (newD 2) h1 s hs (by decide)).weaken (fun v post h => by rw [(first_store hms).1] at h; exact h)) [0, 0, 0] [] rfl rfl ?_
 rintro v post ⟨rfl, cs1, uw1, h1, rfl⟩
 show G _ _ _ [_, _, _, _, _, _] _
 refine G_val rfl rfl rfl rfl (V_assign rfl rfl) ?_
 refine G_done ?_
 refine G_seq ?_
 refine G_region (l := [0, 1, 2, 3]) rfl ?_
 refine G_val rfl rfl rfl rfl (V_move rfl rfl) ?_
 refine G_val rfl rfl rfl rfl (V_fieldAddr (fo := 0) rfl Try.underlying91 rfl infLawSuperFalls_3 rfl rfl rfl) ?_
 refine G_val rfl rfl rfl rfl (V_load1 rfl rfl (mem_at 4 rfl) rfl Try.underlying3 rfl) ?_
 refine G_call (L2 := [_, _, _, _, _]) rfl rfl rfl rfl rfl rfl Try.call42 (dk_fuse d1 2 lb1 cap1 cs1 uw1 (storeK (newD 2) s) h1 z) [0] [] rfl rfl ?_
 rintro v post ⟨rfl, rfl⟩
 show G _ _ _ [_, _, _, _, _, _] _
 replace h1 := setFuse_at h1 hz1
 rw [(first_store hms).2 z] at h1 ⊢
 refine G_done ?_
 refine G_seq ?_
 by_cases hzz : 0 ≤ z ∧ z < 2
 · skip
   refine G_region (l := [0, 1, 2, 3]) rfl ?_
   refine G_val rfl rfl rfl rfl (V_move rfl rfl) ?_
   first
     | refine G_val rfl rfl rfl rfl (V_loadW (s := 5) rfl rfl (mem_at 5 rfl) Try.underlying75 rfl infLawSuperFalls_75 rfl (by first | rfl | (simp [bcells_length, spCells, pCells, spCells, pCells, wCells, kCells, wCells, kCells, wCells, kCells, spCells, pCells, wCells, kCells, spCells, pCells, wCells, kCells, spCells, pCells, wCells, kCells, spCells, pCells, wCells, kCells]; done) | (simp [bcells_length, spCells, pCells, spCells, pCells, wCells, kCells, wCells, kCells, wCells, kCells, spCells, pCells, wCells, kCells, spCells, pCells, wCells, kCells, spCells, pCells, wCells, kCells, spCells, pCells, wCells, kCells]; omega) | (simp [bcells_length, *, spCells, pCells, spCells, pCells, wCells, kCells, wCells, kCells, wCells, kCells, spCells, pCells, wCells, kCells, spCells, pCells, wCells, kCells, spCells, pCells, wCells, kCells, spCells, pCells, wCells, kCells]; done))) ?_
     | refine G_val rfl rfl rfl rfl (V_loadA (s := 5) rfl rfl (mem_at 5 rfl) Try.underlying75 rfl infLawSuperFalls_75 rfl rfl (by first | rfl | (simp [bcells_length, spCells, pCells, spCells, pCells, wCells, kCells, wCells, kCells, wCells, kCells, spCells, pCells, wCells, kCells, spCells, pCells, wCells, kCells, spCells, pCells, wCells, kCells, spCells, pCells, wCells, kCells]; done) | (simp [bcells_length, spCells, pCells, spCells, pCells, wCells, kCells, wCells, kCells, wCells, kCells, spCells, pCells, wCells, kCells, spCells, pCells, wCells, kCells, spCells, pCells, wCells, kCells, spCells, pCells, wCells, kCells]; omega) | (simp [bcells_length, *, spCells, pCells, spCells, pCells, wCells, kCells, wCells, kCells, wCells, kCells, spCells, pCells, wCells, kCells, spCells, pCells, wCells, kCells, spCells, pCells, wCells, kCells, spCells, pCells, wCells, kCells]; done))) ?_
   refine G_call (L2 := [_, _, _]) rfl rfl rfl rfl rfl rfl Try.call59 ((sup_store d1 2 lb1 cap1 cs1 uw1 (kB s z) h1 (nx s t) hnk (by rw [kB_W]; simp)).weaken (fun v post h => by rw [(hE.1 hzz)] at h; exact h)) [0, 0, 0] [] rfl rfl ?_
   rintro v post ⟨rfl, cs1, uw1, h1, rfl⟩
   show G _ _ _ [_, _, _, _, _, _] _
   refine G_val rfl rfl rfl rfl (V_assign rfl rfl) ?_
   refine G_done ?_
   refine G_seq ?_
   refine G_seq ?_
   refine G_region (l := [0, 1, 2, 3, 4, 5, 6, 7, 8, 9, 10, 11, 12, 13, 14, 15, 16, 17, 18, 19, 20, 21, 22, 23, 24, 25, 26, 27]) rfl ?_
   refine G_val rfl rfl rfl rfl (V_fieldAddr (fo := 0) rfl Try.underlying91 rfl infLawSuperFalls_3 rfl rfl rfl) ?_
   refine G_val rfl rfl rfl rfl (V_load1 rfl rfl (mem_at 4 rfl) rfl Try.underlying3 rfl) ?_
   refine G_val rfl rfl rfl rfl (V_geq rfl rfl rfl) ?_
   refine G_val rfl rfl rfl rfl (V_move rfl rfl) ?_
   refine G_splitD 54 rfl (fun hc5 => ?_) (fun hc5 => ?_)
   rotate_left
   · (first | (exact absurd rfl hc5) | (exact absurd hc5 (by decide)) | (exact absurd (by decide) hc5) | (simp at hc5; done) | (exfalso; omega))
   refine G_val rfl rfl rfl rfl (V_fieldAddr (fo := 0) rfl Try.underlying91 rfl infLawSuperFalls_3 rfl rfl rfl) ?_
   refine G_val rfl rfl rfl rfl (V_load1 rfl rfl (mem_at 4 rfl) rfl Try.underlying3 rfl) ?_
   refine G_val rfl rfl rfl rfl (V_lss rfl rfl rfl) ?_
   refine G_val rfl rfl rfl rfl (V_pickT rfl rfl rfl) ?_
   refine G_val rfl rfl rfl rfl (V_move rfl rfl) ?_
   refine G_splitD 59 rfl (fun hc6 => ?_) (fun hc6 => ?_)
   rotate_left
   · (first | (exact absurd rfl hc6) | (exact absurd hc6 (by decide)) | (exact absurd (by decide) hc6) | (simp at hc6; done) | (exfalso; omega))
   refine G_val rfl rfl rfl rfl (V_move rfl rfl) ?_
   refine G_call (L2 := [_, _, _, _, _, _]) rfl rfl rfl rfl rfl rfl Try.call52 (sl_num _) [] [] rfl rfl ?_
   rintro v post ⟨rfl, rfl⟩
   show G _ _ _ [_, _, _, _, _, _] _
   refine G_val rfl rfl rfl rfl (V_neq rfl rfl rfl) ?_
   refine G_val rfl rfl rfl rfl (V_pickT rfl rfl rfl) ?_
   refine G_val rfl rfl rfl rfl (V_move rfl rfl) ?_
   refine G_splitD 64 rfl (fun hc7 => ?_) (fun hc7 => ?_)
   · (first | (exact absurd rfl hc7) | (exact absurd hc7 (by decide)) | (exact absurd (by decide) hc7) | (simp at hc7; done) | (exfalso; omega))
   refine G_val rfl rfl rfl rfl (V_fieldAddr (fo := 0) rfl Try.underlying91 rfl infLawSuperFalls_3 rfl rfl rfl) ?_
   refine G_val rfl rfl rfl rfl (V_load1 rfl rfl (mem_at 4 rfl) rfl Try.underlying3 rfl) ?_
   refine G_val rfl rfl rfl rfl (V_lss rfl rfl rfl) ?_
   refine G_val rfl rfl rfl rfl (V_move rfl rfl) ?_
   refine G_splitD 68 rfl (fun hc8 => ?_) (fun hc8 => ?_)
   · (first | (exact absurd rfl hc8) | (exact absurd hc8 (by decide)) | (exact absurd (by decide) hc8) | (simp at hc8; done) | (exfalso; omega))
   refine G_val rfl rfl rfl rfl (V_fieldAddr (fo := 0) rfl Try.underlying91 rfl infLawSuperFalls_3 rfl rfl rfl) ?_
   refine G_val rfl rfl rfl rfl (V_load1 rfl rfl (mem_at 4 rfl) rfl Try.underlying3 rfl) ?_
   refine G_val rfl rfl rfl rfl (V_geq rfl rfl rfl) ?_
   refine G_val rfl rfl rfl rfl (V_pickF rfl rfl rfl) ?_
   refine G_val rfl rfl rfl rfl (V_move rfl rfl) ?_
   refine G_splitD 73 rfl (fun hc9 => ?_) (fun hc9 => ?_)
   · (first | (exact absurd rfl hc9) | (exact absurd hc9 (by decide)) | (exact absurd (by decide) hc9) | (simp at hc9; done) | (exfalso; omega))
   refine G_off rfl rfl rfl rfl ?_
   refine G_off rfl rfl rfl rfl ?_
   refine G_off rfl rfl rfl rfl ?_
   refine G_val rfl rfl rfl rfl (V_pickF rfl rfl rfl) ?_
   refine G_val rfl rfl rfl rfl (V_pickF rfl rfl rfl) ?_
   refine G_done ?_
   refine G_else rfl ?_
   refine G_skip ?_
   refine G_seq ?_
   refine G_region (l := [0, 1, 2, 3, 4]) rfl ?_
   refine G_val rfl rfl rfl rfl (V_move rfl rfl) ?_
   refine G_val rfl rfl rfl rfl (V_fieldAddr (fo := 1) rfl Try.underlying91 rfl infLawSuperFalls_50 rfl rfl rfl) ?_
   refine G_val rfl rfl rfl rfl (V_load1 rfl rfl (mem_at 4 rfl) rfl Try.underlying50 rfl) ?_
   refine G_call (L2 := [_, _, _]) rfl rfl rfl rfl rfl rfl Try.call38 (dk_crash d1 2 lb1 cap1 cs1 uw1 (storeK (kB s z) (nx s t)) h1 _ _ _ _ _ _ ks hk) [0, 0, 0] [0] rfl rfl ?_
   rintro v post ⟨rfl, cs1, h1, rfl⟩
   show G _ _ _ [_, _, _, _, _, _] _
   refine G_val rfl rfl rfl rfl (V_assign rfl rfl) ?_
   refine G_done ?_
   refine G_seq ?_
   rcases hfl with hfl | ⟨hfl, hz2, hz3⟩
   · skip
     refine G_region (l := [0, 1, 2, 3, 4, 5, 6, 7]) rfl ?_
     refine G_val rfl rfl rfl rfl (V_move rfl rfl) ?_
     refine G_call (L2 := [_, _, _, _, _, _]) rfl rfl rfl rfl rfl rfl Try.call58 ((sup_load d1 2 lb1 cap1 cs1 slNil ((storeK (kB s z) (nx s t)).crash ks) h1).weaken (fun v post h => by rw [hL0, hfl] at h; exact h)) [] [1, 2, 3] rfl rfl ?_
     rintro v post ⟨rfl, rfl⟩
     show G _ _ _ [_, _, _, _, _, _] _
     refine G_val rfl rfl rfl rfl (V_move rfl rfl) ?_
     refine G_val rfl rfl rfl rfl (V_extract rfl rfl rfl) ?_
     refine G_val rfl rfl rfl rfl (V_extract rfl rfl rfl) ?_
     refine G_new rfl rfl rfl rfl (N_allocA rfl infLawSuperFalls_75 rfl) (fun b12 => ?_)
     refine G_put (l1 := []) (L' := [_, _, _, _, _, _, _]) rfl rfl rfl rfl (P_storeA (s := 5) rfl rfl rfl (mem_at 0 rfl) (by first | rfl | (simp [bcells_length, spCells, pCells, spCells, pCells, wCells, kCells, wCells, kCells, wCells, kCells, spCells, pCells, wCells, kCells, spCells, pCells, wCells, kCells, spCells, pCells, wCells, kCells, spCells, pCells, wCells, kCells]; done) | (simp [bcells_length, spCells, pCells, spCells, pCells, wCells, kCells, wCells, kCells, wCells, kCells, spCells, pCells, wCells, kCells, spCells, pCells, wCells, kCells, spCells, pCells, wCells, kCells, spCells, pCells, wCells, kCells]; omega) | (simp [bcells_length, *, spCells, pCells, spCells, pCells, wCells, kCells, wCells, kCells, wCells, kCells, spCells, pCells, wCells, kCells, spCells, pCells, wCells, kCells, spCells, pCells, wCells, kCells, spCells, pCells, wCells, kCells]; done)) infLawSuperFalls_75 rfl (by first | rfl | (simp [bcells_length, spCells, pCells, spCells, pCells, wCells, kCells, wCells, kCells, wCells, kCells, spCells, pCells, wCells, kCells, spCells, pCells, wCells, kCells, spCells, pCells, wCells, kCells, spCells, pCells, wCells, kCells]; done) | (simp [bcells_length, spCells, pCells, spCells, pCells, wCells, kCells, wCells, kCells, wCells, kCells, spCells, pCells, wCells, kCells, spCells, pCells, wCells, kCells, spCells, pCells, wCells, kCells, spCells, pCells, wCells, kCells]; omega) | (simp [bcells_length, *, spCells, pCells, spCells, pCells, wCells, kCells, wCells, kCells, wCells, kCells, spCells, pCells, wCells, kCells, spCells, pCells, wCells, kCells, spCells, pCells, wCells, kCells, spCells, pCells, wCells, kCells]; done)) (by first | rfl | exact bcells_all _ | (simp [Value.oneCell', spCells, pCells, spCells, pCells, wCells, kCells, wCells, kCells, wCells, kCells, spCells, pCells, wCells, kCells, spCells, pCells, wCells, kCells, spCells, pCells, wCells, kCells, spCells, pCells, wCells, kCells]; done) | (simp [Value.oneCell', *, spCells, pCells, spCells, pCells, wCells, kCells, wCells, kCells, wCells, kCells, spCells, pCells, wCells, kCells, spCells, pCells, wCells, kCells, spCells, pCells, wCells, kCells, spCells, pCells, wCells, kCells]; done))) rfl ?_
     refine G_val rfl rfl rfl rfl (V_assign rfl rfl) ?_
     refine G_done ?_
     refine G_seq ?_
     refine G_region (l := [0, 1, 2, 3, 4, 5, 6, 7, 8, 9, 10, 11, 12, 13, 14, 15, 16, 17, 18, 19, 20, 21, 22, 23, 24, 25, 26, 27, 28, 29, 30, 31, 32, 33, 34, 35, 36]) rfl ?_
     refine G_val rfl rfl rfl rfl (V_move rfl rfl) ?_
     refine G_call (L2 := [_, _, _, _, _, _, _]) rfl rfl rfl rfl rfl rfl Try.call52 (sl_num _) [] [] rfl rfl ?_
     rintro v post ⟨rfl, rfl⟩
     show G _ _ _ [_, _, _, _, _, _, _] _
     refine G_val rfl rfl rfl rfl (V_eql rfl rfl rfl) ?_
     refine G_val rfl rfl rfl rfl (V_move rfl rfl) ?_
     refine G_splitD 91 rfl (fun hc10 => ?_) (fun hc10 => ?_)
     rotate_left
     · (first | (exact absurd rfl hc10) | (exact absurd hc10 (by decide)) | (exact absurd (by decide) hc10) | (simp at hc10; done) | (exfalso; omega))
     refine G_val rfl rfl rfl rfl (V_move rfl rfl) ?_
     refine G_call (L2 := [_, _, _, _, _, _, _]) rfl rfl rfl rfl rfl rfl Try.call52 (sl_num _) [] [] rfl rfl ?_
     rintro v post ⟨rfl, rfl⟩
     show G _ _ _ [_, _, _, _, _, _, _] _
     refine G_val rfl rfl rfl rfl (V_eql rfl rfl rfl) ?_
     refine G_val rfl rfl rfl rfl (V_pickT rfl rfl rfl) ?_
     refine G_val rfl rfl rfl rfl (V_move rfl rfl) ?_
     refine G_splitD 96 rfl (fun hc11 => ?_) (fun hc11 => ?_)
     rotate_left
     · (first | (exact absurd rfl hc11) | (exact absurd hc11 (by decide)) | (exact absurd (by decide) hc11) | (simp at hc11; done) | (exfalso; omega))
     refine G_val rfl rfl rfl rfl (V_move rfl rfl) ?_
     refine G_call (L2 := [_, _, _, _, _, _, _]) rfl rfl rfl rfl rfl rfl Try.call52 (sl_num _) [] [] rfl rfl ?_
     rintro v post ⟨rfl, rfl⟩
     show G _ _ _ [_, _, _, _, _, _, _] _
     refine G_val rfl rfl rfl rfl (V_eql rfl rfl rfl) ?_
     refine G_val rfl rfl rfl rfl (V_pickT rfl rfl rfl) ?_
     refine G_val rfl rfl rfl rfl (V_move rfl rfl) ?_
     refine G_splitD 101 rfl (fun hc12 => ?_) (fun hc12 => ?_)
     rotate_left
     · (first | (exact absurd rfl hc12) | (exact absurd hc12 (by decide)) | (exact absurd (by decide) hc12) | (simp at hc12; done) | (exfalso; omega))
     refine G_val rfl rfl rfl rfl (V_move rfl rfl) ?_
     refine G_call (L2 := [_, _, _, _, _, _, _]) rfl rfl rfl rfl rfl rfl Try.call52 (sl_num _) [] [] rfl rfl ?_
     rintro v post ⟨rfl, rfl⟩
     show G _ _ _ [_, _, _, _, _, _, _] _
     refine G_val rfl rfl rfl rfl (V_eql rfl rfl rfl) ?_
     refine G_val rfl rfl rfl rfl (V_pickT rfl rfl rfl) ?_
     refine G_val rfl rfl rfl rfl (V_move rfl rfl) ?_
     refine G_splitD 106 rfl (fun hc13 => ?_) (fun hc13 => ?_)
     rotate_left
     · (first | (exact absurd rfl hc13) | (exact absurd hc13 (by decide)) | (exact absurd (by decide) hc13) | (simp at hc13; done) | (exfalso; omega))
     first
       | refine G_val rfl rfl rfl rfl (V_loadW (s := 5) rfl rfl (mem_at 1 rfl) Try.underlying75 rfl infLawSuperFalls_75 rfl (by first | rfl | (simp [bcells_length, spCells, pCells, spCells, pCells, wCells, kCells, wCells, kCells, wCells, kCells, spCells, pCells, wCells, kCells, spCells, pCells, wCells, kCells, spCells, pCells, wCells, kCells, spCells, pCells, wCells, kCells]; done) | (simp [bcells_length, spCells, pCells, spCells, pCells, wCells, kCells, wCells, kCells, wCells, kCells, spCells, pCells, wCells, kCells, spCells, pCells, wCells, kCells, spCells, pCells, wCells, kCells, spCells, pCells, wCells, kCells]; omega) | (simp [bcells_length, *, spCells, pCells, spCells, pCells, wCells, kCells, wCells, kCells, wCells, kCells, spCells, pCells, wCells, kCells, spCells, pCells, wCells, kCells, spCells, pCells, wCells, kCells, spCells, pCells, wCells, kCells]; done))) ?_
       | refine G_val rfl rfl rfl rfl (V_loadA (s := 5) rfl rfl (mem_at 1 rfl) Try.underlying75 rfl infLawSuperFalls_75 rfl rfl (by first | rfl | (simp [bcells_length, spCells, pCells, spCells, pCells, wCells, kCells, wCells, kCells, wCells, kCells, spCells, pCells, wCells, kCells, spCells, pCells, wCells, kCells, spCells, pCells, wCells, kCells, spCells, pCells, wCells, kCells]; done) | (simp [bcells_length, spCells, pCells, spCells, pCells, wCells, kCells, wCells, kCells, wCells, kCells, spCells, pCells, wCells, kCells, spCells, pCells, wCells, kCells, spCells, pCells, wCells, kCells, spCells, pCells, wCells, kCells]; omega) | (simp [bcells_length, *, spCells, pCells, spCells, pCells, wCells, kCells, wCells, kCells, wCells, kCells, spCells, pCells, wCells, kCells, spCells, pCells, wCells, kCells, spCells, pCells, wCells, kCells, spCells, pCells, wCells, kCells]; done))) ?_
     first
       | refine G_val rfl rfl rfl rfl (V_loadW (s := 5) rfl rfl (mem_at 6 rfl) Try.underlying75 rfl infLawSuperFalls_75 rfl (by first | rfl | (simp [bcells_length, spCells, pCells, spCells, pCells, wCells, kCells, wCells, kCells, wCells, kCells, spCells, pCells, wCells, kCells, spCells, pCells, wCells, kCells, spCells, pCells, wCells, kCells, spCells, pCells, wCells, kCells]; done) | (simp [bcells_length, spCells, pCells, spCells, pCells, wCells, kCells, wCells, kCells, wCells, kCells, spCells, pCells, wCells, kCells, spCells, pCells, wCells, kCells, spCells, pCells, wCells, kCells, spCells, pCells, wCells, kCells]; omega) | (simp [bcells_length, *, spCells, pCells, spCells, pCells, wCells, kCells, wCells, kCells, wCells, kCells, spCells, pCells, wCells, kCells, spCells, pCells, wCells, kCells, spCells, pCells, wCells, kCells, spCells, pCells, wCells, kCells]; done))) ?_
       | refine G_val rfl rfl rfl rfl (V_loadA (s := 5) rfl rfl (mem_at 6 rfl) Try.underlying75 rfl infLawSuperFalls_75 rfl rfl (by first | rfl | (simp [bcells_length, spCells, pCells, spCells, pCells, wCells, kCells, wCells, kCells, wCells, kCells, spCells, pCells, wCells, kCells, spCells, pCells, wCells, kCells, spCells, pCells, wCells, kCells, spCells, pCells, wCells, kCells]; done) | (simp [bcells_length, spCells, pCells, spCells, pCells, wCells, kCells, wCells, kCells, wCells, kCells, spCells, pCells, wCells, kCells, spCells, pCells, wCells, kCells, spCells, pCells, wCells, kCells, spCells, pCells, wCells, kCells]; omega) | (simp [bcells_length, *, spCells, pCells, spCells, pCells, wCells, kCells, wCells, kCells, wCells, kCells, spCells, pCells, wCells, kCells, spCells, pCells, wCells, kCells, spCells, pCells, wCells, kCells, spCells, pCells, wCells, kCells]; done))) ?_
     refine G_val rfl rfl rfl rfl (V_aggeql (m := 6) rfl Try.eqGuardType75 (by kernel_rfl) (by decide) (formed_of Try.underlying75 rfl (by kernel_rfl : Try.prog.cellsOf 75 = 5) (by first | rfl | (simp [bcells_length, spCells, pCells, spCells, pCells, wCells, kCells, wCells, kCells, wCells, kCells, spCells, pCells, wCells, kCells, spCells, pCells, wCells, kCells, spCells, pCells, wCells, kCells, spCells, pCells, wCells, kCells]; done) | (simp [bcells_length, spCells, pCells, spCells, pCells, wCells, kCells, wCells, kCells, wCells, kCells, spCells, pCells, wCells, kCells, spCells, pCells, wCells, kCells, spCells, pCells, wCells, kCells, spCells, pCells, wCells, kCells]; omega) | (simp [bcells_length, *, spCells, pCells, spCells, pCells, wCells, kCells, wCells, kCells, wCells, kCells, spCells, pCells, wCells, kCells, spCells, pCells, wCells, kCells, spCells, pCells, wCells, kCells, spCells, pCells, wCells, kCells]; done))) (formed_of Try.underlying75 rfl (by kernel_rfl : Try.prog.cellsOf 75 = 5) (by first | rfl | (simp [bcells_length, spCells, pCells, spCells, pCells, wCells, kCells, wCells, kCells, wCells, kCells, spCells, pCells, wCells, kCells, spCells, pCells, wCells, kCells, spCells, pCells, wCells, kCells, spCells, pCells, wCells, kCells]; done) | (simp [bcells_length, spCells, pCells, spCells, pCells, wCells, kCells, wCells, kCells, wCells, kCells, spCells, pCells, wCells, kCells, spCells, pCells, wCells, kCells, spCells, pCells, wCells, kCells, spCells, pCells, wCells, kCells]; omega) | (simp [bcells_length, *, spCells, pCells, spCells, pCells, wCells, kCells, wCells, kCells, wCells, kCells, spCells, pCells, wCells, kCells, spCells, pCells, wCells, kCells, spCells, pCells, wCells, kCells, spCells, pCells, wCells, kCells]; done))) rfl rfl (key_sp _ hnk) (key_sp _ hnk)) ?_
     refine G_val rfl rfl rfl rfl (V_move rfl rfl) ?_
     refine G_splitD 110 rfl (fun hc14 => ?_) (fun hc14 => ?_)
     rotate_left
     · (first | (exact absurd rfl hc14) | (exact absurd hc14 (by decide)) | (exact absurd (by decide) hc14) | (simp at hc14; done) | (exfalso; omega))
     refine G_off rfl rfl rfl rfl ?_
     refine G_off rfl rfl rfl rfl ?_
     refine G_off rfl rfl rfl rfl ?_
     refine G_off rfl rfl rfl rfl ?_
     refine G_off rfl rfl rfl rfl ?_
     refine G_off rfl rfl rfl rfl ?_
     refine G_off rfl rfl rfl rfl ?_
     refine G_off rfl rfl rfl rfl ?_
     refine G_val rfl rfl rfl rfl (V_pickT rfl rfl rfl) ?_
     refine G_val rfl rfl rfl rfl (V_pickT rfl rfl rfl) ?_
     refine G_val rfl rfl rfl rfl (V_move rfl rfl) ?_
     refine G_call (L2 := [_, _, _, _, _, _, _]) rfl rfl rfl rfl rfl rfl Try.call47 (sl_live) [] [] rfl rfl ?_
     rintro v post ⟨rfl, rfl⟩
     show G _ _ _ [_, _, _, _, _, _, _] _
     refine G_val rfl rfl rfl rfl (V_pickT rfl rfl rfl) ?_
     refine G_val rfl rfl rfl rfl (V_assign rfl rfl) ?_
     refine G_done ?_
     refine G_ret (post := []) Try.func12 rfl (RVs_cons (RV_tmp rfl) RVs_nil) [] rfl ?_
     dsimp only [packed]
     exact ⟨rfl, rfl⟩
   · skip
     refine G_region (l := [0, 1, 2, 3, 4, 5, 6, 7]) rfl ?_
     refine G_val rfl rfl rfl rfl (V_move rfl rfl) ?_
     refine G_call (L2 := [_, _, _, _, _, _]) rfl rfl rfl rfl rfl rfl Try.call58 ((sup_load d1 2 lb1 cap1 cs1 slNil ((storeK (kB s z) (nx s t)).crash ks) h1).weaken (fun v post h => by rw [hL0, hfl] at h; exact h)) [] [1, 2, 3] rfl rfl ?_
     rintro v post ⟨rfl, rfl⟩
     show G _ _ _ [_, _, _, _, _, _] _
     refine G_val rfl rfl rfl rfl (V_move rfl rfl) ?_
     refine G_val rfl rfl rfl rfl (V_extract rfl rfl rfl) ?_
     refine G_val rfl rfl rfl rfl (V_extract rfl rfl rfl) ?_
     refine G_new rfl rfl rfl rfl (N_allocA rfl infLawSuperFalls_75 rfl) (fun b12 => ?_)
     refine G_put (l1 := []) (L' := [_, _, _, _, _, _, _]) rfl rfl rfl rfl (P_storeA (s := 5) rfl rfl rfl (mem_at 0 rfl) (by first | rfl | (simp [bcells_length, spCells, pCells, spCells, pCells, wCells, kCells, wCells, kCells, wCells, kCells, spCells, pCells, wCells, kCells, spCells, pCells, wCells, kCells, spCells, pCells, wCells, kCells, spCells, pCells, wCells, kCells]; done) | (simp [bcells_length, spCells, pCells, spCells, pCells, wCells, kCells, wCells, kCells, wCells, kCells, spCells, pCells, wCells, kCells, spCells, pCells, wCells, kCells, spCells, pCells, wCells, kCells, spCells, pCells, wCells, kCells]; omega) | (simp [bcells_length, *, spCells, pCells, spCells, pCells, wCells, kCells, wCells, kCells, wCells, kCells, spCells, pCells, wCells, kCells, spCells, pCells, wCells, kCells, spCells, pCells, wCells, kCells, spCells, pCells, wCells, kCells]; done)) infLawSuperFalls_75 rfl (by first | rfl | (simp [bcells_length, spCells, pCells, spCells, pCells, wCells, kCells, wCells, kCells, wCells, kCells, spCells, pCells, wCells, kCells, spCells, pCells, wCells, kCells, spCells, pCells, wCells, kCells, spCells, pCells, wCells, kCells]; done) | (simp [bcells_length, spCells, pCells, spCells, pCells, wCells, kCells, wCells, kCells, wCells, kCells, spCells, pCells, wCells, kCells, spCells, pCells, wCells, kCells, spCells, pCells, wCells, kCells, spCells, pCells, wCells, kCells]; omega) | (simp [bcells_length, *, spCells, pCells, spCells, pCells, wCells, kCells, wCells, kCells, wCells, kCells, spCells, pCells, wCells, kCells, spCells, pCells, wCells, kCells, spCells, pCells, wCells, kCells, spCells, pCells, wCells, kCells]; done)) (by first | rfl | exact bcells_all _ | (simp [Value.oneCell', spCells, pCells, spCells, pCells, wCells, kCells, wCells, kCells, wCells, kCells, spCells, pCells, wCells, kCells, spCells, pCells, wCells, kCells, spCells, pCells, wCells, kCells, spCells, pCells, wCells, kCells]; done) | (simp [Value.oneCell', *, spCells, pCells, spCells, pCells, wCells, kCells, wCells, kCells, wCells, kCells, spCells, pCells, wCells, kCells, spCells, pCells, wCells, kCells, spCells, pCells, wCells, kCells, spCells, pCells, wCells, kCells]; done))) rfl ?_
     refine G_val rfl rfl rfl rfl (V_assign rfl rfl) ?_
     refine G_done ?_
     refine G_seq ?_
     refine G_region (l := [0, 1, 2, 3, 4, 5, 6, 7, 8, 9, 10, 11, 12, 13, 14, 15, 16, 17, 18, 19, 20, 21, 22, 23, 24, 25, 26, 27, 28, 29, 30, 31, 32, 33, 34, 35, 36]) rfl ?_
     refine G_val rfl rfl rfl rfl (V_move rfl rfl) ?_
     refine G_call (L2 := [_, _, _, _, _, _, _]) rfl rfl rfl rfl rfl rfl Try.call52 (sl_num _) [] [] rfl rfl ?_
     rintro v post ⟨rfl, rfl⟩
     show G _ _ _ [_, _, _, _, _, _, _] _
     refine G_val rfl rfl rfl rfl (V_eql rfl rfl rfl) ?_
     refine G_val rfl rfl rfl rfl (V_move rfl rfl) ?_
     refine G_splitD 91 rfl (fun hc10 => ?_) (fun hc10 => ?_)
     rotate_left
     · (first | (exact absurd rfl hc10) | (exact absurd hc10 (by decide)) | (exact absurd (by decide) hc10) | (simp at hc10; done) | (exfalso; omega))
     refine G_val rfl rfl rfl rfl (V_move rfl rfl) ?_
     refine G_call (L2 := [_, _, _, _, _, _, _]) rfl rfl rfl rfl rfl rfl Try.call52 (sl_num _) [] [] rfl rfl ?_
     rintro v post ⟨rfl, rfl⟩
     show G _ _ _ [_, _, _, _, _, _, _] _
     refine G_val rfl rfl rfl rfl (V_eql rfl rfl rfl) ?_
     refine G_val rfl rfl rfl rfl (V_pickT rfl rfl rfl) ?_
     refine G_val rfl rfl rfl rfl (V_move rfl rfl) ?_
     refine G_splitD 96 rfl (fun hc11 => ?_) (fun hc11 => ?_)
     rotate_left
     · (first | (exact absurd rfl hc11) | (exact absurd hc11 (by decide)) | (exact absurd (by decide) hc11) | (simp at hc11; done) | (exfalso; omega))
     refine G_val rfl rfl rfl rfl (V_move rfl rfl) ?_
     refine G_call (L2 := [_, _, _, _, _, _, _]) rfl rfl rfl rfl rfl rfl Try.call52 (sl_num _) [] [] rfl rfl ?_
     rintro v post ⟨rfl, rfl⟩
     show G _ _ _ [_, _, _, _, _, _, _] _
     refine G_val rfl rfl rfl rfl (V_eql rfl rfl rfl) ?_
     refine G_val rfl rfl rfl rfl (V_pickT rfl rfl rfl) ?_
     refine G_val rfl rfl rfl rfl (V_move rfl rfl) ?_
     refine G_splitD 101 rfl (fun hc12 => ?_) (fun hc12 => ?_)
     rotate_left
     · (first | (exact absurd rfl hc12) | (exact absurd hc12 (by decide)) | (exact absurd (by decide) hc12) | (simp at hc12; done) | (exfalso; omega))
     refine G_val rfl rfl rfl rfl (V_move rfl rfl) ?_
     refine G_call (L2 := [_, _, _, _, _, _, _]) rfl rfl rfl rfl rfl rfl Try.call52 (sl_num _) [] [] rfl rfl ?_
     rintro v post ⟨rfl, rfl⟩
     show G _ _ _ [_, _, _, _, _, _, _] _
     refine G_val rfl rfl rfl rfl (V_eql rfl rfl rfl) ?_
     refine G_val rfl rfl rfl rfl (V_pickT rfl rfl rfl) ?_
     refine G_val rfl rfl rfl rfl (V_move rfl rfl) ?_
     refine G_splitD 106 rfl (fun hc13 => ?_) (fun hc13 => ?_)
     rotate_left
     · (first | (exact absurd rfl hc13) | (exact absurd hc13 (by decide)) | (exact absurd (by decide) hc13) | (simp at hc13; done) | (exfalso; omega))
     first
       | refine G_val rfl rfl rfl rfl (V_loadW (s := 5) rfl rfl (mem_at 1 rfl) Try.underlying75 rfl infLawSuperFalls_75 rfl (by first | rfl | (simp [bcells_length, spCells, pCells, spCells, pCells, wCells, kCells, wCells, kCells, wCells, kCells, spCells, pCells, wCells, kCells, spCells, pCells, wCells, kCells, spCells, pCells, wCells, kCells, spCells, pCells, wCells, kCells]; done) | (simp [bcells_length, spCells, pCells, spCells, pCells, wCells, kCells, wCells, kCells, wCells, kCells, spCells, pCells, wCells, kCells, spCells, pCells, wCells, kCells, spCells, pCells, wCells, kCells, spCells, pCells, wCells, kCells]; omega) | (simp [bcells_length, *, spCells, pCells, spCells, pCells, wCells, kCells, wCells, kCells, wCells, kCells, spCells, pCells, wCells, kCells, spCells, pCells, wCells, kCells, spCells, pCells, wCells, kCells, spCells, pCells, wCells, kCells]; done))) ?_
       | refine G_val rfl rfl rfl rfl (V_loadA (s := 5) rfl rfl (mem_at 1 rfl) Try.underlying75 rfl infLawSuperFalls_75 rfl rfl (by first | rfl | (simp [bcells_length, spCells, pCells, spCells, pCells, wCells, kCells, wCells, kCells, wCells, kCells, spCells, pCells, wCells, kCells, spCells, pCells, wCells, kCells, spCells, pCells, wCells, kCells, spCells, pCells, wCells, kCells]; done) | (simp [bcells_length, spCells, pCells, spCells, pCells, wCells, kCells, wCells, kCells, wCells, kCells, spCells, pCells, wCells, kCells, spCells, pCells, wCells, kCells, spCells, pCells, wCells, kCells, spCells, pCells, wCells, kCells]; omega) | (simp [bcells_length, *, spCells, pCells, spCells, pCells, wCells, kCells, wCells, kCells, wCells, kCells, spCells, pCells, wCells, kCells, spCells, pCells, wCells, kCells, spCells, pCells, wCells, kCells, spCells, pCells, wCells, kCells]; done))) ?_
     first
       | refine G_val rfl rfl rfl rfl (V_loadW (s := 5) rfl rfl (mem_at 6 rfl) Try.underlying75 rfl infLawSuperFalls_75 rfl (by first | rfl | (simp [bcells_length, spCells, pCells, spCells, pCells, wCells, kCells, wCells, kCells, wCells, kCells, spCells, pCells, wCells, kCells, spCells, pCells, wCells, kCells, spCells, pCells, wCells, kCells, spCells, pCells, wCells, kCells]; done) | (simp [bcells_length, spCells, pCells, spCells, pCells, wCells, kCells, wCells, kCells, wCells, kCells, spCells, pCells, wCells, kCells, spCells, pCells, wCells, kCells, spCells, pCells, wCells, kCells, spCells, pCells, wCells, kCells]; omega) | (simp [bcells_length, *, spCells, pCells, spCells, pCells, wCells, kCells, wCells, kCells, wCells, kCells, spCells, pCells, wCells, kCells, spCells, pCells, wCells, kCells, spCells, pCells, wCells, kCells, spCells, pCells, wCells, kCells]; done))) ?_
       | refine G_val rfl rfl rfl rfl (V_loadA (s := 5) rfl rfl (mem_at 6 rfl) Try.underlying75 rfl infLawSuperFalls_75 rfl rfl (by first | rfl | (simp [bcells_length, spCells, pCells, spCells, pCells, wCells, kCells, wCells, kCells, wCells, kCells, spCells, pCells, wCells, kCells, spCells, pCells, wCells, kCells, spCells, pCells, wCells, kCells, spCells, pCells, wCells, kCells]; done) | (simp [bcells_length, spCells, pCells, spCells, pCells, wCells, kCells, wCells, kCells, wCells, kCells, spCells, pCells, wCells, kCells, spCells, pCells, wCells, kCells, spCells, pCells, wCells, kCells, spCells, pCells, wCells, kCells]; omega) | (simp [bcells_length, *, spCells, pCells, spCells, pCells, wCells, kCells, wCells, kCells, wCells, kCells, spCells, pCells, wCells, kCells, spCells, pCells, wCells, kCells, spCells, pCells, wCells, kCells, spCells, pCells, wCells, kCells]; done))) ?_
     refine G_val rfl rfl rfl rfl (V_aggeql (m := 6) rfl Try.eqGuardType75 (by kernel_rfl) (by decide) (formed_of Try.underlying75 rfl (by kernel_rfl : Try.prog.cellsOf 75 = 5) (by first | rfl | (simp [bcells_length, spCells, pCells, spCells, pCells, wCells, kCells, wCells, kCells, wCells, kCells, spCells, pCells, wCells, kCells, spCells, pCells, wCells, kCells, spCells, pCells, wCells, kCells, spCells, pCells, wCells, kCells]; done) | (simp [bcells_length, spCells, pCells, spCells, pCells, wCells, kCells, wCells, kCells, wCells, kCells, spCells, pCells, wCells, kCells, spCells, pCells, wCells, kCells, spCells, pCells, wCells, kCells, spCells, pCells, wCells, kCells]; omega) | (simp [bcells_length, *, spCells, pCells, spCells, pCells, wCells, kCells, wCells, kCells, wCells, kCells, spCells, pCells, wCells, kCells, spCells, pCells, wCells, kCells, spCells, pCells, wCells, kCells, spCells, pCells, wCells, kCells]; done))) (formed_of Try.underlying75 rfl (by kernel_rfl : Try.prog.cellsOf 75 = 5) (by first | rfl | (simp [bcells_length, spCells, pCells, spCells, pCells, wCells, kCells, wCells, kCells, wCells, kCells, spCells, pCells, wCells, kCells, spCells, pCells, wCells, kCells, spCells, pCells, wCells, kCells, spCells, pCells, wCells, kCells]; done) | (simp [bcells_length, spCells, pCells, spCells, pCells, wCells, kCells, wCells, kCells, wCells, kCells, spCells, pCells, wCells, kCells, spCells, pCells, wCells, kCells, spCells, pCells, wCells, kCells, spCells, pCells, wCells, kCells]; omega) | (simp [bcells_length, *, spCells, pCells, spCells, pCells, wCells, kCells, wCells, kCells, wCells, kCells, spCells, pCells, wCells, kCells, spCells, pCells, wCells, kCells, spCells, pCells, wCells, kCells, spCells, pCells, wCells, kCells]; done))) rfl rfl (key_sp s hs) (key_sp _ hnk)) ?_
     refine G_val rfl rfl rfl rfl (V_move rfl rfl) ?_
     refine G_splitD 110 rfl (fun hc14 => ?_) (fun hc14 => ?_)
     · skip
       refine G_off rfl rfl rfl rfl ?_
       refine G_off rfl rfl rfl rfl ?_
       refine G_off rfl rfl rfl rfl ?_
       refine G_off rfl rfl rfl rfl ?_
       refine G_off rfl rfl rfl rfl ?_
       refine G_off rfl rfl rfl rfl ?_
       refine G_off rfl rfl rfl rfl ?_
       refine G_off rfl rfl rfl rfl ?_
       refine G_val rfl rfl rfl rfl (V_pickT rfl rfl rfl) ?_
       refine G_val rfl rfl rfl rfl (V_pickT rfl rfl rfl) ?_
       refine G_val rfl rfl rfl rfl (V_move rfl rfl) ?_
       refine G_call (L2 := [_, _, _, _, _, _, _]) rfl rfl rfl rfl rfl rfl Try.call47 (sl_live) [] [] rfl rfl ?_
       rintro v post ⟨rfl, rfl⟩
       show G _ _ _ [_, _, _, _, _, _, _] _
       refine G_val rfl rfl rfl rfl (V_pickT rfl rfl rfl) ?_
       refine G_val rfl rfl rfl rfl (V_assign rfl rfl) ?_
       refine G_done ?_
       refine G_ret (post := []) Try.func12 rfl (RVs_cons (RV_tmp rfl) RVs_nil) [] rfl ?_
       dsimp only [packed]
       exact ⟨rfl, rfl⟩
     refine G_val rfl rfl rfl rfl (V_move rfl rfl) ?_
     refine G_call (L2 := [_, _, _, _, _, _, _]) rfl rfl rfl rfl rfl rfl Try.call52 (sl_num _) [] [] rfl rfl ?_
     rintro v post ⟨rfl, rfl⟩
     show G _ _ _ [_, _, _, _, _, _, _] _
     refine G_val rfl rfl rfl rfl (V_neq rfl rfl rfl) ?_
     refine G_val rfl rfl rfl rfl (V_move rfl rfl) ?_
     refine G_splitD 114 rfl (fun hc15 => ?_) (fun hc15 => ?_)
     rotate_left
     · (first | (exact absurd rfl hc15) | (exact absurd hc15 (by decide)) | (exact absurd (by decide) hc15) | (simp at hc15; done) | (exfalso; omega))
     first
       | refine G_val rfl rfl rfl rfl (V_loadW (s := 5) rfl rfl (mem_at 1 rfl) Try.underlying75 rfl infLawSuperFalls_75 rfl (by first | rfl | (simp [bcells_length, spCells, pCells, spCells, pCells, wCells, kCells, wCells, kCells, wCells, kCells, spCells, pCells, wCells, kCells, spCells, pCells, wCells, kCells, spCells, pCells, wCells, kCells, spCells, pCells, wCells, kCells]; done) | (simp [bcells_length, spCells, pCells, spCells, pCells, wCells, kCells, wCells, kCells, wCells, kCells, spCells, pCells, wCells, kCells, spCells, pCells, wCells, kCells, spCells, pCells, wCells, kCells, spCells, pCells, wCells, kCells]; omega) | (simp [bcells_length, *, spCells, pCells, spCells, pCells, wCells, kCells, wCells, kCells, wCells, kCells, spCells, pCells, wCells, kCells, spCells, pCells, wCells, kCells, spCells, pCells, wCells, kCells, spCells, pCells, wCells, kCells]; done))) ?_
       | refine G_val rfl rfl rfl rfl (V_loadA (s := 5) rfl rfl (mem_at 1 rfl) Try.underlying75 rfl infLawSuperFalls_75 rfl rfl (by first | rfl | (simp [bcells_length, spCells, pCells, spCells, pCells, wCells, kCells, wCells, kCells, wCells, kCells, spCells, pCells, wCells, kCells, spCells, pCells, wCells, kCells, spCells, pCells, wCells, kCells, spCells, pCells, wCells, kCells]; done) | (simp [bcells_length, spCells, pCells, spCells, pCells, wCells, kCells, wCells, kCells, wCells, kCells, spCells, pCells, wCells, kCells, spCells, pCells, wCells, kCells, spCells, pCells, wCells, kCells, spCells, pCells, wCells, kCells]; omega) | (simp [bcells_length, *, spCells, pCells, spCells, pCells, wCells, kCells, wCells, kCells, wCells, kCells, spCells, pCells, wCells, kCells, spCells, pCells, wCells, kCells, spCells, pCells, wCells, kCells, spCells, pCells, wCells, kCells]; done))) ?_
     first
       | refine G_val rfl rfl rfl rfl (V_loadW (s := 5) rfl rfl (mem_at 7 rfl) Try.underlying75 rfl infLawSuperFalls_75 rfl (by first | rfl | (simp [bcells_length, spCells, pCells, spCells, pCells, wCells, kCells, wCells, kCells, wCells, kCells, spCells, pCells, wCells, kCells, spCells, pCells, wCells, kCells, spCells, pCells, wCells, kCells, spCells, pCells, wCells, kCells]; done) | (simp [bcells_length, spCells, pCells, spCells, pCells, wCells, kCells, wCells, kCells, wCells, kCells, spCells, pCells, wCells, kCells, spCells, pCells, wCells, kCells, spCells, pCells, wCells, kCells, spCells, pCells, wCells, kCells]; omega) | (simp [bcells_length, *, spCells, pCells, spCells, pCells, wCells, kCells, wCells, kCells, wCells, kCells, spCells, pCells, wCells, kCells, spCells, pCells, wCells, kCells, spCells, pCells, wCells, kCells, spCells, pCells, wCells, kCells]; done))) ?_
       | refine G_val rfl rfl rfl rfl (V_loadA (s := 5) rfl rfl (mem_at 7 rfl) Try.underlying75 rfl infLawSuperFalls_75 rfl rfl (by first | rfl | (simp [bcells_length, spCells, pCells, spCells, pCells, wCells, kCells, wCells, kCells, wCells, kCells, spCells, pCells, wCells, kCells, spCells, pCells, wCells, kCells, spCells, pCells, wCells, kCells, spCells, pCells, wCells, kCells]; done) | (simp [bcells_length, spCells, pCells, spCells, pCells, wCells, kCells, wCells, kCells, wCells, kCells, spCells, pCells, wCells, kCells, spCells, pCells, wCells, kCells, spCells, pCells, wCells, kCells, spCells, pCells, wCells, kCells]; omega) | (simp [bcells_length, *, spCells, pCells, spCells, pCells, wCells, kCells, wCells, kCells, wCells, kCells, spCells, pCells, wCells, kCells, spCells, pCells, wCells, kCells, spCells, pCells, wCells, kCells, spCells, pCells, wCells, kCells]; done))) ?_
     refine G_val rfl rfl rfl rfl (V_aggeql (m := 6) rfl Try.eqGuardType75 (by kernel_rfl) (by decide) (formed_of Try.underlying75 rfl (by kernel_rfl : Try.prog.cellsOf 75 = 5) (by first | rfl | (simp [bcells_length, spCells, pCells, spCells, pCells, wCells, kCells, wCells, kCells, wCells, kCells, spCells, pCells, wCells, kCells, spCells, pCells, wCells, kCells, spCells, pCells, wCells, kCells, spCells, pCells, wCells, kCells]; done) | (simp [bcells_length, spCells, pCells, spCells, pCells, wCells, kCells, wCells, kCells, wCells, kCells, spCells, pCells, wCells, kCells, spCells, pCells, wCells, kCells, spCells, pCells, wCells, kCells, spCells, pCells, wCells, kCells]; omega) | (simp [bcells_length, *, spCells, pCells, spCells, pCells, wCells, kCells, wCells, kCells, wCells, kCells, spCells, pCells, wCells, kCells, spCells, pCells, wCells, kCells, spCells, pCells, wCells, kCells, spCells, pCells, wCells, kCells]; done))) (formed_of Try.underlying75 rfl (by kernel_rfl : Try.prog.cellsOf 75 = 5) (by first | rfl | (simp [bcells_length, spCells, pCells, spCells, pCells, wCells, kCells, wCells, kCells, wCells, kCells, spCells, pCells, wCells, kCells, spCells, pCells, wCells, kCells, spCells, pCells, wCells, kCells, spCells, pCells, wCells, kCells]; done) | (simp [bcells_length, spCells, pCells, spCells, pCells, wCells, kCells, wCells, kCells, wCells, kCells, spCells, pCells, wCells, kCells, spCells, pCells, wCells, kCells, spCells, pCells, wCells, kCells, spCells, pCells, wCells, kCells]; omega) | (simp [bcells_length, *, spCells, pCells, spCells, pCells, wCells, kCells, wCells, kCells, wCells, kCells, spCells, pCells, wCells, kCells, spCells, pCells, wCells, kCells, spCells, pCells, wCells, kCells, spCells, pCells, wCells, kCells]; done))) rfl rfl (key_sp s hs) (key_sp s hs)) ?_
     refine G_val rfl rfl rfl rfl (V_pickT rfl rfl rfl) ?_
     refine G_val rfl rfl rfl rfl (V_pickF rfl rfl rfl) ?_
     refine G_val rfl rfl rfl rfl (V_pickT rfl rfl rfl) ?_
     refine G_val rfl rfl rfl rfl (V_move rfl rfl) ?_
     refine G_splitD 121 rfl (fun hc16 => ?_) (fun hc16 => ?_)
     rotate_left
     · (first | (exact absurd rfl hc16) | (exact absurd hc16 (by decide)) | (exact absurd (by decide) hc16) | (simp at hc16; done) | (exfalso; omega))
     refine G_call (L2 := [_, _, _, _, _, _, _]) rfl rfl rfl rfl rfl rfl Try.call47 (sl_live) [] [] rfl rfl ?_
     rintro v post ⟨rfl, rfl⟩
     show G _ _ _ [_, _, _, _, _, _, _] _
     refine G_val rfl rfl rfl rfl (V_pickT rfl rfl rfl) ?_
     refine G_val rfl rfl rfl rfl (V_assign rfl rfl) ?_
     refine G_done ?_
     refine G_ret (post := []) Try.func12 rfl (RVs_cons (RV_tmp rfl) RVs_nil) [] rfl ?_
     dsimp only [packed]
     exact ⟨rfl, rfl⟩
 · skip
   refine G_region (l := [0, 1, 2, 3]) rfl ?_
   refine G_val rfl rfl rfl rfl (V_move rfl rfl) ?_
   first
     | refine G_val rfl rfl rfl rfl (V_loadW (s := 5) rfl rfl (mem_at 5 rfl) Try.underlying75 rfl infLawSuperFalls_75 rfl (by first | rfl | (simp [bcells_length, spCells, pCells, spCells, pCells, wCells, kCells, wCells, kCells, wCells, kCells, spCells, pCells, wCells, kCells, spCells, pCells, wCells, kCells, spCells, pCells, wCells, kCells, spCells, pCells, wCells, kCells]; done) | (simp [bcells_length, spCells, pCells, spCells, pCells, wCells, kCells, wCells, kCells, wCells, kCells, spCells, pCells, wCells, kCells, spCells, pCells, wCells, kCells, spCells, pCells, wCells, kCells, spCells, pCells, wCells, kCells]; omega) | (simp [bcells_length, *, spCells, pCells, spCells, pCells, wCells, kCells, wCells, kCells, wCells, kCells, spCells, pCells, wCells, kCells, spCells, pCells, wCells, kCells, spCells, pCells, wCells, kCells, spCells, pCells, wCells, kCells]; done))) ?_
     | refine G_val rfl rfl rfl rfl (V_loadA (s := 5) rfl rfl (mem_at 5 rfl) Try.underlying75 rfl infLawSuperFalls_75 rfl rfl (by first | rfl | (simp [bcells_length, spCells, pCells, spCells, pCells, wCells, kCells, wCells, kCells, wCells, kCells, spCells, pCells, wCells, kCells, spCells, pCells, wCells, kCells, spCells, pCells, wCells, kCells, spCells, pCells, wCells, kCells]; done) | (simp [bcells_length, spCells, pCells, spCells, pCells, wCells, kCells, wCells, kCells, wCells, kCells, spCells, pCells, wCells, kCells, spCells, pCells, wCells, kCells, spCells, pCells, wCells, kCells, spCells, pCells, wCells, kCells]; omega) | (simp [bcells_length, *, spCells, pCells, spCells, pCells, wCells, kCells, wCells, kCells, wCells, kCells, spCells, pCells, wCells, kCells, spCells, pCells, wCells, kCells, spCells, pCells, wCells, kCells, spCells, pCells, wCells, kCells]; done))) ?_
   refine G_call (L2 := [_, _, _]) rfl rfl rfl rfl rfl rfl Try.call59 ((sup_store d1 2 lb1 cap1 cs1 uw1 (kB s z) h1 (nx s t) hnk (by rw [kB_W]; simp)).weaken (fun v post h => by rw [(hE.2 hzz)] at h; exact h)) [0, 0, 0] [] rfl rfl ?_
   rintro v post ⟨rfl, cs1, uw1, h1, rfl⟩
   show G _ _ _ [_, _, _, _, _, _] _
   refine G_val rfl rfl rfl rfl (V_assign rfl rfl) ?_
   refine G_done ?_
   refine G_seq ?_
   refine G_seq ?_
   refine G_region (l := [0, 1, 2, 3, 4, 5, 6, 7, 8, 9, 10, 11, 12, 13, 14, 15, 16, 17, 18, 19, 20, 21, 22, 23, 24, 25, 26, 27]) rfl ?_
   refine G_val rfl rfl rfl rfl (V_fieldAddr (fo := 0) rfl Try.underlying91 rfl infLawSuperFalls_3 rfl rfl rfl) ?_
   refine G_val rfl rfl rfl rfl (V_load1 rfl rfl (mem_at 4 rfl) rfl Try.underlying3 rfl) ?_
   refine G_val rfl rfl rfl rfl (V_geq rfl rfl rfl) ?_
   refine G_val rfl rfl rfl rfl (V_move rfl rfl) ?_
   refine G_splitD 54 rfl (fun hc5 => ?_) (fun hc5 => ?_)
   · skip
     refine G_val rfl rfl rfl rfl (V_fieldAddr (fo := 0) rfl Try.underlying91 rfl infLawSuperFalls_3 rfl rfl rfl) ?_
     refine G_val rfl rfl rfl rfl (V_load1 rfl rfl (mem_at 4 rfl) rfl Try.underlying3 rfl) ?_
     refine G_val rfl rfl rfl rfl (V_lss rfl rfl rfl) ?_
     refine G_val rfl rfl rfl rfl (V_pickT rfl rfl rfl) ?_
     refine G_val rfl rfl rfl rfl (V_move rfl rfl) ?_
     refine G_splitD 59 rfl (fun hc6 => ?_) (fun hc6 => ?_)
     · (first | (exact absurd rfl hc6) | (exact absurd hc6 (by decide)) | (exact absurd (by decide) hc6) | (simp at hc6; done) | (exfalso; omega))
     refine G_off rfl rfl rfl rfl ?_
     refine G_off rfl rfl rfl rfl ?_
     refine G_off rfl rfl rfl rfl ?_
     refine G_val rfl rfl rfl rfl (V_pickF rfl rfl rfl) ?_
     refine G_val rfl rfl rfl rfl (V_move rfl rfl) ?_
     refine G_val rfl rfl rfl rfl (V_fieldAddr (fo := 0) rfl Try.underlying91 rfl infLawSuperFalls_3 rfl rfl rfl) ?_
     refine G_val rfl rfl rfl rfl (V_load1 rfl rfl (mem_at 4 rfl) rfl Try.underlying3 rfl) ?_
     refine G_val rfl rfl rfl rfl (V_lss rfl rfl rfl) ?_
     refine G_val rfl rfl rfl rfl (V_move rfl rfl) ?_
     refine G_splitD 68 rfl (fun hc7 => ?_) (fun hc7 => ?_)
     · (first | (exact absurd rfl hc7) | (exact absurd hc7 (by decide)) | (exact absurd (by decide) hc7) | (simp at hc7; done) | (exfalso; omega))
     refine G_val rfl rfl rfl rfl (V_fieldAddr (fo := 0) rfl Try.underlying91 rfl infLawSuperFalls_3 rfl rfl rfl) ?_
     refine G_val rfl rfl rfl rfl (V_load1 rfl rfl (mem_at 4 rfl) rfl Try.underlying3 rfl) ?_
     refine G_val rfl rfl rfl rfl (V_geq rfl rfl rfl) ?_
     refine G_val rfl rfl rfl rfl (V_pickF rfl rfl rfl) ?_
     refine G_val rfl rfl rfl rfl (V_move rfl rfl) ?_
     refine G_splitD 73 rfl (fun hc8 => ?_) (fun hc8 => ?_)
     rotate_left
     · (first | (exact absurd rfl hc8) | (exact absurd hc8 (by decide)) | (exact absurd (by decide) hc8) | (simp at hc8; done) | (exfalso; omega))
     refine G_val rfl rfl rfl rfl (V_move rfl rfl) ?_
     refine G_call (L2 := [_, _, _, _, _, _]) rfl rfl rfl rfl rfl rfl Try.call52 (sl_num _) [] [] rfl rfl ?_
     rintro v post ⟨rfl, rfl⟩
     show G _ _ _ [_, _, _, _, _, _] _
     refine G_val rfl rfl rfl rfl (V_neq rfl rfl rfl) ?_
     refine G_val rfl rfl rfl rfl (V_pickT rfl rfl rfl) ?_
     refine G_val rfl rfl rfl rfl (V_pickF rfl rfl rfl) ?_
     refine G_done ?_
     refine G_ifD rfl (fun hc9 => ?_) (fun hc9 => ?_)
     · (first | (exact absurd rfl hc9) | (exact absurd hc9 (by decide)) | (exact absurd (by decide) hc9) | (simp at hc9; done) | (exfalso; omega))
     refine G_skip ?_
     refine G_seq ?_
     refine G_region (l := [0, 1, 2, 3, 4]) rfl ?_
     refine G_val rfl rfl rfl rfl (V_move rfl rfl) ?_
     refine G_val rfl rfl rfl rfl (V_fieldAddr (fo := 1) rfl Try.underlying91 rfl infLawSuperFalls_50 rfl rfl rfl) ?_
     refine G_val rfl rfl rfl rfl (V_load1 rfl rfl (mem_at 4 rfl) rfl Try.underlying50 rfl) ?_
     refine G_call (L2 := [_, _, _]) rfl rfl rfl rfl rfl rfl Try.call38 (dk_crash d1 2 lb1 cap1 cs1 uw1 (storeK (kB s z) (nx s t)) h1 _ _ _ _ _ _ ks hk) [0, 0, 0] [0] rfl rfl ?_
     rintro v post ⟨rfl, cs1, h1, rfl⟩
     show G _ _ _ [_, _, _, _, _, _] _
     refine G_val rfl rfl rfl rfl (V_assign rfl rfl) ?_
     refine G_done ?_
     refine G_seq ?_
     rcases hfl with hfl | ⟨hfl, hz2, hz3⟩
     · skip
       refine G_region (l := [0, 1, 2, 3, 4, 5, 6, 7]) rfl ?_
       refine G_val rfl rfl rfl rfl (V_move rfl rfl) ?_
       refine G_call (L2 := [_, _, _, _, _, _]) rfl rfl rfl rfl rfl rfl Try.call58 ((sup_load d1 2 lb1 cap1 cs1 slNil ((storeK (kB s z) (nx s t)).crash ks) h1).weaken (fun v post h => by rw [hL0, hfl] at h; exact h)) [] [1, 2, 3] rfl rfl ?_
       rintro v post ⟨rfl, rfl⟩
       show G _ _ _ [_, _, _, _, _, _] _
       refine G_val rfl rfl rfl rfl (V_move rfl rfl) ?_
       refine G_val rfl rfl rfl rfl (V_extract rfl rfl rfl) ?_
       refine G_val rfl rfl rfl rfl (V_extract rfl rfl rfl) ?_
       refine G_new rfl rfl rfl rfl (N_allocA rfl infLawSuperFalls_75 rfl) (fun b12 => ?_)
       refine G_put (l1 := []) (L' := [_, _, _, _, _, _, _]) rfl rfl rfl rfl (P_storeA (s := 5) rfl rfl rfl (mem_at 0 rfl) (by first | rfl | (simp [bcells_length, spCells, pCells, spCells, pCells, wCells, kCells, wCells, kCells, wCells, kCells, spCells, pCells, wCells, kCells, spCells, pCells, wCells, kCells, spCells, pCells, wCells, kCells, spCells, pCells, wCells, kCells]; done) | (simp [bcells_length, spCells, pCells, spCells, pCells, wCells, kCells, wCells, kCells, wCells, kCells, spCells, pCells, wCells, kCells, spCells, pCells, wCells, kCells, spCells, pCells, wCells, kCells, spCells, pCells, wCells, kCells]; omega) | (simp [bcells_length, *, spCells, pCells, spCells, pCells, wCells, kCells, wCells, kCells, wCells, kCells, spCells, pCells, wCells, kCells, spCells, pCells, wCells, kCells, spCells, pCells, wCells, kCells, spCells, pCells, wCells, kCells]; done)) infLawSuperFalls_75 rfl (by first | rfl | (simp [bcells_length, spCells, pCells, spCells, pCells, wCells, kCells, wCells, kCells, wCells, kCells, spCells, pCells, wCells, kCells, spCells, pCells, wCells, kCells, spCells, pCells, wCells, kCells, spCells, pCells, wCells, kCells]; done) | (simp [bcells_length, spCells, pCells, spCells, pCells, wCells, kCells, wCells, kCells, wCells, kCells, spCells, pCells, wCells, kCells, spCells, pCells, wCells, kCells, spCells, pCells, wCells, kCells, spCells, pCells, wCells, kCells]; omega) | (simp [bcells_length, *, spCells, pCells, spCells, pCells, wCells, kCells, wCells, kCells, wCells, kCells, spCells, pCells, wCells, kCells, spCells, pCells, wCells, kCells, spCells, pCells, wCells, kCells, spCells, pCells, wCells, kCells]; done)) (by first | rfl | exact bcells_all _ | (simp [Value.oneCell', spCells, pCells, spCells, pCells, wCells, kCells, wCells, kCells, wCells, kCells, spCells, pCells, wCells, kCells, spCells, pCells, wCells, kCells, spCells, pCells, wCells, kCells, spCells, pCells, wCells, kCells]; done) | (simp [Value.oneCell', *, spCells, pCells, spCells, pCells, wCells, kCells, wCells, kCells, wCells, kCells, spCells, pCells, wCells, kCells, spCells, pCells, wCells, kCells, spCells, pCells, wCells, kCells, spCells, pCells, wCells, kCells]; done))) rfl ?_
       refine G_val rfl rfl rfl rfl (V_assign rfl rfl) ?_
       refine G_done ?_
       refine G_seq ?_
       refine G_region (l := [0, 1, 2, 3, 4, 5, 6, 7, 8, 9, 10, 11, 12, 13, 14, 15, 16, 17, 18, 19, 20, 21, 22, 23, 24, 25, 26, 27, 28, 29, 30, 31, 32, 33, 34, 35, 36]) rfl ?_
       refine G_val rfl rfl rfl rfl (V_move rfl rfl) ?_
       refine G_call (L2 := [_, _, _, _, _, _, _]) rfl rfl rfl rfl rfl rfl Try.call52 (sl_num _) [] [] rfl rfl ?_
       rintro v post ⟨rfl, rfl⟩
       show G _ _ _ [_, _, _, _, _, _, _] _
       refine G_val rfl rfl rfl rfl (V_eql rfl rfl rfl) ?_
       refine G_val rfl rfl rfl rfl (V_move rfl rfl) ?_
       refine G_splitD 91 rfl (fun hc10 => ?_) (fun hc10 => ?_)
       rotate_left
       · (first | (exact absurd rfl hc10) | (exact absurd hc10 (by decide)) | (exact absurd (by decide) hc10) | (simp at hc10; done) | (exfalso; omega))
       refine G_val rfl rfl rfl rfl (V_move rfl rfl) ?_
       refine G_call (L2 := [_, _, _, _, _, _, _]) rfl rfl rfl rfl rfl rfl Try.call52 (sl_num _) [] [] rfl rfl ?_
       rintro v post ⟨rfl, rfl⟩
       show G _ _ _ [_, _, _, _, _, _, _] _
       refine G_val rfl rfl rfl rfl (V_eql rfl rfl rfl) ?_
       refine G_val rfl rfl rfl rfl (V_pickT rfl rfl rfl) ?_
       refine G_val rfl rfl rfl rfl (V_move rfl rfl) ?_
       refine G_splitD 96 rfl (fun hc11 => ?_) (fun hc11 => ?_)
       rotate_left
       · (first | (exact absurd rfl hc11) | (exact absurd hc11 (by decide)) | (exact absurd (by decide) hc11) | (simp at hc11; done) | (exfalso; omega))
       refine G_val rfl rfl rfl rfl (V_move rfl rfl) ?_
       refine G_call (L2 := [_, _, _, _, _, _, _]) rfl rfl rfl rfl rfl rfl Try.call52 (sl_num _) [] [] rfl rfl ?_
       rintro v post ⟨rfl, rfl⟩
       show G _ _ _ [_, _, _, _, _, _, _] _
       refine G_val rfl rfl rfl rfl (V_eql rfl rfl rfl) ?_
       refine G_val rfl rfl rfl rfl (V_pickT rfl rfl rfl) ?_
       refine G_val rfl rfl rfl rfl (V_move rfl rfl) ?_
       refine G_splitD 101 rfl (fun hc12 => ?_) (fun hc12 => ?_)
       rotate_left
       · (first | (exact absurd rfl hc12) | (exact absurd hc12 (by decide)) | (exact absurd (by decide) hc12) | (simp at hc12; done) | (exfalso; omega))
       refine G_val rfl rfl rfl rfl (V_move rfl rfl) ?_
       refine G_call (L2 := [_, _, _, _, _, _, _]) rfl rfl rfl rfl rfl rfl Try.call52 (sl_num _) [] [] rfl rfl ?_
       rintro v post ⟨rfl, rfl⟩
       show G _ _ _ [_, _, _, _, _, _, _] _
       refine G_val rfl rfl rfl rfl (V_eql rfl rfl rfl) ?_
       refine G_val rfl rfl rfl rfl (V_pickT rfl rfl rfl) ?_
       refine G_val rfl rfl rfl rfl (V_move rfl rfl) ?_
       refine G_splitD 106 rfl (fun hc13 => ?_) (fun hc13 => ?_)
       rotate_left
       · (first | (exact absurd rfl hc13) | (exact absurd hc13 (by decide)) | (exact absurd (by decide) hc13) | (simp at hc13; done) | (exfalso; omega))
       first
         | refine G_val rfl rfl rfl rfl (V_loadW (s := 5) rfl rfl (mem_at 1 rfl) Try.underlying75 rfl infLawSuperFalls_75 rfl (by first | rfl | (simp [bcells_length, spCells, pCells, spCells, pCells, wCells, kCells, wCells, kCells, wCells, kCells, spCells, pCells, wCells, kCells, spCells, pCells, wCells, kCells, spCells, pCells, wCells, kCells, spCells, pCells, wCells, kCells]; done) | (simp [bcells_length, spCells, pCells, spCells, pCells, wCells, kCells, wCells, kCells, wCells, kCells, spCells, pCells, wCells, kCells, spCells, pCells, wCells, kCells, spCells, pCells, wCells, kCells, spCells, pCells, wCells, kCells]; omega) | (simp [bcells_length, *, spCells, pCells, spCells, pCells, wCells, kCells, wCells, kCells, wCells, kCells, spCells, pCells, wCells, kCells, spCells, pCells, wCells, kCells, spCells, pCells, wCells, kCells, spCells, pCells, wCells, kCells]; done))) ?_
         | refine G_val rfl rfl rfl rfl (V_loadA (s := 5) rfl rfl (mem_at 1 rfl) Try.underlying75 rfl infLawSuperFalls_75 rfl rfl (by first | rfl | (simp [bcells_length, spCells, pCells, spCells, pCells, wCells, kCells, wCells, kCells, wCells, kCells, spCells, pCells, wCells, kCells, spCells, pCells, wCells, kCells, spCells, pCells, wCells, kCells, spCells, pCells, wCells, kCells]; done) | (simp [bcells_length, spCells, pCells, spCells, pCells, wCells, kCells, wCells, kCells, wCells, kCells, spCells, pCells, wCells, kCells, spCells, pCells, wCells, kCells, spCells, pCells, wCells, kCells, spCells, pCells, wCells, kCells]; omega) | (simp [bcells_length, *, spCells, pCells, spCells, pCells, wCells, kCells, wCells, kCells, wCells, kCells, spCells, pCells, wCells, kCells, spCells, pCells, wCells, kCells, spCells, pCells, wCells, kCells, spCells, pCells, wCells, kCells]; done))) ?_
       first
         | refine G_val rfl rfl rfl rfl (V_loadW (s := 5) rfl rfl (mem_at 6 rfl) Try.underlying75 rfl infLawSuperFalls_75 rfl (by first | rfl | (simp [bcells_length, spCells, pCells, spCells, pCells, wCells, kCells, wCells, kCells, wCells, kCells, spCells, pCells, wCells, kCells, spCells, pCells, wCells, kCells, spCells, pCells, wCells, kCells, spCells, pCells, wCells, kCells]; done) | (simp [bcells_length, spCells, pCells, spCells, pCells, wCells, kCells, wCells, kCells, wCells, kCells, spCells, pCells, wCells, kCells, spCells, pCells, wCells, kCells, spCells, pCells, wCells, kCells, spCells, pCells, wCells, kCells]; omega) | (simp [bcells_length, *, spCells, pCells, spCells, pCells, wCells, kCells, wCells, kCells, wCells, kCells, spCells, pCells, wCells, kCells, spCells, pCells, wCells, kCells, spCells, pCells, wCells, kCells, spCells, pCells, wCells, kCells]; done))) ?_
         | refine G_val rfl rfl rfl rfl (V_loadA (s := 5) rfl rfl (mem_at 6 rfl) Try.underlying75 rfl infLawSuperFalls_75 rfl rfl (by first | rfl | (simp [bcells_length, spCells, pCells, spCells, pCells, wCells, kCells, wCells, kCells, wCells, kCells, spCells, pCells, wCells, kCells, spCells, pCells, wCells, kCells, spCells, pCells, wCells, kCells, spCells, pCells, wCells, kCells]; done) | (simp [bcells_length, spCells, pCells, spCells, pCells, wCells, kCells, wCells, kCells, wCells, kCells, spCells, pCells, wCells, kCells, spCells, pCells, wCells, kCells, spCells, pCells, wCells, kCells, spCells, pCells, wCells, kCells]; omega) | (simp [bcells_length, *, spCells, pCells, spCells, pCells, wCells, kCells, wCells, kCells, wCells, kCells, spCells, pCells, wCells, kCells, spCells, pCells, wCells, kCells, spCells, pCells, wCells, kCells, spCells, pCells, wCells, kCells]; done))) ?_
       refine G_val rfl rfl rfl rfl (V_aggeql (m := 6) rfl Try.eqGuardType75 (by kernel_rfl) (by decide) (formed_of Try.underlying75 rfl (by kernel_rfl : Try.prog.cellsOf 75 = 5) (by first | rfl | (simp [bcells_length, spCells, pCells, spCells, pCells, wCells, kCells, wCells, kCells, wCells, kCells, spCells, pCells, wCells, kCells, spCells, pCells, wCells, kCells, spCells, pCells, wCells, kCells, spCells, pCells, wCells, kCells]; done) | (simp [bcells_length, spCells, pCells, spCells, pCells, wCells, kCells, wCells, kCells, wCells, kCells, spCells, pCells, wCells, kCells, spCells, pCells, wCells, kCells, spCells, pCells, wCells, kCells, spCells, pCells, wCells, kCells]; omega) | (simp [bcells_length, *, spCells, pCells, spCells, pCells, wCells, kCells, wCells, kCells, wCells, kCells, spCells, pCells, wCells, kCells, spCells, pCells, wCells, kCells, spCells, pCells, wCells, kCells, spCells, pCells, wCells, kCells]; done))) (formed_of Try.underlying75 rfl (by kernel_rfl : Try.prog.cellsOf 75 = 5) (by first | rfl | (simp [bcells_length, spCells, pCells, spCells, pCells, wCells, kCells, wCells, kCells, wCells, kCells, spCells, pCells, wCells, kCells, spCells, pCells, wCells, kCells, spCells, pCells, wCells, kCells, spCells, pCells, wCells, kCells]; done) | (simp [bcells_length, spCells, pCells, spCells, pCells, wCells, kCells, wCells, kCells, wCells, kCells, spCells, pCells, wCells, kCells, spCells, pCells, wCells, kCells, spCells, pCells, wCells, kCells, spCells, pCells, wCells, kCells]; omega) | (simp [bcells_length, *, spCells, pCells, spCells, pCells, wCells, kCells, wCells, kCells, wCells, kCells, spCells, pCells, wCells, kCells, spCells, pCells, wCells, kCells, spCells, pCells, wCells, kCells, spCells, pCells, wCells, kCells]; done))) rfl rfl (key_sp _ hnk) (key_sp _ hnk)) ?_
       refine G_val rfl rfl rfl rfl (V_move rfl rfl) ?_
       refine G_splitD 110 rfl (fun hc14 => ?_) (fun hc14 => ?_)
       rotate_left
       · (first | (exact absurd rfl hc14) | (exact absurd hc14 (by decide)) | (exact absurd (by decide) hc14) | (simp at hc14; done) | (exfalso; omega))
       refine G_off rfl rfl rfl rfl ?_
       refine G_off rfl rfl rfl rfl ?_
       refine G_off rfl rfl rfl rfl ?_
       refine G_off rfl rfl rfl rfl ?_
       refine G_off rfl rfl rfl rfl ?_
       refine G_off rfl rfl rfl rfl ?_
       refine G_off rfl rfl rfl rfl ?_
       refine G_off rfl rfl rfl rfl ?_
       refine G_val rfl rfl rfl rfl (V_pickT rfl rfl rfl) ?_
       refine G_val rfl rfl rfl rfl (V_pickT rfl rfl rfl) ?_
       refine G_val rfl rfl rfl rfl (V_move rfl rfl) ?_
       refine G_call (L2 := [_, _, _, _, _, _, _]) rfl rfl rfl rfl rfl rfl Try.call47 (sl_live) [] [] rfl rfl ?_
       rintro v post ⟨rfl, rfl⟩
       show G _ _ _ [_, _, _, _, _, _, _] _
       refine G_val rfl rfl rfl rfl (V_pickT rfl rfl rfl) ?_
       refine G_val rfl rfl rfl rfl (V_assign rfl rfl) ?_
       refine G_done ?_
       refine G_ret (post := []) Try.func12 rfl (RVs_cons (RV_tmp rfl) RVs_nil) [] rfl ?_
       dsimp only [packed]
       exact ⟨rfl, rfl⟩
     · skip
       refine G_region (l := [0, 1, 2, 3, 4, 5, 6, 7]) rfl ?_
       refine G_val rfl rfl rfl rfl (V_move rfl rfl) ?_
       refine G_call (L2 := [_, _, _, _, _, _]) rfl rfl rfl rfl rfl rfl Try.call58 ((sup_load d1 2 lb1 cap1 cs1 slNil ((storeK (kB s z) (nx s t)).crash ks) h1).weaken (fun v post h => by rw [hL0, hfl] at h; exact h)) [] [1, 2, 3] rfl rfl ?_
       rintro v post ⟨rfl, rfl⟩
       show G _ _ _ [_, _, _, _, _, _] _
       refine G_val rfl rfl rfl rfl (V_move rfl rfl) ?_
       refine G_val rfl rfl rfl rfl (V_extract rfl rfl rfl) ?_
       refine G_val rfl rfl rfl rfl (V_extract rfl rfl rfl) ?_
       refine G_new rfl rfl rfl rfl (N_allocA rfl infLawSuperFalls_75 rfl) (fun b12 => ?_)
       refine G_put (l1 := []) (L' := [_, _, _, _, _, _, _]) rfl rfl rfl rfl (P_storeA (s := 5) rfl rfl rfl (mem_at 0 rfl) (by first | rfl | (simp [bcells_length, spCells, pCells, spCells, pCells, wCells, kCells, wCells, kCells, wCells, kCells, spCells, pCells, wCells, kCells, spCells, pCells, wCells, kCells, spCells, pCells, wCells, kCells, spCells, pCells, wCells, kCells]; done) | (simp [bcells_length, spCells, pCells, spCells, pCells, wCells, kCells, wCells, kCells, wCells, kCells, spCells, pCells, wCells, kCells, spCells, pCells, wCells, kCells, spCells, pCells, wCells, kCells, spCells, pCells, wCells, kCells]; omega) | (simp [bcells_length, *, spCells, pCells, spCells, pCells, wCells, kCells, wCells, kCells, wCells, kCells, spCells, pCells, wCells, kCells, spCells, pCells, wCells, kCells, spCells, pCells, wCells, kCells, spCells, pCells, wCells, kCells]; done)) infLawSuperFalls_75 rfl (by first | rfl | (simp [bcells_length, spCells, pCells, spCells, pCells, wCells, kCells, wCells, kCells, wCells, kCells, spCells, pCells, wCells, kCells, spCells, pCells, wCells, kCells, spCells, pCells, wCells, kCells, spCells, pCells, wCells, kCells]; done) | (simp [bcells_length, spCells, pCells, spCells, pCells, wCells, kCells, wCells, kCells, wCells, kCells, spCells, pCells, wCells, kCells, spCells, pCells, wCells, kCells, spCells, pCells, wCells, kCells, spCells, pCells, wCells, kCells]; omega) | (simp [bcells_length, *, spCells, pCells, spCells, pCells, wCells, kCells, wCells, kCells, wCells, kCells, spCells, pCells, wCells, kCells, spCells, pCells, wCells, kCells, spCells, pCells, wCells, kCells, spCells, pCells, wCells, kCells]; done)) (by first | rfl | exact bcells_all _ | (simp [Value.oneCell', spCells, pCells, spCells, pCells, wCells, kCells, wCells, kCells, wCells, kCells, spCells, pCells, wCells, kCells, spCells, pCells, wCells, kCells, spCells, pCells, wCells, kCells, spCells, pCells, wCells, kCells]; done) | (simp [Value.oneCell', *, spCells, pCells, spCells, pCells, wCells, kCells, wCells, kCells, wCells, kCells, spCells, pCells, wCells, kCells, spCells, pCells, wCells, kCells, spCells, pCells, wCells, kCells, spCells, pCells, wCells, kCells]; done))) rfl ?_
       refine G_val rfl rfl rfl rfl (V_assign rfl rfl) ?_
       refine G_done ?_
       refine G_seq ?_
       refine G_region (l := [0, 1, 2, 3, 4, 5, 6, 7, 8, 9, 10, 11, 12, 13, 14, 15, 16, 17, 18, 19, 20, 21, 22, 23, 24, 25, 26, 27, 28, 29, 30, 31, 32, 33, 34, 35, 36]) rfl ?_
       refine G_val rfl rfl rfl rfl (V_move rfl rfl) ?_
       refine G_call (L2 := [_, _, _, _, _, _, _]) rfl rfl rfl rfl rfl rfl Try.call52 (sl_num _) [] [] rfl rfl ?_
       rintro v post ⟨rfl, rfl⟩
       show G _ _ _ [_, _, _, _, _, _, _] _
       refine G_val rfl rfl rfl rfl (V_eql rfl rfl rfl) ?_
       refine G_val rfl rfl rfl rfl (V_move rfl rfl) ?_
       refine G_splitD 91 rfl (fun hc10 => ?_) (fun hc10 => ?_)
       · (first | (exact absurd rfl hc10) | (exact absurd hc10 (by decide)) | (exact absurd (by decide) hc10) | (simp at hc10; done) | (exfalso; omega))
       (first | (exact absurd rfl hc10) | (exact absurd hc10 (by decide)) | (exact absurd (by decide) hc10) | (simp at hc10; done) | (exfalso; omega))
   refine G_off rfl rfl rfl rfl ?_
   refine G_off rfl rfl rfl rfl ?_
   refine G_off rfl rfl rfl rfl ?_
   refine G_val rfl rfl rfl rfl (V_pickF rfl rfl rfl) ?_
   refine G_val rfl rfl rfl rfl (V_move rfl rfl) ?_
   refine G_off rfl rfl rfl rfl ?_
   refine G_off rfl rfl rfl rfl ?_
   refine G_off rfl rfl rfl rfl ?_
   refine G_val rfl rfl rfl rfl (V_pickF rfl rfl rfl) ?_
   refine G_val rfl rfl rfl rfl (V_move rfl rfl) ?_
   refine G_val rfl rfl rfl rfl (V_fieldAddr (fo := 0) rfl Try.underlying91 rfl infLawSuperFalls_3 rfl rfl rfl) ?_
   refine G_val rfl rfl rfl rfl (V_load1 rfl rfl (mem_at 4 rfl) rfl Try.underlying3 rfl) ?_
   refine G_val rfl rfl rfl rfl (V_lss rfl rfl rfl) ?_
   refine G_val rfl rfl rfl rfl (V_move rfl rfl) ?_
   refine G_splitD 68 rfl (fun hc6 => ?_) (fun hc6 => ?_)
   rotate_left
   · (first | (exact absurd rfl hc6) | (exact absurd hc6 (by decide)) | (exact absurd (by decide) hc6) | (simp at hc6; done) | (exfalso; omega))
   refine G_off rfl rfl rfl rfl ?_
   refine G_off rfl rfl rfl rfl ?_
   refine G_off rfl rfl rfl rfl ?_
   refine G_val rfl rfl rfl rfl (V_pickT rfl rfl rfl) ?_
   refine G_val rfl rfl rfl rfl (V_move rfl rfl) ?_
   refine G_val rfl rfl rfl rfl (V_move rfl rfl) ?_
   refine G_call (L2 := [_, _, _, _, _, _]) rfl rfl rfl rfl rfl rfl Try.call52 (sl_num _) [] [] rfl rfl ?_
   rintro v post ⟨rfl, rfl⟩
   show G _ _ _ [_, _, _, _, _, _] _
   refine G_val rfl rfl rfl rfl (V_neq rfl rfl rfl) ?_
   refine G_val rfl rfl rfl rfl (V_pickT rfl rfl rfl) ?_
   refine G_val rfl rfl rfl rfl (V_pickF rfl rfl rfl) ?_
   refine G_done ?_
   refine G_ifD rfl (fun hc7 => ?_) (fun hc7 => ?_)
   · (first | (exact absurd rfl hc7) | (exact absurd hc7 (by decide)) | (exact absurd (by decide) hc7) | (simp at hc7; done) | (exfalso; omega))
   refine G_skip ?_
   refine G_seq ?_
   refine G_region (l := [0, 1, 2, 3, 4]) rfl ?_
   refine G_val rfl rfl rfl rfl (V_move rfl rfl) ?_
   refine G_val rfl rfl rfl rfl (V_fieldAddr (fo := 1) rfl Try.underlying91 rfl infLawSuperFalls_50 rfl rfl rfl) ?_
   refine G_val rfl rfl rfl rfl (V_load1 rfl rfl (mem_at 4 rfl) rfl Try.underlying50 rfl) ?_
   refine G_call (L2 := [_, _, _]) rfl rfl rfl rfl rfl rfl Try.call38 (dk_crash d1 2 lb1 cap1 cs1 uw1 (storeK (kB s z) (nx s t)) h1 _ _ _ _ _ _ ks hk) [0, 0, 0] [0] rfl rfl ?_
   rintro v post ⟨rfl, cs1, h1, rfl⟩
   show G _ _ _ [_, _, _, _, _, _] _
   refine G_val rfl rfl rfl rfl (V_assign rfl rfl) ?_
   refine G_done ?_
   refine G_seq ?_
   rcases hfl with hfl | ⟨hfl, hz2, hz3⟩
   · skip
     refine G_region (l := [0, 1, 2, 3, 4, 5, 6, 7]) rfl ?_
     refine G_val rfl rfl rfl rfl (V_move rfl rfl) ?_
     refine G_call (L2 := [_, _, _, _, _, _]) rfl rfl rfl rfl rfl rfl Try.call58 ((sup_load d1 2 lb1 cap1 cs1 slNil ((storeK (kB s z) (nx s t)).crash ks) h1).weaken (fun v post h => by rw [hL0, hfl] at h; exact h)) [] [1, 2, 3] rfl rfl ?_
     rintro v post ⟨rfl, rfl⟩
     show G _ _ _ [_, _, _, _, _, _] _
     refine G_val rfl rfl rfl rfl (V_move rfl rfl) ?_
     refine G_val rfl rfl rfl rfl (V_extract rfl rfl rfl) ?_
     refine G_val rfl rfl rfl rfl (V_extract rfl rfl rfl) ?_
     refine G_new rfl rfl rfl rfl (N_allocA rfl infLawSuperFalls_75 rfl) (fun b12 => ?_)
     refine G_put (l1 := []) (L' := [_, _, _, _, _, _, _]) rfl rfl rfl rfl (P_storeA (s := 5) rfl rfl rfl (mem_at 0 rfl) (by first | rfl | (simp [bcells_length, spCells, pCells, spCells, pCells, wCells, kCells, wCells, kCells, wCells, kCells, spCells, pCells, wCells, kCells, spCells, pCells, wCells, kCells, spCells, pCells, wCells, kCells, spCells, pCells, wCells, kCells]; done) | (simp [bcells_length, spCells, pCells, spCells, pCells, wCells, kCells, wCells, kCells, wCells, kCells, spCells, pCells, wCells, kCells, spCells, pCells, wCells, kCells, spCells, pCells, wCells, kCells, spCells, pCells, wCells, kCells]; omega) | (simp [bcells_length, *, spCells, pCells, spCells, pCells, wCells, kCells, wCells, kCells, wCells, kCells, spCells, pCells, wCells, kCells, spCells, pCells, wCells, kCells, spCells, pCells, wCells, kCells, spCells, pCells, wCells, kCells]; done)) infLawSuperFalls_75 rfl (by first | rfl | (simp [bcells_length, spCells, pCells, spCells, pCells, wCells, kCells, wCells, kCells, wCells, kCells, spCells, pCells, wCells, kCells, spCells, pCells, wCells, kCells, spCells, pCells, wCells, kCells, spCells, pCells, wCells, kCells]; done) | (simp [bcells_length, spCells, pCells, spCells, pCells, wCells, kCells, wCells, kCells, wCells, kCells, spCells, pCells, wCells, kCells, spCells, pCells, wCells, kCells, spCells, pCells, wCells, kCells, spCells, pCells, wCells, kCells]; omega) | (simp [bcells_length, *, spCells, pCells, spCells, pCells, wCells, kCells, wCells, kCells, wCells, kCells, spCells, pCells, wCells, kCells, spCells, pCells, wCells, kCells, spCells, pCells, wCells, kCells, spCells, pCells, wCells, kCells]; done)) (by first | rfl | exact bcells_all _ | (simp [Value.oneCell', spCells, pCells, spCells, pCells, wCells, kCells, wCells, kCells, wCells, kCells, spCells, pCells, wCells, kCells, spCells, pCells, wCells, kCells, spCells, pCells, wCells, kCells, spCells, pCells, wCells, kCells]; done) | (simp [Value.oneCell', *, spCells, pCells, spCells, pCells, wCells, kCells, wCells, kCells, wCells, kCells, spCells, pCells, wCells, kCells, spCells, pCells, wCells, kCells, spCells, pCells, wCells, kCells, spCells, pCells, wCells, kCells]; done))) rfl ?_
     refine G_val rfl rfl rfl rfl (V_assign rfl rfl) ?_
     refine G_done ?_
     refine G_seq ?_
     refine G_region (l := [0, 1, 2, 3, 4, 5, 6, 7, 8, 9, 10, 11, 12, 13, 14, 15, 16, 17, 18, 19, 20, 21, 22, 23, 24, 25, 26, 27, 28, 29, 30, 31, 32, 33, 34, 35, 36]) rfl ?_
     refine G_val rfl rfl rfl rfl (V_move rfl rfl) ?_
     refine G_call (L2 := [_, _, _, _, _, _, _]) rfl rfl rfl rfl rfl rfl Try.call52 (sl_num _) [] [] rfl rfl ?_
     rintro v post ⟨rfl, rfl⟩
     show G _ _ _ [_, _, _, _, _, _, _] _
     refine G_val rfl rfl rfl rfl (V_eql rfl rfl rfl) ?_
     refine G_val rfl rfl rfl rfl (V_move rfl rfl) ?_
     refine G_splitD 91 rfl (fun hc8 => ?_) (fun hc8 => ?_)
     rotate_left
     · (first | (exact absurd rfl hc8) | (exact absurd hc8 (by decide)) | (exact absurd (by decide) hc8) | (simp at hc8; done) | (exfalso; omega))
     refine G_val rfl rfl rfl rfl (V_move rfl rfl) ?_
     refine G_call (L2 := [_, _, _, _, _, _, _]) rfl rfl rfl rfl rfl rfl Try.call52 (sl_num _) [] [] rfl rfl ?_
     rintro v post ⟨rfl, rfl⟩
     show G _ _ _ [_, _, _, _, _, _, _] _
     refine G_val rfl rfl rfl rfl (V_eql rfl rfl rfl) ?_
     refine G_val rfl rfl rfl rfl (V_pickT rfl rfl rfl) ?_
     refine G_val rfl rfl rfl rfl (V_move rfl rfl) ?_
     refine G_splitD 96 rfl (fun hc9 => ?_) (fun hc9 => ?_)
     rotate_left
     · (first | (exact absurd rfl hc9) | (exact absurd hc9 (by decide)) | (exact absurd (by decide) hc9) | (simp at hc9; done) | (exfalso; omega))
     refine G_val rfl rfl rfl rfl (V_move rfl rfl) ?_
     refine G_call (L2 := [_, _, _, _, _, _, _]) rfl rfl rfl rfl rfl rfl Try.call52 (sl_num _) [] [] rfl rfl ?_
     rintro v post ⟨rfl, rfl⟩
     show G _ _ _ [_, _, _, _, _, _, _] _
     refine G_val rfl rfl rfl rfl (V_eql rfl rfl rfl) ?_
     refine G_val rfl rfl rfl rfl (V_pickT rfl rfl rfl) ?_
     refine G_val rfl rfl rfl rfl (V_move rfl rfl) ?_
     refine G_splitD 101 rfl (fun hc10 => ?_) (fun hc10 => ?_)
     rotate_left
     · (first | (exact absurd rfl hc10) | (exact absurd hc10 (by decide)) | (exact absurd (by decide) hc10) | (simp at hc10; done) | (exfalso; omega))
     refine G_val rfl rfl rfl rfl (V_move rfl rfl) ?_
     refine G_call (L2 := [_, _, _, _, _, _, _]) rfl rfl rfl rfl rfl rfl Try.call52 (sl_num _) [] [] rfl rfl ?_
     rintro v post ⟨rfl, rfl⟩
     show G _ _ _ [_, _, _, _, _, _, _] _
     refine G_val rfl rfl rfl rfl (V_eql rfl rfl rfl) ?_
     refine G_val rfl rfl rfl rfl (V_pickT rfl rfl rfl) ?_
     refine G_val rfl rfl rfl rfl (V_move rfl rfl) ?_
     refine G_splitD 106 rfl (fun hc11 => ?_) (fun hc11 => ?_)
     rotate_left
     · (first | (exact absurd rfl hc11) | (exact absurd hc11 (by decide)) | (exact absurd (by decide) hc11) | (simp at hc11; done) | (exfalso; omega))
     first
       | refine G_val rfl rfl rfl rfl (V_loadW (s := 5) rfl rfl (mem_at 1 rfl) Try.underlying75 rfl infLawSuperFalls_75 rfl (by first | rfl | (simp [bcells_length, spCells, pCells, spCells, pCells, wCells, kCells, wCells, kCells, wCells, kCells, spCells, pCells, wCells, kCells, spCells, pCells, wCells, kCells, spCells, pCells, wCells, kCells, spCells, pCells, wCells, kCells]; done) | (simp [bcells_length, spCells, pCells, spCells, pCells, wCells, kCells, wCells, kCells, wCells, kCells, spCells, pCells, wCells, kCells, spCells, pCells, wCells, kCells, spCells, pCells, wCells, kCells, spCells, pCells, wCells, kCells]; omega) | (simp [bcells_length, *, spCells, pCells, spCells, pCells, wCells, kCells, wCells, kCells, wCells, kCells, spCells, pCells, wCells, kCells, spCells, pCells, wCells, kCells, spCells, pCells, wCells, kCells, spCells, pCells, wCells, kCells]; done))) ?_
       | refine G_val rfl rfl rfl rfl (V_loadA (s := 5) rfl rfl (mem_at 1 rfl) Try.underlying75 rfl infLawSuperFalls_75 rfl rfl (by first | rfl | (simp [bcells_length, spCells, pCells, spCells, pCells, wCells, kCells, wCells, kCells, wCells, kCells, spCells, pCells, wCells, kCells, spCells, pCells, wCells, kCells, spCells, pCells, wCells, kCells, spCells, pCells, wCells, kCells]; done) | (simp [bcells_length, spCells, pCells, spCells, pCells, wCells, kCells, wCells, kCells, wCells, kCells, spCells, pCells, wCells, kCells, spCells, pCells, wCells, kCells, spCells, pCells, wCells, kCells, spCells, pCells, wCells, kCells]; omega) | (simp [bcells_length, *, spCells, pCells, spCells, pCells, wCells, kCells, wCells, kCells, wCells, kCells, spCells, pCells, wCells, kCells, spCells, pCells, wCells, kCells, spCells, pCells, wCells, kCells, spCells, pCells, wCells, kCells]; done))) ?_
     first
       | refine G_val rfl rfl rfl rfl (V_loadW (s := 5) rfl rfl (mem_at 6 rfl) Try.underlying75 rfl infLawSuperFalls_75 rfl (by first | rfl | (simp [bcells_length, spCells, pCells, spCells, pCells, wCells, kCells, wCells, kCells, wCells, kCells, spCells, pCells, wCells, kCells, spCells, pCells, wCells, kCells, spCells, pCells, wCells, kCells, spCells, pCells, wCells, kCells]; done) | (simp [bcells_length, spCells, pCells, spCells, pCells, wCells, kCells, wCells, kCells, wCells, kCells, spCells, pCells, wCells, kCells, spCells, pCells, wCells, kCells, spCells, pCells, wCells, kCells, spCells, pCells, wCells, kCells]; omega) | (simp [bcells_length, *, spCells, pCells, spCells, pCells, wCells, kCells, wCells, kCells, wCells, kCells, spCells, pCells, wCells, kCells, spCells, pCells, wCells, kCells, spCells, pCells, wCells, kCells, spCells, pCells, wCells, kCells]; done))) ?_
       | refine G_val rfl rfl rfl rfl (V_loadA (s := 5) rfl rfl (mem_at 6 rfl) Try.underlying75 rfl infLawSuperFalls_75 rfl rfl (by first | rfl | (simp [bcells_length, spCells, pCells, spCells, pCells, wCells, kCells, wCells, kCells, wCells, kCells, spCells, pCells, wCells, kCells, spCells, pCells, wCells, kCells, spCells, pCells, wCells, kCells, spCells, pCells, wCells, kCells]; done) | (simp [bcells_length, spCells, pCells, spCells, pCells, wCells, kCells, wCells, kCells, wCells, kCells, spCells, pCells, wCells, kCells, spCells, pCells, wCells, kCells, spCells, pCells, wCells, kCells, spCells, pCells, wCells, kCells]; omega) | (simp [bcells_length, *, spCells, pCells, spCells, pCells, wCells, kCells, wCells, kCells, wCells, kCells, spCells, pCells, wCells, kCells, spCells, pCells, wCells, kCells, spCells, pCells, wCells, kCells, spCells, pCells, wCells, kCells]; done))) ?_
     refine G_val rfl rfl rfl rfl (V_aggeql (m := 6) rfl Try.eqGuardType75 (by kernel_rfl) (by decide) (formed_of Try.underlying75 rfl (by kernel_rfl : Try.prog.cellsOf 75 = 5) (by first | rfl | (simp [bcells_length, spCells, pCells, spCells, pCells, wCells, kCells, wCells, kCells, wCells, kCells, spCells, pCells, wCells, kCells, spCells, pCells, wCells, kCells, spCells, pCells, wCells, kCells, spCells, pCells, wCells, kCells]; done) | (simp [bcells_length, spCells, pCells, spCells, pCells, wCells, kCells, wCells, kCells, wCells, kCells, spCells, pCells, wCells, kCells, spCells, pCells, wCells, kCells, spCells, pCells, wCells, kCells, spCells, pCells, wCells, kCells]; omega) | (simp [bcells_length, *, spCells, pCells, spCells, pCells, wCells, kCells, wCells, kCells, wCells, kCells, spCells, pCells, wCells, kCells, spCells, pCells, wCells, kCells, spCells, pCells, wCells, kCells, spCells, pCells, wCells, kCells]; done))) (formed_of Try.underlying75 rfl (by kernel_rfl : Try.prog.cellsOf 75 = 5) (by first | rfl | (simp [bcells_length, spCells, pCells, spCells, pCells, wCells, kCells, wCells, kCells, wCells, kCells, spCells, pCells, wCells, kCells, spCells, pCells, wCells, kCells, spCells, pCells, wCells, kCells, spCells, pCells, wCells, kCells]; done) | (simp [bcells_length, spCells, pCells, spCells, pCells, wCells, kCells, wCells, kCells, wCells, kCells, spCells, pCells, wCells, kCells, spCells, pCells, wCells, kCells, spCells, pCells, wCells, kCells, spCells, pCells, wCells, kCells]; omega) | (simp [bcells_length, *, spCells, pCells, spCells, pCells, wCells, kCells, wCells, kCells, wCells, kCells, spCells, pCells, wCells, kCells, spCells, pCells, wCells, kCells, spCells, pCells, wCells, kCells, spCells, pCells, wCells, kCells]; done))) rfl rfl (key_sp _ hnk) (key_sp _ hnk)) ?_
     refine G_val rfl rfl rfl rfl (V_move rfl rfl) ?_
     refine G_splitD 110 rfl (fun hc12 => ?_) (fun hc12 => ?_)
     rotate_left
     · (first | (exact absurd rfl hc12) | (exact absurd hc12 (by decide)) | (exact absurd (by decide) hc12) | (simp at hc12; done) | (exfalso; omega))
     refine G_off rfl rfl rfl rfl ?_
     refine G_off rfl rfl rfl rfl ?_
     refine G_off rfl rfl rfl rfl ?_
     refine G_off rfl rfl rfl rfl ?_
     refine G_off rfl rfl rfl rfl ?_
     refine G_off rfl rfl rfl rfl ?_
     refine G_off rfl rfl rfl rfl ?_
     refine G_off rfl rfl rfl rfl ?_
     refine G_val rfl rfl rfl rfl (V_pickT rfl rfl rfl) ?_
     refine G_val rfl rfl rfl rfl (V_pickT rfl rfl rfl) ?_
     refine G_val rfl rfl rfl rfl (V_move rfl rfl) ?_
     refine G_call (L2 := [_, _, _, _, _, _, _]) rfl rfl rfl rfl rfl rfl Try.call47 (sl_live) [] [] rfl rfl ?_
     rintro v post ⟨rfl, rfl⟩
     show G _ _ _ [_, _, _, _, _, _, _] _
     refine G_val rfl rfl rfl rfl (V_pickT rfl rfl rfl) ?_
     refine G_val rfl rfl rfl rfl (V_assign rfl rfl) ?_
     refine G_done ?_
     refine G_ret (post := []) Try.func12 rfl (RVs_cons (RV_tmp rfl) RVs_nil) [] rfl ?_
     dsimp only [packed]
     exact ⟨rfl, rfl⟩
   · skip
     refine G_region (l := [0, 1, 2, 3, 4, 5, 6, 7]) rfl ?_
     refine G_val rfl rfl rfl rfl (V_move rfl rfl) ?_
     refine G_call (L2 := [_, _, _, _, _, _]) rfl rfl rfl rfl rfl rfl Try.call58 ((sup_load d1 2 lb1 cap1 cs1 slNil ((storeK (kB s z) (nx s t)).crash ks) h1).weaken (fun v post h => by rw [hL0, hfl] at h; exact h)) [] [1, 2, 3] rfl rfl ?_
     rintro v post ⟨rfl, rfl⟩
     show G _ _ _ [_, _, _, _, _, _] _
     refine G_val rfl rfl rfl rfl (V_move rfl rfl) ?_
     refine G_val rfl rfl rfl rfl (V_extract rfl rfl rfl) ?_
     refine G_val rfl rfl rfl rfl (V_extract rfl rfl rfl) ?_
     refine G_new rfl rfl rfl rfl (N_allocA rfl infLawSuperFalls_75 rfl) (fun b12 => ?_)
     refine G_put (l1 := []) (L' := [_, _, _, _, _, _, _]) rfl rfl rfl rfl (P_storeA (s := 5) rfl rfl rfl (mem_at 0 rfl) (by first | rfl | (simp [bcells_length, spCells, pCells, spCells, pCells, wCells, kCells, wCells, kCells, wCells, kCells, spCells, pCells, wCells, kCells, spCells, pCells, wCells, kCells, spCells, pCells, wCells, kCells, spCells, pCells, wCells, kCells]; done) | (simp [bcells_length, spCells, pCells, spCells, pCells, wCells, kCells, wCells, kCells, wCells, kCells, spCells, pCells, wCells, kCells, spCells, pCells, wCells, kCells, spCells, pCells, wCells, kCells, spCells, pCells, wCells, kCells]; omega) | (simp [bcells_length, *, spCells, pCells, spCells, pCells, wCells, kCells, wCells, kCells, wCells, kCells, spCells, pCells, wCells, kCells, spCells, pCells, wCells, kCells, spCells, pCells, wCells, kCells, spCells, pCells, wCells, kCells]; done)) infLawSuperFalls_75 rfl (by first | rfl | (simp [bcells_length, spCells, pCells, spCells, pCells, wCells, kCells, wCells, kCells, wCells, kCells, spCells, pCells, wCells, kCells, spCells, pCells, wCells, kCells, spCells, pCells, wCells, kCells, spCells, pCells, wCells, kCells]; done) | (simp [bcells_length, spCells, pCells, spCells, pCells, wCells, kCells, wCells, kCells, wCells, kCells, spCells, pCells, wCells, kCells, spCells, pCells, wCells, kCells, spCells, pCells, wCells, kCells, spCells, pCells, wCells, kCells]; omega) | (simp [bcells_length, *, spCells, pCells, spCells, pCells, wCells, kCells, wCells, kCells, wCells, kCells, spCells, pCells, wCells, kCells, spCells, pCells, wCells, kCells, spCells, pCells, wCells, kCells, spCells, pCells, wCells, kCells]; done)) (by first | rfl | exact bcells_all _ | (simp [Value.oneCell', spCells, pCells, spCells, pCells, wCells, kCells, wCells, kCells, wCells, kCells, spCells, pCells, wCells, kCells, spCells, pCells, wCells, kCells, spCells, pCells, wCells, kCells, spCells, pCells, wCells, kCells]; done) | (simp [Value.oneCell', *, spCells, pCells, spCells, pCells, wCells, kCells, wCells, kCells, wCells, kCells, spCells, pCells, wCells, kCells, spCells, pCells, wCells, kCells, spCells, pCells, wCells, kCells, spCells, pCells, wCells, kCells]; done))) rfl ?_
     refine G_val rfl rfl rfl rfl (V_assign rfl rfl) ?_
     refine G_done ?_
     refine G_seq ?_
     refine G_region (l := [0, 1, 2, 3, 4, 5, 6, 7, 8, 9, 10, 11, 12, 13, 14, 15, 16, 17, 18, 19, 20, 21, 22, 23, 24, 25, 26, 27, 28, 29, 30, 31, 32, 33, 34, 35, 36]) rfl ?_
     refine G_val rfl rfl rfl rfl (V_move rfl rfl) ?_
     refine G_call (L2 := [_, _, _, _, _, _, _]) rfl rfl rfl rfl rfl rfl Try.call52 (sl_num _) [] [] rfl rfl ?_
     rintro v post ⟨rfl, rfl⟩
     show G _ _ _ [_, _, _, _, _, _, _] _
     refine G_val rfl rfl rfl rfl (V_eql rfl rfl rfl) ?_
     refine G_val rfl rfl rfl rfl (V_move rfl rfl) ?_
     refine G_splitD 91 rfl (fun hc8 => ?_) (fun hc8 => ?_)
     · (first | (exact absurd rfl hc8) | (exact absurd hc8 (by decide)) | (exact absurd (by decide) hc8) | (simp at hc8; done) | (exfalso; omega))
     (first | (exact absurd rfl hc8) | (exact absurd hc8 (by decide)) | (exact absurd (by decide) hc8) | (simp at hc8; done) | (exfalso; omega))


set_option maxRecDepth 100000 in
theorem fall_types : Try.prog.cellTypes Try.prog.depth 91 = some [3, 50] := by kernel_rfl
instance : Inhabited (Int × Int) := ⟨(0, 0)⟩
theorem keep_of {W : World} {es : List Value} (hl : es.length = 2) (h : Reads Try.prog W 61 es) : ∃ x : Int × Int, es = kCells x ∧ True := by
  match es, hl with
  | [v0, v1], _ =>
    obtain ⟨n0, e0, _⟩ := reads_int (reads_field (s := 1) (vs := [v0]) h Try.underlying61 0 _ rfl (by kernel_rfl) rfl) Try.underlying3
    obtain ⟨n1, e1, _⟩ := reads_int (reads_field (s := 1) (vs := [v1]) h Try.underlying61 1 _ rfl (by kernel_rfl) rfl) Try.underlying3
    simp only [List.cons.injEq, and_true] at e0 e1
    subst e0 e1
    exact ⟨(n0, n1), rfl, trivial⟩
set_option maxRecDepth 100000 in
theorem superFalls_walk : LawWalk 12 Try.f12 := lawwalk_reads (fun W base args hs hval => by
  rw [Try.params12] at hs hval
  obtain ⟨l⟩ := args
  match l, hs with
  | [a, b, c], _ =>
    obtain ⟨s, rfl, hq⟩ := sp_of (hval 0 75 a rfl rfl).1
    obtain ⟨t, rfl, ht⟩ := sp_of (hval 1 75 b rfl rfl).1
    obtain ⟨h0, hr⟩ := hval 2 91 c rfl rfl
    obtain ⟨cs, rfl, hl, hc⟩ := okv_agg (s := 2) h0 Try.underlying91 rfl fall_types (by kernel_rfl) rfl
    match cs, hl, hc, hr with
    | [v0, v1], _, hc, hr =>
      obtain ⟨z, rfl, x0, y0⟩ := okc_int (hc 0 v0 3 rfl rfl) Try.underlying3
      obtain ⟨ob, off, cap, c, T, fr, ks, rfl, hk, _, hb⟩ := reads_slice (sz := 2) (reads_field (s := 1) (vs := [v1]) hr Try.underlying91 1 _ rfl (by kernel_rfl) rfl) Try.underlying50 (by kernel_rfl) rfl (hc 1 v1 50 rfl rfl) kCells k_len (fun _ => True) (fun es hl h => keep_of hl h)
      exact ⟨_, has_cons (has_nil _) hb, superFalls_all s t hq ht z y0 ob off cap c T fr ks hk⟩)


theorem superFalls_holds : Rows.SuperFallsSaid :=
  OpenClaim.holds_of_wide 12 Try.f12 rfl rfl rfl rfl rfl rfl rfl ⟨rfl, rfl, rfl, rfl, rfl⟩ rfl rfl rfl rfl rfl (by kernel_rfl) Try.func12 (by kernel_rfl)
    (of_decide_eq_true (by kernel_rfl)) (by unfold Func.isWrapper; rw [if_neg (by decide +kernel)]; exact ⟨rfl, rfl⟩)
    (fun os started H enc _ => law_lifted (s := Rows.superFallsSpec) os started H enc Try.func12 (by kernel_rfl)
      (ChangeSpec.witness6 (enc := enc) (C := Try.checked) false ⟨#[], #[.agg #[.int .u32 0, .int .u32 0, .int .u32 0, .int .i64 0, .int .i64 0], .agg #[.int .u32 0, .int .u32 0, .int .u32 0, .int .i64 0, .int .i64 0], .agg #[.int .i64 0, .slice none 0 0]], []⟩ 8 (by kernel_rfl) (by kernel_rfl) (by kernel_rfl) (by kernel_rfl))
      rfl (by kernel_rfl) (by kernel_rfl) (by decide +kernel) (fun ds h => by match ds, h with | [_, _, _], _ => rfl) superFalls_walk)
#print axioms superFalls_holds

end
end Go.Proofs.Ytkidmbaakdaflaa
