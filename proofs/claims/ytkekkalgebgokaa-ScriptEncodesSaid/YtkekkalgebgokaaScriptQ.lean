/- Events of a script in plain lists: which may be, each as bytes; how they lie in memory. -/
import Derived.Test.YtkekkalgebgokaaRdg
import Derived.Test.YtkekkalgebgokaaG18
set_option linter.unusedSimpArgs false
set_option linter.unusedVariables false
namespace Go.Proofs.Ytkekkalgebgokaa
open Go Go.RowKit

section



/-- An event of a script. -/
structure Ev where
  kd : Int
  b : List UInt8
  t : Nat
  f : Int
  ks : List (Int × Int)
deriving DecidableEq
def zeroE : Ev := ⟨0, [], 0, 0, []⟩
def badK (x : Int × Int) : Bool := decide (x.1 < 0 ∨ 1099511627776 < x.1 ∨ x.2 < 0 ∨ 64 < x.2)
/-- Which events may be. -/
def MayE (e : Ev) : Prop := (1 ≤ e.kd ∧ e.kd ≤ 3) ∧ e.b.length ≤ 600 ∧ (e.kd = 2 → e.b = []) ∧ (e.kd ≠ 3 → e.f = 0 ∧ e.ks = []) ∧ (-1 ≤ e.f ∧ e.f < 1099511627776) ∧ e.ks.length ≤ 64 ∧ ∀ x ∈ e.ks, badK x = false
instance (e : Ev) : Decidable (MayE e) := by unfold MayE; infer_instance
def GoodK (x : Int × Int) : Prop := badK x = false
theorem goodK {x : Int × Int} (h : badK x = false) : 0 ≤ x.1 ∧ x.1 ≤ 1099511627776 ∧ 0 ≤ x.2 ∧ x.2 ≤ 64 := by
  unfold badK at h; rw [decide_eq_false_iff_not] at h; omega
theorem goodK' {x : Int × Int} (h : 0 ≤ x.1 ∧ x.1 ≤ 1099511627776 ∧ 0 ≤ x.2 ∧ x.2 ≤ 64) : badK x = false := by
  unfold badK; rw [decide_eq_false_iff_not]; omega
def encK (x : Int × Int) : List UInt8 := chainI x.1 ++ chainI x.2
/-- What a letter tells of an event, as bytes. -/
def encE (e : Ev) : List UInt8 := chainI e.kd ++ (chainI (e.t : Int) ++ ((if e.kd = 2 then [] else text e.b) ++ (if e.kd = 3 then chainI (e.f + 1) ++ (chainI (e.ks.length : Int) ++ e.ks.flatMap encK) else [])))
theorem enc1 {e : Ev} (h : e.kd = 1) : encE e = chainI e.kd ++ (chainI (e.t : Int) ++ text e.b) := by unfold encE; rw [if_neg (by omega), if_neg (by omega), List.append_nil]
theorem enc2 {e : Ev} (h : e.kd = 2) : encE e = chainI e.kd ++ chainI (e.t : Int) := by unfold encE; rw [if_pos h, if_neg (by omega)]; simp
theorem enc3 {e : Ev} (h : e.kd = 3) : encE e = chainI e.kd ++ (chainI (e.t : Int) ++ (text e.b ++ (chainI (e.f + 1) ++ (chainI (e.ks.length : Int) ++ e.ks.flatMap encK)))) := by unfold encE; rw [if_neg (by omega), if_pos h]
def encS (es : List Ev) : List UInt8 := encList encE es
def MayS (es : List Ev) : Prop := (es.length : Int) ≤ 400 ∧ ∀ e ∈ es, MayE e
theorem encK_len {x : Int × Int} (h : badK x = false) : (encK x).length ≤ 20 := by
  obtain ⟨h1, h2, h3, h4⟩ := goodK h
  have a := chainI_len x.1 h1 (by omega)
  have b := chainI_len x.2 h3 (by omega)
  unfold encK; rw [List.length_append]; omega
theorem encKs_len : ∀ {ks : List (Int × Int)}, (∀ x ∈ ks, badK x = false) → (ks.flatMap encK).length ≤ 20 * ks.length
  | [], _ => by simp
  | x :: r, h => by
    have a := encK_len (h x (by simp))
    have b := encKs_len (ks := r) (fun y hy => h y (by simp [hy]))
    simp only [List.flatMap_cons, List.length_append, List.length_cons]; omega
theorem encE_len {e : Ev} (h : MayE e) (ht : e.t < 18446744073709551616) : (encE e).length ≤ 2000 := by
  obtain ⟨h1, h2, h3, h4, h5, h6, h7⟩ := h
  have a1 := chainI_len e.kd (by omega) (by omega)
  have a2 := chainI_len (e.t : Int) (by omega) (by omega)
  have a3 := text_len e.b (by omega)
  have a4 := chainI_len (e.f + 1) (by omega) (by omega)
  have a5 := chainI_len (e.ks.length : Int) (by omega) (by omega)
  have a6 := encKs_len h7
  rcases (by omega : e.kd = 1 ∨ e.kd = 2 ∨ e.kd = 3) with k | k | k
  · rw [enc1 k]; simp only [List.length_append]; omega
  · rw [enc2 k]; simp only [List.length_append]; omega
  · rw [enc3 k]; simp only [List.length_append]; omega
theorem encEs_len : ∀ {es : List Ev}, (∀ e ∈ es, MayE e ∧ e.t < 18446744073709551616) → (es.flatMap encE).length ≤ 2000 * es.length
  | [], _ => by simp
  | x :: r, h => by
    have a := encE_len (h x (by simp)).1 (h x (by simp)).2
    have b := encEs_len (es := r) (fun y hy => h y (by simp [hy]))
    simp only [List.flatMap_cons, List.length_append, List.length_cons]; omega
/-- One keep is read. -/
theorem rdg_k {l1 l2 l3 : List UInt8} {e1 e2 e3 a b : Nat} (ha : rdInt 1099511627776 l1 e1 = (a, l2, e2)) (hb : rdInt 64 l2 e2 = (b, l3, e3)) (he : e1 ≤ 1000) :
    Rdg encK GoodK l1 e1 ((a : Int), (b : Int)) l3 e3 ∧ GoodK ((a : Int), (b : Int)) ∧ l2.length ≤ l1.length ∧ e2 ≤ 1000 ∧ l3.length ≤ l1.length ∧ e3 ≤ 1000 := by
  have h1 := rdg_int 1099511627776 l1 e1 he (by omega)
  rw [ha] at h1
  have h2 := rdg_int 64 l2 e2 h1.err (by omega)
  rw [hb] at h2
  refine ⟨h1.seq h2 (fun x => x.1.toNat) (fun x => x.2.toNat) (by simp) (by simp) ?_ ?_ ?_ ?_, ?_, h1.len, h1.err, Nat.le_trans h2.len h1.len, h2.err⟩
  · intro x y hx hy e1 e2
    have k1 := goodK hx; have k2 := goodK hy
    exact Prod.ext (by omega) (by omega)
  · intro x hx
    have k1 := goodK hx
    unfold goodInt
    omega
  · intro k1 k2
    unfold goodInt at k1 k2
    exact goodK' (by simp only at *; omega)
  · intro x hx
    have k1 := goodK hx
    unfold encK encNum
    rw [Int.toNat_of_nonneg k1.1, Int.toNat_of_nonneg k1.2.2.1]
  · have k1 := (rdInt_bd 1099511627776 l1 e1 he (by omega)).1
    have k2 := (rdInt_bd 64 l2 e2 h1.err (by omega)).1
    rw [ha] at k1
    rw [hb] at k2
    exact goodK' (by simp only at *; omega)
theorem mayE_mk {kd f : Int} {b : List UInt8} {t : Nat} {ks : List (Int × Int)} (h1 : 1 ≤ kd ∧ kd ≤ 3) (h2 : b.length ≤ 600) (h3 : kd = 2 → b = []) (h4 : kd ≠ 3 → f = 0 ∧ ks = []) (h5 : -1 ≤ f ∧ f < 1099511627776) (h6 : ks.length ≤ 64) (h7 : ∀ x ∈ ks, badK x = false) : MayE ⟨kd, b, t, f, ks⟩ := ⟨h1, h2, h3, h4, h5, h6, h7⟩
def GoodE (e : Ev) : Prop := MayE e ∧ e.t < 18446744073709551616
def tailE (e : Ev) : List UInt8 := chainI (e.t : Int) ++ ((if e.kd = 2 then [] else text e.b) ++ (if e.kd = 3 then chainI (e.f + 1) ++ (chainI (e.ks.length : Int) ++ e.ks.flatMap encK) else []))
theorem enc_tail {e : Ev} (h : GoodE e) : encE e = encNum e.kd.toNat ++ tailE e := by
  have := h.1.1
  unfold encE tailE encNum; rw [Int.toNat_of_nonneg (by omega)]
theorem kd_ok {e : Ev} (h : GoodE e) : goodInt 3 e.kd.toNat := by
  have := h.1.1
  unfold goodInt; omega
theorem ev0 {l l0 : List UInt8} {e e0 n : Nat} (r0 : Rdg encNum (goodInt 3) l e n l0 e0) (hn : n = 0) : ∀ w r, e = 0 → GoodE w → l ≠ encE w ++ r :=
  r0.none (fun x => x.kd.toNat) tailE (fun _ h => enc_tail h) (fun _ h => kd_ok h) (fun x h => by have := h.1.1; omega)
theorem ev1 {l l0 l1 l2 s : List UInt8} {e e0 e1 e2 n tt : Nat} (r0 : Rdg encNum (goodInt 3) l e n l0 e0) (hn : n = 1) (r1 : Rdg encNum goodNum l0 e0 tt l1 e1) (r2 : Rdg text (goodStr 600) l1 e1 s l2 e2) : Rdg encE GoodE l e ⟨1, s, tt, 0, []⟩ l2 e2 := by
  subst hn
  refine r0.dep (r1.pair r2) (fun x => x.kd.toNat) tailE (fun x => (x.t, x.b)) (fun _ h => enc_tail h) (fun _ h => kd_ok h) ?_ ?_ ?_
  · intro x h hk
    have h1 := h.1.1
    obtain ⟨⟨_, h2, _⟩, h3⟩ := h
    refine ⟨?_, h3, by show (x.b.length : Int) ≤ 600; omega⟩
    unfold tailE encNum; rw [if_neg (by omega), if_neg (by omega), List.append_nil]
  · intro x h hk hp
    obtain ⟨k, b, t, f, ks⟩ := x
    obtain ⟨⟨h1, h2, h3, h4, h5⟩, h6⟩ := h
    simp only [Prod.mk.injEq] at hp hk h1 h4
    obtain ⟨rfl, rfl⟩ := hp
    obtain ⟨rfl, rfl⟩ := h4 (by omega)
    obtain rfl : k = 1 := by omega
    rfl
  · intro _ hg
    obtain ⟨g1, g2⟩ := hg
    unfold goodStr at g2
    refine ⟨⟨mayE_mk (by decide) (by simp only at g2; omega) (by intro h; omega) (by intro _; exact ⟨rfl, rfl⟩) (by decide) (by decide) (by simp), g1⟩, ?_⟩
    rw [enc1 rfl]; rfl
theorem ev2 {l l0 l1 : List UInt8} {e e0 e1 n tt : Nat} (r0 : Rdg encNum (goodInt 3) l e n l0 e0) (hn : n = 2) (r1 : Rdg encNum goodNum l0 e0 tt l1 e1) : Rdg encE GoodE l e ⟨2, [], tt, 0, []⟩ l1 e1 := by
  subst hn
  refine r0.dep r1 (fun x => x.kd.toNat) tailE (fun x => x.t) (fun _ h => enc_tail h) (fun _ h => kd_ok h) ?_ ?_ ?_
  · intro x h hk
    have h1 := h.1.1
    refine ⟨?_, h.2⟩
    unfold tailE encNum; rw [if_pos (by omega), if_neg (by omega)]; simp
  · intro x h hk hp
    obtain ⟨k, b, t, f, ks⟩ := x
    obtain ⟨⟨h1, h2, h3, h4, h5⟩, h6⟩ := h
    simp only at hp hk h1 h3 h4
    subst hp
    obtain ⟨rfl, rfl⟩ := h4 (by omega)
    obtain rfl := h3 (by omega)
    obtain rfl : k = 2 := by omega
    rfl
  · intro _ hg
    refine ⟨⟨mayE_mk (by decide) (by decide) (by intro _; rfl) (by intro _; exact ⟨rfl, rfl⟩) (by decide) (by decide) (by simp), hg⟩, ?_⟩
    rw [enc2 rfl]; rfl
theorem ev3 {l l0 l1 l2 l3 l4 s : List UInt8} {e e0 e1 e2 e3 e4 n tt z : Nat} {ks : List (Int × Int)} (r0 : Rdg encNum (goodInt 3) l e n l0 e0) (hn : n = 3) (r1 : Rdg encNum goodNum l0 e0 tt l1 e1) (r2 : Rdg text (goodStr 600) l1 e1 s l2 e2) (r3 : Rdg encNum (goodInt 1099511627776) l2 e2 z l3 e3)
    (r4 : Rdg (encList encK) (fun ks => (ks.length : Int) ≤ 64 ∧ ∀ x ∈ ks, GoodK x) l3 e3 ks l4 e4) : Rdg encE GoodE l e ⟨3, s, tt, (z : Int) - 1, ks⟩ l4 e4 := by
  subst hn
  refine r0.dep (r1.pair (r2.pair (r3.pair r4))) (fun x => x.kd.toNat) tailE (fun x => (x.t, x.b, (x.f + 1).toNat, x.ks)) (fun _ h => enc_tail h) (fun _ h => kd_ok h) ?_ ?_ ?_
  · intro x h hk
    have h1 := h.1.1
    obtain ⟨⟨_, h2, h3, h4, h5, h6, h7⟩, h8⟩ := h
    refine ⟨?_, h8, by show (x.b.length : Int) ≤ 600; omega, by show (((x.f + 1).toNat : Nat) : Int) ≤ 1099511627776; omega, by show (x.ks.length : Int) ≤ 64; omega, h7⟩
    unfold tailE encNum encList; rw [if_neg (by omega), if_pos (by omega)]
    simp only
    rw [Int.toNat_of_nonneg (show 0 ≤ x.f + 1 by omega)]
  · intro x h hk hp
    obtain ⟨k, b, t, f, ks⟩ := x
    obtain ⟨⟨h1, h2, h3, h4, h5, h6, h7⟩, h8⟩ := h
    simp only [Prod.mk.injEq] at hp hk h1 h5
    obtain ⟨rfl, rfl, rfl, rfl⟩ := hp
    obtain rfl : k = 3 := by omega
    rw [Int.toNat_of_nonneg (show 0 ≤ f + 1 by omega)]
    simp
  · intro _ hg
    obtain ⟨g1, g2, g3, g4, g5⟩ := hg
    unfold goodStr at g2
    unfold goodInt at g3
    refine ⟨⟨mayE_mk (by decide) (by simp only at g2; omega) (by intro h; omega) (by intro h; exact absurd rfl h) (by simp only at g3; omega) (by simp only at g4; omega) g5, g1⟩, ?_⟩
    rw [enc3 rfl]
    simp [encNum, encList]
/-- What is told of an event that was read. -/
def EvR (l : List UInt8) (e : Nat) (v : Ev) (l1 : List UInt8) (e1 : Nat) : Prop := Rdg encE GoodE l e v l1 e1 ∨ (v.kd = 0 ∧ ∀ w r, e = 0 → GoodE w → l ≠ encE w ++ r)
theorem goodK_bd {ks : List (Int × Int)} (h : ∀ x ∈ ks, GoodK x) : ∀ x ∈ ks, (-9223372036854775808 ≤ x.1 ∧ x.1 ≤ 9223372036854775807) ∧ (-9223372036854775808 ≤ x.2 ∧ x.2 ≤ 9223372036854775807) := fun x hx => by
  have := goodK (h x hx); omega
theorem goodKs_next {ks : List (Int × Int)} {y : Int × Int} (h : ∀ x ∈ ks, GoodK x) (hy : GoodK y) : ∀ x ∈ ks ++ [y], GoodK x := fun x hx => by
  rcases List.mem_append.1 hx with h1 | h1
  · exact h x h1
  · rw [List.mem_singleton.1 h1]; exact hy
/-- The letters of a kind. -/
def fieldsE (k : Int) : List UInt8 := if k = 1 then [116, 98] else if k = 2 then [116] else if k = 3 then [116, 98, 102, 107] else []
def hasE' (k : Int) (x : UInt8) : Bool := decide (0 ≤ Lib.indexByte (fieldsE k) x)
theorem fields_none {k : Int} (h : ¬ (1 ≤ k ∧ k ≤ 3)) : fieldsE k = [] := by
  unfold fieldsE; rw [if_neg (by omega), if_neg (by omega), if_neg (by omega)]
theorem kinds (k : Int) : k = 1 ∨ k = 2 ∨ k = 3 ∨ ¬ (1 ≤ k ∧ k ≤ 3) := by omega
/-- An event in memory: its list lies somewhere. -/
structure Em where
  v : Ev
  p : Option Addr
  ob : Option Nat
  off : Nat
  cap : Nat
  cs : Array Value
  T : TypeId
  fr : Nat × Nat
instance : Inhabited Em := ⟨⟨zeroE, none, none, 0, 0, #[], 0, (0, 0)⟩⟩
def kC (x : Int × Int) : List Value := [.int .i64 x.1, .int .i64 x.2]
theorem kC_len (x : Int × Int) : (kC x).length = 2 := rfl
def evS (m : Em) : Value := .slice m.p m.v.ks.length m.cap
def evV (e : Ev) (s : Value) : List Value := [.int .i64 e.kd, .string (bs e.b), .int .u64 (e.t : Int), .int .i64 e.f, s]
def evC (m : Em) : List Value := evV m.v (evS m)
theorem evC_len (m : Em) : (evC m).length = 5 := rfl
def evK (m : Em) : Option Nat × Obj := (m.ob, .cells m.cs m.T m.fr)
structure EmOk (m : Em) : Prop where
  k : -9223372036854775808 ≤ m.v.kd ∧ m.v.kd ≤ 9223372036854775807
  b : m.v.b.length ≤ 9223372036854775807
  t : m.v.t < 18446744073709551616
  f : -9223372036854775808 ≤ m.v.f ∧ m.v.f ≤ 9223372036854775807
  ks : ∀ x ∈ m.v.ks, (-9223372036854775808 ≤ x.1 ∧ x.1 ≤ 9223372036854775807) ∧ (-9223372036854775808 ≤ x.2 ∧ x.2 ≤ 9223372036854775807)
  le : m.v.ks.length ≤ m.cap
  max : m.cap ≤ 9223372036854775807
  sees : (m.p = m.ob.map (fun b => ⟨b, m.off, none⟩) ∧ Sees 2 m.ob m.off m.cap m.cs (m.v.ks.flatMap kC) m.v.ks.length) ∨ (m.v.ks = [] ∧ m.cap = 0)
theorem EmOk.isS {m : Em} (h : EmOk m) {i : Nat} (hi : i < m.v.ks.length) : ∃ b, m.ob = some b ∧ m.p = some ⟨b, m.off, none⟩ ∧ Sees 2 (some b) m.off m.cap m.cs (m.v.ks.flatMap kC) m.v.ks.length := by
  rcases h.sees with ⟨h1, h2⟩ | ⟨h1, h2⟩
  · obtain ⟨b, hb⟩ := h2.isSome (by omega)
    refine ⟨b, hb, by rw [h1, hb]; rfl, ?_⟩
    rw [hb] at h2; exact h2
  · rw [h1] at hi; simp at hi
theorem EmOk.at {m : Em} (h : EmOk m) {i : Nat} (hi : i < m.v.ks.length) : ∃ b, evS m = .slice (some ⟨b, m.off, none⟩) m.v.ks.length m.cap ∧ Sees 2 (some b) m.off m.cap m.cs (m.v.ks.flatMap kC) m.v.ks.length ∧ evK m = (some b, .cells m.cs m.T m.fr) := by
  obtain ⟨b, h1, h2, h3⟩ := h.isS hi
  exact ⟨b, by unfold evS; rw [h2], h3, by unfold evK; rw [h1]⟩
theorem sees_k {ob : Option Nat} {off cap : Nat} {cs : Array Value} {l : List (Int × Int)} (h : Sees 2 ob off cap cs (l.flatMap kC) l.length) {i : Nat} {a : Int × Int} (ha : l[i]? = some a) (k : Nat) (hk : k < 2) {v : Value} (hv : (kC a)[k]? = some v) :
    cs[off + i * 2 + k]? = some v := by
  have h1 := flat_part kC kC_len l ha k
  rw [if_pos hk, hv] at h1
  have h2 := h.at h1
  rwa [← Nat.add_assoc] at h2
theorem sees_e {ob : Option Nat} {off cap : Nat} {cs : Array Value} {l : List Em} (h : Sees 5 ob off cap cs (l.flatMap evC) l.length) {i : Nat} {a : Em} (ha : l[i]? = some a) (k : Nat) (hk : k < 5) {v : Value} (hv : (evC a)[k]? = some v) :
    cs[off + i * 5 + k]? = some v := by
  have h1 := flat_part evC evC_len l ha k
  rw [if_pos hk, hv] at h1
  have h2 := h.at h1
  rwa [← Nat.add_assoc] at h2
/-- The events of a list in memory. -/
def evsOf (ms : List Em) : List Ev := ms.map Em.v
def txE (ms : List Em) (i : Nat) : List UInt8 := chainI (ms.length : Int) ++ (evsOf (ms.take i)).flatMap encE
theorem txE_end {ms : List Em} {i : Nat} (h : ms.length ≤ i) : txE ms i = encS (evsOf ms) := by
  unfold txE encS encList evsOf; rw [List.take_of_length_le h, List.length_map]
theorem txE_next {ms : List Em} {i : Nat} {x : Em} (h : ms[i]? = some x) : txE ms i ++ encE x.v = txE ms (i + 1) := by
  unfold txE evsOf
  obtain ⟨hi, rfl⟩ := List.getElem?_eq_some_iff.1 h
  rw [List.take_succ_eq_append_getElem hi, List.map_append, List.flatMap_append, List.append_assoc]
  exact congrArg _ (congrArg _ (by simp))
theorem txE_len {ms : List Em} (h : ms.length ≤ 400) (hok : ∀ m ∈ ms, EmOk m) {i : Nat} (hm : ∀ m ∈ ms.take i, MayE m.v) : (txE ms i).length ≤ 10 + 2000 * 400 := by
  have a := chainI_len (ms.length : Int) (by omega) (by omega)
  have b := encEs_len (es := evsOf (ms.take i)) (fun e he => by
    obtain ⟨m, hmm, rfl⟩ := List.mem_map.1 he
    exact ⟨hm m hmm, (hok m (List.mem_of_mem_take hmm)).t⟩)
  have c : (evsOf (ms.take i)).length ≤ 400 := by unfold evsOf; rw [List.length_map, List.length_take]; omega
  unfold txE; rw [List.length_append]; omega
theorem may_next {ms : List Em} {i : Nat} {x : Em} (h : ∀ m ∈ ms.take i, MayE m.v) (hx : ms[i]? = some x) (hm : MayE x.v) : ∀ m ∈ ms.take (i + 1), MayE m.v := by
  obtain ⟨hi, rfl⟩ := List.getElem?_eq_some_iff.1 hx
  intro m hmm
  rw [List.take_succ_eq_append_getElem hi, List.mem_append, List.mem_singleton] at hmm
  rcases hmm with h1 | h1
  · exact h m h1
  · rw [h1]; exact hm
/-- What Encode tells. -/
def scrT (es : List Ev) : Value := if 400 < es.length then .tuple #[.string (bs []), .int .i64 9] else if ∀ e ∈ es, MayE e then .tuple #[.string (bs (encS es)), .int .i64 0] else .tuple #[.string (bs []), .int .i64 1]
theorem scrT_many {ms : List Em} (h : 400 < ms.length) : scrT (evsOf ms) = .tuple #[.string (bs []), .int .i64 9] := by
  unfold scrT evsOf; rw [List.length_map, if_pos h]
theorem scrT_no {ms : List Em} {i : Nat} {x : Em} (h : ¬ 400 < ms.length) (hx : ms[i]? = some x) (hm : ¬ MayE x.v) : scrT (evsOf ms) = .tuple #[.string (bs []), .int .i64 1] := by
  unfold scrT evsOf; rw [List.length_map, if_neg h, if_neg]
  intro hh
  exact hm (hh _ (List.mem_map.2 ⟨x, List.mem_of_getElem? hx, rfl⟩))
theorem scrT_yes {ms : List Em} {i : Nat} (h : ¬ 400 < ms.length) (hi : ms.length ≤ i) (hm : ∀ m ∈ ms.take i, MayE m.v) : scrT (evsOf ms) = .tuple #[.string (bs (txE ms i)), .int .i64 0] := by
  rw [txE_end hi]
  unfold scrT
  rw [if_neg (by unfold evsOf; rw [List.length_map]; exact h), if_pos]
  intro e he
  obtain ⟨m, hmm, rfl⟩ := List.mem_map.1 he
  rw [List.take_of_length_le hi] at hm
  exact hm m hmm
def ksT (x : Ev) (j : Nat) : List UInt8 := chainI (x.ks.length : Int) ++ (x.ks.take j).flatMap encK
theorem ksT_zero (x : Ev) : chainI (x.ks.length : Int) = ksT x 0 := by unfold ksT; simp
theorem ksT_next {x : Ev} {j : Nat} {y : Int × Int} (h : x.ks[j]? = some y) : ksT x j ++ chainI y.1 ++ chainI y.2 = ksT x (j + 1) := by
  obtain ⟨hi, rfl⟩ := List.getElem?_eq_some_iff.1 h
  unfold ksT
  rw [List.take_succ_eq_append_getElem hi, List.flatMap_append, List.append_assoc, List.append_assoc]
  exact congrArg _ (congrArg _ (by simp [encK]))
theorem ksT_end {x : Ev} {j : Nat} (h : x.ks.length ≤ j) : ksT x j = chainI (x.ks.length : Int) ++ x.ks.flatMap encK := by unfold ksT; rw [List.take_of_length_le h]
theorem ksT_len {x : Ev} (h : MayE x) (j : Nat) : (ksT x j).length ≤ 10 + 20 * 64 := by
  obtain ⟨h1, h2, h3, h4, h5, h6, h7⟩ := h
  have a := chainI_len (x.ks.length : Int) (by omega) (by omega)
  have b := encKs_len (ks := x.ks.take j) (fun y hy => h7 y (List.mem_of_mem_take hy))
  have c : (x.ks.take j).length ≤ 64 := by rw [List.length_take]; omega
  unfold ksT; rw [List.length_append]; omega

theorem rkeeps {l l0 l1 : List UInt8} {e e0 e1 n j : Nat} {ks : List (Int × Int)} (q : Rdg encNum (goodInt 64) l e n l0 e0) (h : RdgL encK GoodK n l0 e0 j ks l1 e1) (hj : j = n ∨ e1 ≠ 0) : Rdg (encList encK) (fun ks => (ks.length : Int) ≤ 64 ∧ ∀ x ∈ ks, GoodK x) l e ks l1 e1 := by
  rcases hj with rfl | hj
  · exact rdg_list q h.done
  · exact rdg_list q (h.bad hj)
def GoodS (es : List Ev) : Prop := (es.length : Int) ≤ 400 ∧ ∀ e ∈ es, GoodE e
/-- What Decode tells of some bytes. -/
def DecR (l : List UInt8) (es : List Ev) (c : Int) : Prop := Whole encS GoodS l es (c = 0) ∧ (c = 0 ∨ (c = 3 ∧ es = []))
theorem dec_no {l : List UInt8} (h : ∀ ws, GoodS ws → encS ws ≠ l) : DecR l [] 3 := ⟨whole_no h (by decide), .inr ⟨rfl, rfl⟩⟩
theorem dec_fail {l l0 l1 l2 : List UInt8} {n i e0 e1 e2 : Nat} {vs : List Ev} {v : Ev} (r0 : Rdg encNum (goodInt 400) l 0 n l0 e0) (hx : RdgL encE GoodE n l0 e0 i vs l1 e1) (hi : i < n) (hev : EvR l1 e1 v l2 e2) (h : e2 ≠ 0 ∨ ¬ MayE v) : DecR l [] 3 := by
  refine dec_no (list_no r0 ?_)
  rcases hev with hr | ⟨_, hr⟩
  · rcases h with h | h
    · intro ws r h0 hn hg hl
      exact h ((hx.next hr hi).forth ws r h0 hn hg hl).1
    · by_cases h2 : e2 = 0
      · exact absurd (hr.back h2).2.1.1 h
      · intro ws r h0 hn hg hl
        exact h2 ((hx.next hr hi).forth ws r h0 hn hg hl).1
  · exact hx.stuck hi hr
theorem dec_bad {l l0 l1 : List UInt8} {n i e0 e1 : Nat} {vs : List Ev} (r0 : Rdg encNum (goodInt 400) l 0 n l0 e0) (hx : RdgL encE GoodE n l0 e0 i vs l1 e1) (h : i = n ∨ e1 ≠ 0) (hE : rdEnd l1 e1 ≠ 0) : DecR l [] 3 := by
  refine dec_no fun ws hw hl => ?_
  rcases h with h | h
  · subst h
    exact hE ((rdg_list r0 hx.done).whole.forth ws hw hl).1
  · exact list_no r0 (fun ws r h0 hn hg hl => h (hx.forth ws r h0 hn hg hl).1) ws hw hl
theorem dec_good {l l0 l1 : List UInt8} {n e0 e1 : Nat} {vs : List Ev} (r0 : Rdg encNum (goodInt 400) l 0 n l0 e0) (hx : RdgL encE GoodE n l0 e0 n vs l1 e1) (hE : rdEnd l1 e1 = 0) : DecR l vs 0 := by
  have h := (rdg_list r0 hx.done).whole
  exact ⟨⟨fun _ => h.back hE, fun w hw hl => ⟨rfl, (h.forth w hw hl).2⟩⟩, .inl rfl⟩
theorem ev_good {l1 l2 : List UInt8} {e1 e2 : Nat} {v : Ev} (h : EvR l1 e1 v l2 e2) (hm : MayE v) : Rdg encE GoodE l1 e1 v l2 e2 := by
  rcases h with h | ⟨h, _⟩
  · exact h
  · have := hm.1; omega
/-- Two that tell of the same bytes tell the same. -/
theorem dec_same {l : List UInt8} {es fs : List Ev} {c d : Int} (h : DecR l es c) (k : DecR l fs d) : c = d ∧ es = fs := by
  obtain ⟨h1, h2⟩ := h
  obtain ⟨k1, k2⟩ := k
  rcases h2 with rfl | ⟨rfl, rfl⟩
  · obtain ⟨x1, x2⟩ := h1.back rfl
    obtain ⟨y1, y2⟩ := k1.forth _ x1 x2
    exact ⟨y1.symm, y2.symm⟩
  · rcases k2 with rfl | ⟨rfl, rfl⟩
    · obtain ⟨x1, x2⟩ := k1.back rfl
      exact absurd (h1.forth _ x1 x2).1 (by decide)
    · exact ⟨rfl, rfl⟩
theorem oks_next {ms : List Em} {m : Em} (h : ∀ x ∈ ms, EmOk x) (hm : EmOk m) : ∀ x ∈ ms ++ [m], EmOk x := fun x hx => by
  rcases List.mem_append.1 hx with h1 | h1
  · exact h x h1
  · rw [List.mem_singleton.1 h1]; exact hm
theorem evs_next (ms : List Em) (m : Em) : evsOf (ms ++ [m]) = evsOf ms ++ [m.v] := by unfold evsOf; simp

end
end Go.Proofs.Ytkekkalgebgokaa
