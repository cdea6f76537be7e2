/- What a reading tells: if there was no error, what the bytes begin with, written; and what was written is told. One behind the other; lists. -/
import Derived.Test.YtkekkalgebgokaaRead3
set_option linter.unusedSimpArgs false
set_option linter.unusedVariables false
namespace Go.Proofs.Ytkekkalgebgokaa
open Go Go.RowKit

section



def encNum (n : Nat) : List UInt8 := chainI (n : Int)
/-- Of the bytes l, behind the error e, v is told; l' is left, behind the error e'. -/
structure Rdg {α : Type} (enc : α → List UInt8) (good : α → Prop) (l : List UInt8) (e : Nat) (v : α) (l' : List UInt8) (e' : Nat) : Prop where
  back : e' = 0 → e = 0 ∧ good v ∧ l = enc v ++ l'
  forth : ∀ w r, e = 0 → good w → l = enc w ++ r → e' = 0 ∧ v = w ∧ l' = r
  len : l'.length ≤ l.length
  err : e' ≤ 1000
theorem Rdg.ne {α : Type} {enc : α → List UInt8} {good : α → Prop} {l l' : List UInt8} {e e' : Nat} {v : α} (h : Rdg enc good l e v l' e') (he : e ≠ 0) : e' ≠ 0 := fun h0 => he (h.back h0).1
/-- What is told of bytes that are none's. -/
theorem Rdg.bad {α : Type} {enc : α → List UInt8} {good : α → Prop} {l l' : List UInt8} {e e' : Nat} {v : α} (h : Rdg enc good l e v l' e') (he : e' ≠ 0) (u : α) : Rdg enc good l e u l' e' :=
  ⟨fun h0 => absurd h0 he, fun w r h1 h2 h3 => absurd (h.forth w r h1 h2 h3).1 he, h.len, h.err⟩
theorem Rdg.seq {α β γ : Type} {ea : α → List UInt8} {eb : β → List UInt8} {ga : α → Prop} {gb : β → Prop} {l l1 l2 : List UInt8} {e e1 e2 : Nat} {a : α} {b : β} (h1 : Rdg ea ga l e a l1 e1) (h2 : Rdg eb gb l1 e1 b l2 e2)
    {ec : γ → List UInt8} {gc : γ → Prop} {c : γ} (pa : γ → α) (pb : γ → β) (ha : pa c = a) (hb : pb c = b) (hc : ∀ x y, gc x → gc y → pa x = pa y → pb x = pb y → x = y) (hg : ∀ x, gc x → ga (pa x) ∧ gb (pb x)) (hg' : ga a → gb b → gc c) (he : ∀ x, gc x → ec x = ea (pa x) ++ eb (pb x)) : Rdg ec gc l e c l2 e2 := by
  subst ha hb
  refine ⟨fun h0 => ?_, fun w r h0 hw hl => ?_, Nat.le_trans h2.len h1.len, h2.err⟩
  · obtain ⟨x1, x2, x3⟩ := h2.back h0
    obtain ⟨y1, y2, y3⟩ := h1.back x1
    exact ⟨y1, hg' y2 x2, by rw [y3, he _ (hg' y2 x2), List.append_assoc, ← x3]⟩
  · obtain ⟨k1, k2⟩ := hg _ hw
    rw [he _ hw, List.append_assoc] at hl
    obtain ⟨x1, x2, x3⟩ := h1.forth _ _ h0 k1 hl
    obtain ⟨y1, y2, y3⟩ := h2.forth _ _ x1 k2 x3
    have z1 := (h1.back x1).2.1
    have z2 := (h2.back y1).2.1
    exact ⟨y1, hc _ _ (hg' z1 z2) hw x2 y2, y3⟩
theorem Rdg.pair {α β : Type} {ea : α → List UInt8} {eb : β → List UInt8} {ga : α → Prop} {gb : β → Prop} {l l1 l2 : List UInt8} {e e1 e2 : Nat} {a : α} {b : β} (h1 : Rdg ea ga l e a l1 e1) (h2 : Rdg eb gb l1 e1 b l2 e2) :
    Rdg (fun p : α × β => ea p.1 ++ eb p.2) (fun p => ga p.1 ∧ gb p.2) l e (a, b) l2 e2 :=
  h1.seq h2 Prod.fst Prod.snd rfl rfl (fun _ _ _ _ x y => Prod.ext x y) (fun _ h => h) (fun x y => ⟨x, y⟩) (fun _ _ => rfl)
/-- A number, and behind it what hangs on it. -/
theorem Rdg.dep {β γ : Type} {g0 : Nat → Prop} {eb : β → List UInt8} {gb : β → Prop} {l l1 l2 : List UInt8} {e e1 e2 n : Nat} {b : β} (h1 : Rdg encNum g0 l e n l1 e1) (h2 : Rdg eb gb l1 e1 b l2 e2)
    {ec : γ → List UInt8} {gc : γ → Prop} {c : γ} (kd : γ → Nat) (tail : γ → List UInt8) (pb : γ → β) (he : ∀ x, gc x → ec x = encNum (kd x) ++ tail x) (hk : ∀ x, gc x → g0 (kd x))
    (ht : ∀ x, gc x → kd x = n → tail x = eb (pb x) ∧ gb (pb x)) (hc : ∀ x, gc x → kd x = n → pb x = b → c = x) (hg : g0 n → gb b → gc c ∧ ec c = encNum n ++ eb b) : Rdg ec gc l e c l2 e2 := by
  refine ⟨fun h0 => ?_, fun w r h0 hw hl => ?_, Nat.le_trans h2.len h1.len, h2.err⟩
  · obtain ⟨x1, x2, x3⟩ := h2.back h0
    obtain ⟨y1, y2, y3⟩ := h1.back x1
    obtain ⟨z1, z2⟩ := hg y2 x2
    exact ⟨y1, z1, by rw [y3, z2, List.append_assoc, ← x3]⟩
  · rw [he _ hw, List.append_assoc] at hl
    obtain ⟨x1, x2, x3⟩ := h1.forth _ _ h0 (hk _ hw) hl
    obtain ⟨k1, k2⟩ := ht _ hw x2.symm
    rw [k1] at x3
    obtain ⟨y1, y2, y3⟩ := h2.forth _ _ x1 k2 x3
    exact ⟨y1, hc _ hw x2.symm y2.symm, y3⟩
/-- Of a number that no element begins with. -/
theorem Rdg.none {γ : Type} {g0 : Nat → Prop} {l l1 : List UInt8} {e e1 n : Nat} (h1 : Rdg encNum g0 l e n l1 e1) {ec : γ → List UInt8} {gc : γ → Prop} (kd : γ → Nat) (tail : γ → List UInt8) (he : ∀ x, gc x → ec x = encNum (kd x) ++ tail x) (hk : ∀ x, gc x → g0 (kd x)) (hn : ∀ x, gc x → kd x ≠ n) :
    ∀ w r, e = 0 → gc w → l ≠ ec w ++ r := by
  intro w r h0 hw hl
  rw [he _ hw, List.append_assoc] at hl
  exact hn _ hw (h1.forth _ _ h0 (hk _ hw) hl).2.1.symm
/-- The same, under another name of what is told. -/
theorem Rdg.to {α β : Type} {ea : α → List UInt8} {ga : α → Prop} {l l1 : List UInt8} {e e1 : Nat} {a : α} (h : Rdg ea ga l e a l1 e1) {eb : β → List UInt8} {gb : β → Prop} {b : β} (f : α → β) (g : β → α) (hfg : ∀ b, gb b → f (g b) = b) (hgf : ga a → g (f a) = a) (hb : e1 = 0 → b = f a) (hbad : e1 ≠ 0 ∨ e1 = 0) (hg : ∀ x, gb x → ga (g x)) (hg' : ga a → gb (f a)) (he : ∀ x, gb x → eb x = ea (g x)) : Rdg eb gb l e b l1 e1 := by
  refine ⟨fun h0 => ?_, fun w r h0 hw hl => ?_, h.len, h.err⟩
  · obtain ⟨x1, x2, x3⟩ := h.back h0
    rw [hb h0]
    exact ⟨x1, hg' x2, by rw [he _ (hg' x2), hgf x2]; exact x3⟩
  · rw [he w hw] at hl
    obtain ⟨x1, x2, x3⟩ := h.forth _ _ h0 (hg w hw) hl
    exact ⟨x1, by rw [hb x1, x2, hfg w hw], x3⟩
def goodNum (n : Nat) : Prop := n < 18446744073709551616
def goodInt (most : Int) (n : Nat) : Prop := (n : Int) ≤ most
def goodStr (most : Int) (s : List UInt8) : Prop := (s.length : Int) ≤ most
def encFlag (b : Bool) : List UInt8 := chainI (if b then 1 else 0)
theorem rdg_num (l : List UInt8) (e : Nat) (he : e ≤ 1000) : Rdg encNum goodNum l e (rdNum l e).1 (rdNum l e).2.1 (rdNum l e).2.2 := by
  obtain ⟨b1, b2, b3⟩ := rdNum_bd l e he
  refine ⟨fun h0 => ?_, fun w r h0 hw hl => ?_, b2, b3⟩
  · obtain ⟨x1, x2⟩ := rdNum_back h0
    exact ⟨x1, b1, x2⟩
  · subst h0 hl
    rw [show rdNum (encNum w ++ r) 0 = (w, r, 0) from rdNum_chain w r hw]
    exact ⟨rfl, rfl, rfl⟩
theorem rdg_int (most : Int) (l : List UInt8) (e : Nat) (he : e ≤ 1000) (hm : 0 ≤ most ∧ most < 18446744073709551616) : Rdg encNum (goodInt most) l e (rdInt most l e).1 (rdInt most l e).2.1 (rdInt most l e).2.2 := by
  obtain ⟨b1, b2, b3⟩ := rdInt_bd most l e he hm.1
  refine ⟨fun h0 => ?_, fun w r h0 hw hl => ?_, b2, b3⟩
  · obtain ⟨x1, x2⟩ := rdInt_back h0
    exact ⟨x1, b1, x2⟩
  · subst h0 hl
    unfold goodInt at hw
    rw [show rdInt most (encNum w ++ r) 0 = ((w : Int).toNat, r, 0) from rdInt_chain most w r (by omega) hw (by omega)]
    exact ⟨rfl, by simp, rfl⟩
theorem rdg_str (most : Int) (l : List UInt8) (e : Nat) (he : e ≤ 1000) (hm : 0 ≤ most ∧ most < 18446744073709551616) : Rdg text (goodStr most) l e (rdStr most l e).1 (rdStr most l e).2.1 (rdStr most l e).2.2 := by
  obtain ⟨b1, b2, b3⟩ := rdStr_bd most l e he hm.1
  refine ⟨fun h0 => ?_, fun w r h0 hw hl => ?_, b2, b3⟩
  · obtain ⟨x1, x2⟩ := rdStr_back h0
    exact ⟨x1, b1, x2⟩
  · subst h0 hl
    unfold goodStr at hw
    rw [show rdStr most (text w ++ r) 0 = (w, r, 0) from rdStr_text most w r hw (by omega)]
    exact ⟨rfl, rfl, rfl⟩
theorem rdFlag_bd (l : List UInt8) (e : Nat) (he : e ≤ 1000) : (rdFlag l e).2.1.length ≤ l.length ∧ (rdFlag l e).2.2 ≤ 1000 := by
  obtain ⟨v, n, e1, hu⟩ : ∃ v n e1, unchain l = (v, n, e1) := ⟨_, _, _, rfl⟩
  obtain ⟨hv, hb⟩ := unchain_bd hu
  by_cases h : e = 0
  · subst h
    rcases hb with ⟨h0, h1, _, _⟩ | ⟨h0, h1, h2⟩
    · subst h0
      by_cases hl : 1 < v
      · rw [rdFlag_long l v n hu hl]
        exact ⟨by simp, by simp⟩
      · rw [rdFlag_ok l v n hu hl]
        exact ⟨by simp, by simp⟩
    · rw [rdFlag_bad l v n e1 hu (by omega)]
      exact ⟨by simp, by simp only; omega⟩
  · rw [rdFlag_err l e h]
    exact ⟨by simp, he⟩
theorem rdg_flag (l : List UInt8) (e : Nat) (he : e ≤ 1000) : Rdg encFlag (fun _ => True) l e (rdFlag l e).1 (rdFlag l e).2.1 (rdFlag l e).2.2 := by
  obtain ⟨b2, b3⟩ := rdFlag_bd l e he
  refine ⟨fun h0 => ?_, fun w r h0 hw hl => ?_, b2, b3⟩
  · obtain ⟨x1, x2⟩ := rdFlag_back h0
    exact ⟨x1, trivial, x2⟩
  · subst h0 hl
    rw [show rdFlag (encFlag w ++ r) 0 = (w, r, 0) from rdFlag_chain w r]
    exact ⟨rfl, rfl, rfl⟩
/-- The first ones of so many elements. -/
structure RdgL {α : Type} (enc : α → List UInt8) (good : α → Prop) (n : Nat) (l : List UInt8) (e : Nat) (i : Nat) (vs : List α) (l' : List UInt8) (e' : Nat) : Prop where
  num : vs.length = i
  back : e' = 0 → e = 0 ∧ (∀ v ∈ vs, good v) ∧ l = vs.flatMap enc ++ l'
  forth : ∀ (ws : List α) (r : List UInt8), e = 0 → ws.length = n → (∀ w ∈ ws, good w) → l = ws.flatMap enc ++ r → e' = 0 ∧ vs = ws.take i ∧ l' = (ws.drop i).flatMap enc ++ r
  len : l'.length ≤ l.length
  err : e' ≤ 1000
theorem RdgL.zero {α : Type} {enc : α → List UInt8} {good : α → Prop} {n : Nat} {l : List UInt8} {e : Nat} (he : e ≤ 1000) : RdgL enc good n l e 0 [] l e :=
  ⟨rfl, fun h => ⟨h, by simp, by simp⟩, fun ws r h0 _ _ hl => ⟨h0, by simp, by simpa using hl⟩, Nat.le_refl _, he⟩
theorem RdgL.next {α : Type} {enc : α → List UInt8} {good : α → Prop} {n i : Nat} {l l1 l2 : List UInt8} {e e1 e2 : Nat} {vs : List α} {v : α} (h : RdgL enc good n l e i vs l1 e1) (h1 : Rdg enc good l1 e1 v l2 e2) (hi : i < n) : RdgL enc good n l e (i + 1) (vs ++ [v]) l2 e2 := by
  refine ⟨by simp [h.num], fun h0 => ?_, fun ws r h0 hn hg hl => ?_, Nat.le_trans h1.len h.len, h1.err⟩
  · obtain ⟨x1, x2, x3⟩ := h1.back h0
    obtain ⟨y1, y2, y3⟩ := h.back x1
    refine ⟨y1, fun u hu => ?_, by rw [y3, x3]; simp⟩
    rcases List.mem_append.1 hu with hu | hu
    · exact y2 u hu
    · rw [List.mem_singleton.1 hu]; exact x2
  · obtain ⟨x1, x2, x3⟩ := h.forth ws r h0 hn hg hl
    have hd : ws.drop i = ws[i]'(by omega) :: ws.drop (i + 1) := List.drop_eq_getElem_cons (by omega)
    rw [hd, List.flatMap_cons, List.append_assoc] at x3
    obtain ⟨y1, y2, y3⟩ := h1.forth _ _ x1 (hg _ (List.getElem_mem (by omega))) x3
    refine ⟨y1, ?_, y3⟩
    rw [x2, y2, List.take_succ_eq_append_getElem (by omega)]
theorem RdgL.done {α : Type} {enc : α → List UInt8} {good : α → Prop} {n : Nat} {l l1 : List UInt8} {e e1 : Nat} {vs : List α} (h : RdgL enc good n l e n vs l1 e1) : Rdg (fun vs => vs.flatMap enc) (fun vs => vs.length = n ∧ ∀ v ∈ vs, good v) l e vs l1 e1 := by
  refine ⟨fun h0 => ?_, fun ws r h0 hw hl => ?_, h.len, h.err⟩
  · obtain ⟨x1, x2, x3⟩ := h.back h0
    exact ⟨x1, ⟨h.num, x2⟩, x3⟩
  · obtain ⟨x1, x2, x3⟩ := h.forth ws r h0 hw.1 hw.2 hl
    exact ⟨x1, by rw [x2, List.take_of_length_le (by omega)], by rw [x3, List.drop_eq_nil_of_le (by omega)]; rfl⟩
theorem RdgL.bad {α : Type} {enc : α → List UInt8} {good : α → Prop} {n i : Nat} {l l1 : List UInt8} {e e1 : Nat} {vs us : List α} (h : RdgL enc good n l e i vs l1 e1) (he : e1 ≠ 0) : Rdg (fun vs => vs.flatMap enc) (fun vs => vs.length = n ∧ ∀ v ∈ vs, good v) l e us l1 e1 :=
  ⟨fun h0 => absurd h0 he, fun w r h0 h2 h3 => absurd (h.forth w r h0 h2.1 h2.2 h3).1 he, h.len, h.err⟩
theorem RdgL.stuck {α : Type} {enc : α → List UInt8} {good : α → Prop} {n i : Nat} {l l1 : List UInt8} {e e1 : Nat} {vs : List α} (h : RdgL enc good n l e i vs l1 e1) (hi : i < n) (hno : ∀ w r, e1 = 0 → good w → l1 ≠ enc w ++ r) :
    ∀ (ws : List α) (r : List UInt8), e = 0 → ws.length = n → (∀ w ∈ ws, good w) → l ≠ ws.flatMap enc ++ r := by
  intro ws r h0 hn hg hl
  obtain ⟨x1, x2, x3⟩ := h.forth ws r h0 hn hg hl
  have hd : ws.drop i = ws[i]'(by omega) :: ws.drop (i + 1) := List.drop_eq_getElem_cons (by omega)
  rw [hd, List.flatMap_cons, List.append_assoc] at x3
  exact hno _ _ x1 (hg _ (List.getElem_mem (by omega))) x3
/-- A list with its length ahead. -/
def encList {α : Type} (enc : α → List UInt8) (vs : List α) : List UInt8 := chainI (vs.length : Int) ++ vs.flatMap enc
theorem rdg_list {α : Type} {enc : α → List UInt8} {good : α → Prop} {most : Int} {l l1 l2 : List UInt8} {e e1 e2 n : Nat} {vs : List α} (h0 : Rdg encNum (goodInt most) l e n l1 e1)
    (h : Rdg (fun vs => vs.flatMap enc) (fun vs => vs.length = n ∧ ∀ v ∈ vs, good v) l1 e1 vs l2 e2) : Rdg (encList enc) (fun vs => (vs.length : Int) ≤ most ∧ ∀ v ∈ vs, good v) l e vs l2 e2 := by
  refine ⟨fun hz => ?_, fun ws r hz hw hl => ?_, Nat.le_trans h.len h0.len, h.err⟩
  · obtain ⟨x1, ⟨x2, x3⟩, x4⟩ := h.back hz
    obtain ⟨y1, y2, y3⟩ := h0.back x1
    refine ⟨y1, ⟨by rw [x2]; exact y2, x3⟩, ?_⟩
    rw [y3, x4, ← x2]
    simp [encList, encNum]
  · have hl' : l = encNum ws.length ++ (ws.flatMap enc ++ r) := by rw [hl]; simp [encList, encNum]
    obtain ⟨x1, x2, x3⟩ := h0.forth _ _ hz hw.1 hl'
    subst x2
    exact h.forth ws r x1 ⟨rfl, hw.2⟩ x3
/-- All of the bytes. -/
structure Whole {α : Type} (enc : α → List UInt8) (good : α → Prop) (l : List UInt8) (v : α) (ok : Prop) : Prop where
  back : ok → good v ∧ enc v = l
  forth : ∀ w, good w → enc w = l → ok ∧ v = w
theorem whole_no {α : Type} {enc : α → List UInt8} {good : α → Prop} {l : List UInt8} {v : α} {ok : Prop} (h : ∀ w, good w → enc w ≠ l) (hn : ¬ ok) : Whole enc good l v ok :=
  ⟨fun x => absurd x hn, fun w hw hl => absurd hl (h w hw)⟩
theorem list_no {α : Type} {enc : α → List UInt8} {good : α → Prop} {most : Int} {l l1 : List UInt8} {e1 n : Nat} (h0 : Rdg encNum (goodInt most) l 0 n l1 e1) (h : ∀ (ws : List α) (r : List UInt8), e1 = 0 → ws.length = n → (∀ w ∈ ws, good w) → l1 ≠ ws.flatMap enc ++ r) :
    ∀ ws : List α, ((ws.length : Int) ≤ most ∧ ∀ w ∈ ws, good w) → encList enc ws ≠ l := by
  intro ws hw hl
  have hl' : l = encNum ws.length ++ (ws.flatMap enc ++ []) := by rw [← hl]; simp [encList, encNum]
  obtain ⟨x1, x2, x3⟩ := h0.forth _ _ rfl hw.1 hl'
  exact h ws [] x1 x2.symm hw.2 x3
theorem Rdg.whole {α : Type} {enc : α → List UInt8} {good : α → Prop} {l l' : List UInt8} {e' : Nat} {v : α} (h : Rdg enc good l 0 v l' e') : Whole enc good l v (rdEnd l' e' = 0) := by
  refine ⟨fun h0 => ?_, fun w hw hl => ?_⟩
  · obtain ⟨x1, x2⟩ := rdEnd_back h0
    obtain ⟨y1, y2, y3⟩ := h.back x1
    exact ⟨y2, by rw [y3, x2, List.append_nil]⟩
  · obtain ⟨x1, x2, x3⟩ := h.forth w [] rfl hw (by rw [hl, List.append_nil])
    subst x1 x3
    exact ⟨rfl, x2⟩

end
end Go.Proofs.Ytkekkalgebgokaa
