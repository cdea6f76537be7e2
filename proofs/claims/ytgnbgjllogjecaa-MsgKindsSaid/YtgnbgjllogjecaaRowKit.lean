/- Small facts on worlds: a whole row or struct stored at once. No program in sight. -/
import Derived.Test.YtgnbgjllogjecaaKit2
import Derived.Deep.MidRow
namespace Go.Proofs.Ytgnbgjllogjecaa
open Go Go.RowKit

theorem Blk.there {w : World} {b : Nat} {cs : Array Value} {T : TypeId} (h : Blk w b cs T) (n : Nat) (hn : n ≤ cs.size) : w.there b 0 n := fun j hj =>
  ⟨by rw [h.cell, Array.getElem?_eq_getElem (by omega)]; rfl, h.free _⟩

theorem setMany_whole : ∀ (vs : List Value) (pre : List Value) (o : Nat) (w : World) (b : Nat) (T : TypeId) (old : List Value), o = pre.length → old.length = vs.length →
    Blk w b (pre ++ old).toArray T → Blk (w.setCells b o vs) b (pre ++ vs).toArray T
  | [], pre, o, w, b, T, old, ho, hl, h => by
    have : old = [] := List.length_eq_zero_iff.1 hl
    subst this; exact h
  | v :: r, pre, o, w, b, T, old, ho, hl, h => by
    rcases old with _ | ⟨x, old⟩
    · simp at hl
    · have h1 := h.set o v
      have h2 : ((pre ++ x :: old).toArray.setIfInBounds o v) = ((pre ++ [v]) ++ old).toArray := by
        subst ho
        apply Array.ext'
        simp
      rw [h2] at h1
      have := setMany_whole r (pre ++ [v]) (o + 1) _ b T old (by simp [ho]) (by simpa using hl) h1
      rw [List.append_assoc] at this
      exact this

theorem Blk.setCells {w : World} {b : Nat} {cs : Array Value} {T : TypeId} (h : Blk w b cs T) (vs : Array Value) (hl : cs.size = vs.size) : Blk (w.setCells b 0 vs.toList) b vs T := by
  have := setMany_whole vs.toList [] 0 w b T cs.toList rfl (by simpa using hl) (by simpa using h)
  simpa using this

theorem Touch.setCells {S : Nat → Prop} {a : World} (b : Nat) (hx : S b ∨ a.heap.size ≤ b) : ∀ (vs : List Value) (o : Nat) (w : World), Touch S a w → Touch S a (w.setCells b o vs)
  | [], _, _, h => h
  | v :: r, o, _, h => Touch.setCells b hx r (o + 1) _ (h.set b o v hx)

theorem below_setCells {B : Nat} {a : World} (b : Nat) (hb : B ≤ b) : ∀ (vs : List Value) (o : Nat) {w : World}, Below B a w → Below B a (w.setCells b o vs)
  | [], _, _, h => h
  | v :: r, o, _, h => below_setCells b hb r (o + 1) (h.setCell (p := ⟨b, o, none⟩) hb v)

end Go.Proofs.Ytgnbgjllogjecaa
