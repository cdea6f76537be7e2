/- An iterator over a text whose bytes are below 128: a range over it, wherever the iterator lies. No program in sight. -/
import Derived.Test.YtgnbgjllogjecaaKit2
namespace Go.Proofs.Ytgnbgjllogjecaa
open Go Go.RowKit

def IterAt (w : World) (ib : Nat) (s : ByteArray) (pos : Nat) : Prop := w.heap[ib]? = some (.stringIter s pos)
def setIter (w : World) (ib : Nat) (s : ByteArray) (pos : Nat) : World := { w with heap := w.heap.setIfInBounds ib (.stringIter s pos) }

theorem IterAt.lt {w : World} {ib : Nat} {s : ByteArray} {pos : Nat} (h : IterAt w ib s pos) : ib < w.heap.size := lt_of_block h
theorem iter_new (w : World) (s : ByteArray) : IterAt (w.iter s 0) w.heap.size s 0 := World.iter_heap w s 0
theorem IterAt.pos {w : World} {ib : Nat} {s : ByteArray} {pos : Nat} (h : IterAt w ib s pos) : w.iterPos ib = pos := by
  have h' : w.heap[ib]? = some (.stringIter s pos) := h
  simp [World.iterPos, h']
theorem run_next_at {P : Program} {w : World} {ib : Nat} {s : ByteArray} {pos : Nat} (hi : IterAt w ib s pos) (ty : TypeId) (h : pos < s.size) (ha : (s[pos]'h).toNat < 128) :
    (Instr.next (.pointer (some ⟨ib, 0, none⟩)) true ty).run P w = .ok (.tuple #[.bool true, .int .i64 pos, .int .i32 (s[pos]'h).toNat]) (setIter w ib s (pos + 1)) := by
  have hi' : w.heap[ib]? = some (.stringIter s pos) := hi
  simp only [Instr.next, getObj, setObj, Sem.run_bind, Sem.run, hi', Result.andThen, h, if_true, decode_ascii s pos h ha]
  rfl
theorem run_next_at_end {P : Program} {w : World} {ib : Nat} {s : ByteArray} {pos : Nat} (hi : IterAt w ib s pos) (ty : TypeId) (h : ¬ pos < s.size) :
    (Instr.next (.pointer (some ⟨ib, 0, none⟩)) true ty).run P w = .ok (.tuple #[.bool false]) w := by
  have hi' : w.heap[ib]? = some (.stringIter s pos) := hi
  simp only [Instr.next, getObj, setObj, Sem.run_bind, Sem.run, hi', Result.andThen, h, if_false]
  rfl
theorem IterAt.step {w : World} {ib : Nat} {s : ByteArray} {pos : Nat} (h : IterAt w ib s pos) (p : Nat) : IterAt (setIter w ib s p) ib s p := by
  have := h.lt
  show (w.heap.setIfInBounds ib _)[ib]? = _
  simp [this]
theorem IterAt.setCell {w : World} {ib b i : Nat} {s : ByteArray} {pos : Nat} (h : IterAt w ib s pos) (hne : ib ≠ b) (v : Value) : IterAt (w.setCell ⟨b, i, none⟩ v) ib s pos := by
  unfold IterAt
  rw [Below.heap_setCell _ _ _ _ hne]; exact h
theorem Blk.setIter {w : World} {b ib : Nat} {cs : Array Value} {T : TypeId} (h : Blk w b cs T) (hne : b ≠ ib) (s : ByteArray) (p : Nat) : Blk (Proofs.Ytgnbgjllogjecaa.setIter w ib s p) b cs T := by
  unfold Blk
  show (w.heap.setIfInBounds ib _)[b]? = _
  rw [Array.getElem?_setIfInBounds_ne (fun e => hne e.symm)]; exact h
theorem Touch.setIter {S : Nat → Prop} {a b : World} (h : Touch S a b) (ib : Nat) (s : ByteArray) (p : Nat) (hx : S ib ∨ a.heap.size ≤ ib) : Touch S a (Proofs.Ytgnbgjllogjecaa.setIter b ib s p) :=
  ⟨h.os, h.tape, h.output, by show _ ≤ (b.heap.setIfInBounds _ _).size; simp; exact h.size, fun k hk hn => by
    show (b.heap.setIfInBounds ib _)[k]? = _
    rw [Array.getElem?_setIfInBounds_ne (fun e => by subst e; rcases hx with hx | hx; exact hn hx; exact absurd hk (Nat.not_lt.2 hx))]
    exact h.block k hk hn⟩
theorem IterAt.touch {S : Nat → Prop} {w w' : World} {ib : Nat} {s : ByteArray} {pos : Nat} (h : IterAt w ib s pos) (ht : Touch S w w') (hn : ¬ S ib) : IterAt w' ib s pos := by
  unfold IterAt
  rw [ht.block ib h.lt hn]; exact h

end Go.Proofs.Ytgnbgjllogjecaa
