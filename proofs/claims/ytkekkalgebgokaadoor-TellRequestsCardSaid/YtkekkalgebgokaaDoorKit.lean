/- Small facts on worlds and values that the walks share: the cells of a block that was just made. No program in sight. -/
import Derived.WalkKit
import Derived.Lib.Hide
import Derived.BigQuiet
import Derived.Lib.QuietBelow
namespace Go.Proofs.YtkekkalgebgokaaDoor
open Go Go.RowKit Go.Sort

theorem addr_add (b o j : Nat) : (⟨b, o, none⟩ : Addr).add j = ⟨b, o + j, none⟩ := by
  unfold Addr.add; split <;> simp_all
theorem addr_add0 (b j : Nat) : (⟨b, 0, none⟩ : Addr).add j = ⟨b, j, none⟩ := by
  rw [addr_add, Nat.zero_add]
theorem cell_alloc_new (w : World) (arr : Array Value) (T : TypeId) (fr : Nat × Nat) (j : Nat) : (w.alloc (.cells arr T fr)).cell? ⟨w.heap.size, j, none⟩ = arr[j]? := by
  have h : (w.alloc (.cells arr T fr)).heap[w.heap.size]? = some (.cells arr T fr) := by
    show (w.heap.push _)[w.heap.size]? = _
    simp
  simp only [World.cell?, h]
  rfl
theorem cell_alloc_at (w : World) (arr : Array Value) (T : TypeId) (fr : Nat × Nat) (n j : Nat) (hn : n = w.heap.size) : (w.alloc (.cells arr T fr)).cell? ⟨n, j, none⟩ = arr[j]? := by
  subst hn; exact cell_alloc_new w arr T fr j
theorem frozen_alloc_new (w : World) (arr : Array Value) (T : TypeId) (fr : Nat × Nat) (j : Nat) (hj : j < fr.1) : (w.alloc (.cells arr T fr)).frozen? ⟨w.heap.size, j, none⟩ = false := by
  have h : (w.alloc (.cells arr T fr)).heap[w.heap.size]? = some (.cells arr T fr) := by
    show (w.heap.push _)[w.heap.size]? = _
    simp
  simp only [World.frozen?, h]
  simp; omega

theorem setCell_alloc_new (w : World) (arr : Array Value) (T : TypeId) (fr : Nat × Nat) (j : Nat) (v : Value) : (w.alloc (.cells arr T fr)).setCell ⟨w.heap.size, j, none⟩ v = w.alloc (.cells (arr.setIfInBounds j v) T fr) := by
  have hm : ∀ (a : Array Obj) (x : Obj) (f : Obj → Obj), (a.push x).modify a.size f = a.push (f x) := by
    intro a x f
    apply Array.ext
    · simp
    · intro i h1 h2
      simp only [Array.getElem_modify, Array.getElem_push]
      by_cases h : a.size = i
      · subst h
        simp
      · have hi : i < a.size := by simp at h1; omega
        simp [h, hi]
  unfold World.setCell
  show ({ w.alloc (.cells arr T fr) with heap := (w.heap.push (.cells arr T fr)).modify w.heap.size _ } : World) = _
  rw [hm]
  rfl

theorem u8_xor_bit (v : UInt8) (x : Nat) : bits BinOp.xor IntKind.u8 (v.toNat : Int) ((2 : Int) ^ (7 - x % 8) % (256 : Int)) = ((v ^^^ (1 <<< UInt8.ofNat (7 - x % 8))).toNat : Int) := by
  have hx : x % 8 < 8 := Nat.mod_lt _ (by omega)
  generalize x % 8 = q at *
  have h : ((2 : Int) ^ (7 - q) % (256 : Int)) = (((1 : UInt8) <<< UInt8.ofNat (7 - q)).toNat : Int) := by
    match q, hx with
    | 0, _ => rfl | 1, _ => rfl | 2, _ => rfl | 3, _ => rfl | 4, _ => rfl | 5, _ => rfl | 6, _ => rfl | 7, _ => rfl
  rw [h, u8_xor_nat _ _ (UInt8.toNat_lt _) (UInt8.toNat_lt _), UInt8.toNat_xor]

theorem bel_trans {w w1 w2 : World} (h1 : Below w.heap.size w w1) (h2 : Below w1.heap.size w1 w2) : Below w.heap.size w w2 := h1.trans (h2.mono h1.size)

/-- A block of cells, known whole. -/
def Blk (w : World) (b : Nat) (cs : Array Value) (T : TypeId) : Prop := w.heap[b]? = some (.cells cs T (0, 0))
theorem Blk.cell {w : World} {b : Nat} {cs : Array Value} {T : TypeId} (h : Blk w b cs T) (i : Nat) : w.cell? ⟨b, i, none⟩ = cs[i]? := by
  have h : w.heap[b]? = some (.cells cs T (0, 0)) := h
  simp [World.cell?, h]
theorem Blk.free {w : World} {b : Nat} {cs : Array Value} {T : TypeId} (h : Blk w b cs T) (i : Nat) : w.frozen? ⟨b, i, none⟩ = false := by
  have h : w.heap[b]? = some (.cells cs T (0, 0)) := h
  simp [World.frozen?, h]
theorem Blk.lt {w : World} {b : Nat} {cs : Array Value} {T : TypeId} (h : Blk w b cs T) : b < w.heap.size := lt_of_block h
theorem Blk.set {w : World} {b : Nat} {cs : Array Value} {T : TypeId} (h : Blk w b cs T) (i : Nat) (v : Value) : Blk (w.setCell ⟨b, i, none⟩ v) b (cs.setIfInBounds i v) T := by
  have h' : w.heap[b]? = some (.cells cs T (0, 0)) := h
  have hlt := h.lt
  unfold Blk World.setCell
  show (w.heap.modify b _)[b]? = _
  rw [Array.getElem?_modify]
  simp [h']
theorem Blk.other {w : World} {b c : Nat} {cs : Array Value} {T : TypeId} (h : Blk w c cs T) (hne : c ≠ b) (i : Nat) (v : Value) : Blk (w.setCell ⟨b, i, none⟩ v) c cs T := by
  have h' : w.heap[c]? = some (.cells cs T (0, 0)) := h
  unfold Blk
  rw [Below.heap_setCell _ _ _ _ hne]; exact h'
theorem Blk.new (w : World) (cs : Array Value) (T : TypeId) : Blk (w.alloc (.cells cs T)) w.heap.size cs T := by
  unfold Blk
  show (w.heap.push _)[w.heap.size]? = _
  simp
theorem Blk.alloc {w : World} {b : Nat} {cs : Array Value} {T : TypeId} (h : Blk w b cs T) (o : Obj) : Blk (w.alloc o) b cs T := by
  unfold Blk
  rw [Below.heap_alloc _ _ _ h.lt]; exact h
theorem Blk.drew {w : World} {b : Nat} {cs : Array Value} {T : TypeId} (h : Blk w b cs T) : Blk w.drew b cs T := h
theorem Blk.grown {w w' : World} {b : Nat} {cs : Array Value} {T : TypeId} {row : Option Nat} (h : Blk w b cs T) (hg : w.grownBy w' row) (hne : some b ≠ row) : Blk w' b cs T := by
  unfold Blk
  rw [hg.block b h.lt hne]; exact h
theorem Blk.below {w w' : World} {B b : Nat} {cs : Array Value} {T : TypeId} (h : Blk w b cs T) (hb : Below B w w') (hlt : b < B) : Blk w' b cs T := by
  unfold Blk
  rw [hb.block b hlt]; exact h
theorem grown_refl (w : World) (row : Option Nat) : w.grownBy w row := ⟨rfl, rfl, rfl, Nat.le_refl _, fun _ _ _ => rfl⟩
theorem grown_set (w : World) (b i : Nat) (v : Value) : w.grownBy (w.setCell ⟨b, i, none⟩ v) (some b) :=
  ⟨rfl, rfl, rfl, by simp [World.setCell], fun k _ hne => Below.heap_setCell _ _ _ _ (fun e => hne (by rw [e]))⟩
theorem grown_trans {a b c : World} {row : Option Nat} (h : a.grownBy b row) (k : b.grownBy c row) : a.grownBy c row :=
  ⟨k.os.trans h.os, k.tape.trans h.tape, k.output.trans h.output, Nat.le_trans h.size k.size, fun i hi hne => (k.block i (Nat.lt_of_lt_of_le hi h.size) hne).trans (h.block i hi hne)⟩
theorem grown_drew {a b : World} {row : Option Nat} (h : a.grownBy b row) : a.grownBy b.drew row := ⟨h.os, h.tape, h.output, h.size, h.block⟩
theorem grown_alloc {a b : World} {row : Option Nat} (h : a.grownBy b row) (o : Obj) : a.grownBy (b.alloc o) row :=
  ⟨h.os, h.tape, h.output, Nat.le_trans h.size (by simp), fun k hk hne => (Below.heap_alloc _ _ _ (Nat.lt_of_lt_of_le hk h.size)).trans (h.block k hk hne)⟩
theorem grown_below {a b : World} {row : Option Nat} (h : Below a.heap.size a b) : a.grownBy b row := ⟨h.os, h.tape, h.output, h.size, fun k hk _ => h.block k hk⟩
theorem grown_then_below {a b c : World} {row : Option Nat} (h : a.grownBy b row) (k : Below b.heap.size b c) : a.grownBy c row :=
  grown_trans h (grown_below k)

/-- Behind a region that draws, whose operations read and whose calls make memory alone: nothing that was there has turned. -/
theorem bel_of_regrown {w w' : World} (h : ∃ p : Regrown, w' = grow (redrawn w p.d) p.os) : Below w.heap.size w w' := by
  obtain ⟨p, rfl⟩ := h; exact below_regrown w p.d p.os
/-- A callee that leaves the world alone, met in such a region. -/
theorem Calls.regrown_same {P : Program} {f : FuncId} {args : Array Value} {w : World} {d : Nat} {os : Array Obj} {v : Value}
    (h : Calls P f args (grow (redrawn w d) os) fun e w' => e = .returned v ∧ grow (redrawn w d) os = w') : Calls P f args (grow (redrawn w d) os) fun e w'' => e = .returned v ∧ ∃ p : Regrown, w'' = grow (redrawn w p.d) p.os :=
  h.mono fun _ _ ⟨he, hb⟩ => ⟨he, ⟨d, os⟩, hb.symm⟩

/-- The cells of a row of bytes, behind which there may be more. -/
def BytesAt (arr : Array Value) (l : List UInt8) : Prop := ∀ (j : Nat) (v : UInt8), l[j]? = some v → arr[j]? = some (Value.int .u8 (v.toNat : Int))

theorem BytesAt.set {arr : Array Value} {l : List UInt8} (h : BytesAt arr l) (k : Nat) (f : UInt8 → UInt8) (v : UInt8) (hk : l[k]? = some v) (ha : k < arr.size) : BytesAt (arr.setIfInBounds k (.int .u8 ((f v).toNat : Int))) (l.modify k f) := by
  intro j x hj
  rw [List.getElem?_modify] at hj
  rw [Array.getElem?_setIfInBounds]
  by_cases e : k = j
  · subst e
    simp [hk] at hj
    subst hj
    simp [ha]
  · simp only [e, if_false] at hj ⊢
    exact h j x (by simpa using hj)

end Go.Proofs.YtkekkalgebgokaaDoor
