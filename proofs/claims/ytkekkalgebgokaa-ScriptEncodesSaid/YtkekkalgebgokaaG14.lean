/- The bytes of a text as a slice of its own; stores into a row of which something is frozen. -/
import Derived.Test.YtkekkalgebgokaaG13
set_option linter.unusedSimpArgs false
set_option linter.unusedVariables false
namespace Go.Proofs.Ytkekkalgebgokaa
open Go Go.RowKit

section
variable {c : Cx} {n : Nat} {env : List (Nat × Value)} {L : List (Option Nat × Obj)} {k : List Item} {o : Oper}

/-- '[]byte(s)': a new row, whose first cells are the text's bytes. -/
theorem G_bytesOf {ops : Array Oper} {i : Nat} {rest : List Nat} {d : Nat} {x : Operand} {t u e : TypeId} {l : List UInt8} (ho : ops[i]? = some o) (hd : o.dst = some d) (hn : Nat.blt d n = true) (hg : fguard ops env o = some true)
    (hop : o.op = .convert t u x) (ht : c.P.underlying t = some .string) (hu : c.P.underlying u = some (.slice e)) (he : c.P.underlying e = some (.int .u8)) (hx : fev env x = some (.string (bs l))) (hl : l.length ≤ 9223372036854775807)
    (h : ∀ b (cs : Array Value), l.length ≤ cs.size → cs.size ≤ 9223372036854775807 → cs.toList.take l.length = bcells l → G c n ((d, .slice (some ⟨b, 0, none⟩) l.length cs.size) :: env) ((some b, .cells cs e (cs.size, cs.size + 1)) :: L) (.inRegion ops rest :: k)) :
    G c n env L (.inRegion ops (i :: rest) :: k) := by
  intro a w hk hm
  refine goes_op ho (wanted_of hk hg) ?_
  have hr := run_bytes_of_string (P := c.P) w t u e (bs l) ht hu he
  have hge := grownCap_ge w l.length 0 e
  have hcm := grownCap_le_maxLen w l.length 0 e (by unfold maxLen; omega)
  unfold maxLen at hcm
  rw [bs_size] at hr
  generalize hK : grownCap w l.length 0 e = K at hr hge hcm
  have hsz : (bytesRow (bs l) K).size = K := by
    unfold bytesRow
    rw [Array.size_append, Array.size_map, Array.size_replicate, show (bs l).data.size = l.length by simp [bs], bs_size]
    omega
  have htk : (bytesRow (bs l) K).toList.take l.length = bcells l := by
    unfold bytesRow
    rw [Array.toList_append, List.take_append_of_le_length (by simp [bs]), Array.toList_map]
    rw [List.take_of_length_le (by simp [bs])]
    simp [bs, bcells]
  have hrun : (execOp a.eval o).run c.P w = .ok (.value (.slice (some ⟨w.heap.size, 0, none⟩) l.length K)) (w.drew.alloc (.cells (bytesRow (bs l) K) e (K, K + 1))) := by
    simp only [execOp, hop, hk.eval hx]
    rw [Sem.run_bind, hr, hsz]
    rfl
  rw [hrun, Oper.upon_value, hd]
  have hm' := (hm.drew (w.drawn + 1)).alloc (.cells (bytesRow (bs l) K) e (K, K + 1))
  have := h w.heap.size (bytesRow (bs l) K) (by omega) (by omega) htk
  rw [hsz] at this
  exact this _ _ (hk.put hn _) hm'

/-- A store into a place ahead of what is frozen. -/
theorem P_store1F {x y : Operand} {t T : TypeId} {b off : Nat} {cs : Array Value} {fr : Nat × Nat} {ti : TypeInfo} {v : Value} (hop : o.op = .store t x y) (hx : fev env x = some (.pointer (some ⟨b, off, none⟩))) (hy : fev env y = some v) (hm : (some b, Obj.cells cs T fr) ∈ L) (hoff : off < cs.size) (hfr : off < fr.1)
    (hs : c.P.info? t = some ti) (h1 : ti.size = 1) (hv : v.oneCell' = true) : Put c n env L o b (.cells (cs.setIfInBounds off v) T fr) := fun a w hk hmm => by
  have hw := hmm.lies hm
  have hc : w.cell? ⟨b, off, none⟩ = some cs[off] := by rw [cell_of_row w b off cs T fr hw]; simp [hoff]
  have hf : w.frozen? ⟨b, off, none⟩ = false := by
    obtain ⟨lo, hi⟩ := fr
    simp only [World.frozen?, hw]
    rw [decide_eq_false (show ¬ lo ≤ off by simp only at hfr; omega)]
    rfl
  have hcells : v.cells = #[v] := by cases v <;> first | rfl | simp [Value.oneCell'] at hv
  have hsame : (w.setCell ⟨b, off, none⟩ v).heap[b]? = some (.cells (cs.setIfInBounds off v) T fr) := by
    rw [setCell_eq_setRow w b off cs T fr v hw]
    exact setRow_heap w b cs _ T _ hw
  refine ⟨w.setCell ⟨b, off, none⟩ v, ?_, rfl, rfl, rfl, by simp, hsame, fun k hne => heap_setCell_other w _ k v hne⟩
  have hst : (storeVar t ⟨b, off, none⟩ v).run c.P w = .ok () (w.setCell ⟨b, off, none⟩ v) := by
    simp [storeVar, sizeOf, typeInfo, hs, h1, hcells, storeCells, Addr.add_zero', run_store _ _ _ _ _ hv, hc, hf]
  simp [execOp, hop, hk.eval hx, hk.eval hy, Instr.storeAt, Instr.sureAddr, hst]
end

/-- The cells of a row whose first ones are some bytes, one of them turned. -/
theorem bytes_set {cs : Array Value} {l : List UInt8} (h : cs.toList.take l.length = bcells l) {j : Nat} (hj : j < l.length) (hl : l.length ≤ cs.size) (v : UInt8) :
    (cs.setIfInBounds j (.int .u8 (v.toNat : Int))).toList.take (l.set j v).length = bcells (l.set j v) := by
  rw [Array.toList_setIfInBounds, List.length_set, List.take_set, h]
  unfold bcells
  rw [List.map_set]
theorem bytes_at {cs : Array Value} {l : List UInt8} (h : cs.toList.take l.length = bcells l) {j : Nat} {v : UInt8} (hv : l[j]? = some v) : cs[j]? = some (.int .u8 (v.toNat : Int)) := by
  have hj : j < l.length := (List.getElem?_eq_some_iff.1 hv).1
  have h1 : (cs.toList.take l.length)[j]? = (bcells l)[j]? := by rw [h]
  rw [List.getElem?_take, if_pos hj] at h1
  have h2 : (bcells l)[j]? = some (.int .u8 (v.toNat : Int)) := by unfold bcells; rw [List.getElem?_map, hv]; rfl
  rw [h2] at h1
  simpa using h1
end Go.Proofs.Ytkekkalgebgokaa
