/- A slice that the call has, and that grows; bytes told as a text. No program in sight. -/
import Derived.Test.YtkekkalgebgokaaDoorG6
import Derived.Test.YtkekkalgebgokaaDoorG5
import Derived.Lib.FrozenHead
import Derived.Lib.UnsafeStr
set_option linter.unusedSimpArgs false
set_option linter.unusedVariables false
namespace Go.Proofs.YtkekkalgebgokaaDoor
open Go Go.RowKit

/-- A slice's block (none: it is nil), its cells, what is frozen, its capacity. -/
structure Sl where
  ob : Option Nat
  cs : Array Value
  fz : Nat × Nat
  cap : Nat
def Sl.v (u : Sl) (n : Nat) : Value := .slice (u.ob.map fun b => ⟨b, 0, none⟩) n u.cap
def Sl.e (u : Sl) (T : TypeId) : Option Nat × Obj := (u.ob, .cells u.cs T u.fz)
def slNil : Sl := ⟨none, #[], (0, 0), 0⟩
structure Own (sz : Nat) (u : Sl) (xs : List Value) (n : Nat) : Prop where
  len : xs.length = n * sz
  le : n ≤ u.cap
  max : u.cap ≤ 9223372036854775807
  size : u.cs.size = u.cap * sz
  pre : u.cs.toList.take (n * sz) = xs
  fz : u.fz.2 ≤ n * sz
  isNil : u.ob = none → u.cap = 0
theorem own_nil (sz : Nat) : Own sz slNil [] 0 := ⟨by simp, Nat.le_refl _, by simp [slNil], by simp [slNil], by simp [slNil], by simp [slNil], fun _ => rfl⟩
theorem Own.isSome {sz : Nat} {u : Sl} {xs : List Value} {n : Nat} (h : Own sz u xs n) (hn : 0 < n) : ∃ b, u.ob = some b := by
  cases hu : u.ob with
  | some b => exact ⟨b, rfl⟩
  | none => have := h.isNil hu; have := h.le; omega
theorem Own.nth {sz : Nat} {u : Sl} {xs : List Value} {n : Nat} (h : Own sz u xs n) {i : Nat} {v : Value} (hv : xs[i]? = some v) : u.cs[i]? = some v := by
  have h1 : i < n * sz := by
    rw [← h.len]
    exact (List.getElem?_eq_some_iff.1 hv).1
  rw [← h.pre, List.getElem?_take, if_pos h1] at hv
  simpa using hv

/-- What is kept when a slice grows. -/
structure More (s s' : Sl) : Prop where
  pos : (s.ob ≠ none → 0 < s.cap) → s'.ob ≠ none → 0 < s'.cap
  fz : s.fz = (0, 0) → s'.fz = (0, 0)

section
variable {P : Program}
theorem zeroCells_size {z : Array Value} {n : Nat} : (Builtin.zeroCells z n).size = n * z.size := by simp [Builtin.zeroCells]

/-- What is appended: its length, and its cells in any world with this heap. -/
structure Src (P : Program) (w : World) (sz : Nat) (xv : Value) (m : Nat) (news : List Value) : Prop where
  len : ∀ w1 : World, (Builtin.lenOf xv).run P w1 = .ok m w1
  cells : ∀ w1 : World, w1.heap = w.heap → (Builtin.firstCells sz m xv).run P w1 = .ok news.toArray w1
  nlen : news.length = m * sz
  one : ∀ u ∈ news, u.oneCell' = true

theorem src_slice {w : World} {sz : Nat} {a : Addr} {m c : Nat} {news : List Value} (hl : news.length = m * sz) (hn : ∀ j u, news[j]? = some u → w.cell? (a.add j) = some u) (h1 : ∀ u ∈ news, u.oneCell' = true) : Src P w sz (.slice (some a) m c) m news :=
  ⟨fun _ => rfl, fun w1 hw => run_firstCells_some (P := P) w1 sz m a m c news hl (fun j u hu => by have := hn j u hu; simp only [World.cell?, hw] at this ⊢; exact this), hl, h1⟩
theorem src_nil {w : World} {sz : Nat} : Src P w sz (.slice none 0 0) 0 [] :=
  ⟨fun _ => rfl, fun w1 hw => by simp [Builtin.firstCells], by simp, by simp⟩
theorem src_string {w : World} (l : List UInt8) : Src P w 1 (.string (bs l)) l.length (bcells l) := by
  refine ⟨fun w1 => by simp [Builtin.lenOf, bs_size], fun w1 _ => ?_, by simp [bcells_length], bcells_one l⟩
  have := Lib.run_firstCells_string (P := P) w1 1 (bs l)
  rw [bs_size] at this
  rw [this]
  rfl

theorem Sl.room {w : World} {sz : Nat} {u : Sl} {xs : List Value} {n m : Nat} {T : TypeId} {news : List Value} {b : Nat} (h : Own sz u xs n) (hb : u.ob = some b) (hl : news.length = m * sz) (hroom : n + m ≤ u.cap) :
    Own sz ⟨u.ob, (u.cs.toList.take (n * sz) ++ news ++ u.cs.toList.drop (n * sz + news.length)).toArray, u.fz, u.cap⟩ (xs ++ news) (n + m) := by
  have h2 := h.size
  have hlt : n * sz + m * sz ≤ u.cap * sz := by rw [← Nat.add_mul]; exact Nat.mul_le_mul_right _ hroom
  refine ⟨by rw [List.length_append, h.len, hl, Nat.add_mul], hroom, h.max, ?_, ?_, by have := h.fz; rw [Nat.add_mul]; simp only; omega, h.isNil⟩
  · simp only [List.size_toArray, List.length_append, List.length_take, List.length_drop, Array.length_toList]
    rw [hl]
    omega
  · simp only
    rw [h.pre]
    have : (xs ++ news).length = (n + m) * sz := by rw [List.length_append, h.len, hl, Nat.add_mul]
    rw [← this]
    exact List.take_left
theorem Own.grown {sz old : Nat} {xs news : List Value} {n m : Nat} {z : Value} {b : Nat} {w : World} {e : TypeId} (hx : xs.length = n * sz) (hl : news.length = m * sz) (hz : z.cells.size = sz) (h63 : n + m ≤ 9223372036854775807) :
    Own sz ⟨some b, (xs.toArray ++ news.toArray ++ Builtin.zeroCells z.cells (grownCap w (n + m) old e - (n + m))), (0, 0), grownCap w (n + m) old e⟩ (xs ++ news) (n + m) := by
  have hge := grownCap_ge w (n + m) old e
  have hcm : grownCap w (n + m) old e ≤ maxLen := grownCap_le_maxLen w (n + m) old e (by unfold maxLen; omega)
  unfold maxLen at hcm
  have hlen : (xs ++ news).length = (n + m) * sz := by rw [List.length_append, hx, hl, Nat.add_mul]
  refine ⟨hlen, hge, by simpa using hcm, ?_, ?_, by simp, fun h => by cases h⟩
  · simp only [Array.size_append, List.size_toArray, zeroCells_size, hz, hx, hl, ← Nat.add_mul]
    congr 1
    omega
  · simp only [Array.toList_append, List.append_assoc]
    rw [← List.append_assoc, ← hlen]
    exact List.take_left

set_option maxHeartbeats 2000000 in
/-- append: onto whatever the call has. -/
theorem run_append_any (w : World) (t u ty e : TypeId) (d : TypeDesc) (i : TypeInfo) (z : Value) (sz : Nat) (ht : P.underlying t = some (.slice e)) (hu : P.underlying u = some d) (hd : d = .string ∨ ∃ e', d = .slice e') (hi : P.info? e = some i) (hz : i.zero = some z)
    (hsz : i.size = sz) (hzs : z.cells.size = sz) (s : Sl) (xs : List Value) (n : Nat) (hown : Own sz s xs n) (hb : ∀ b, s.ob = some b → w.heap[b]? = some (.cells s.cs e s.fz))
    (xv : Value) (m : Nat) (news : List Value) (hS : Src P w sz xv m news) (h63 : n + m ≤ 9223372036854775807) (hbytes : (n + m) * i.bytes ≤ 140737488355328) :
    ∃ s' w', (Builtin.append_ #[t, u] ty #[s.v n, xv]).run P w = .ok (s'.v (n + m)) w' ∧ Own sz s' (xs ++ news) (n + m) ∧ (s'.ob = s.ob ∨ s'.ob = some w.heap.size) ∧ (∀ b, s'.ob = some b → w'.heap[b]? = some (.cells s'.cs e s'.fz)) ∧ w.grownBy w' s.ob ∧ More s s' := by
  subst hsz
  have hlen := hS.len w
  have hcells := hS.cells w rfl
  have hcellsD := hS.cells w.drew rfl
  have hnl := hS.nlen
  obtain ⟨ob, cs, fz, cap⟩ := s
  simp only at hb
  by_cases hroom : n + m ≤ cap
  · cases ob with
    | none =>
      have hc := hown.isNil rfl
      simp only at hc
      subst hc
      obtain ⟨rfl, rfl⟩ : n = 0 ∧ m = 0 := by omega
      have hn0 : news = [] := List.eq_nil_of_length_eq_zero (by simpa using hnl)
      subst hn0
      refine ⟨⟨none, cs, fz, 0⟩, w, ?_, by simpa using hown, .inl rfl, fun b hb => (by cases hb), ⟨rfl, rfl, rfl, Nat.le_refl _, fun _ _ _ => rfl⟩, ⟨fun h => h, fun h => h⟩⟩
      rcases hd with rfl | ⟨e', rfl⟩ <;> simp [Builtin.append_, run_underlying ht, run_underlying hu, sizeOf, typeInfo, hi, hlen, hcells, Sl.v]
    | some g =>
      have hg := hb g rfl
      have hle : n * i.size + news.length ≤ cs.size := by have := hown.size; simp only at this; rw [this, hnl, ← Nat.add_mul]; exact Nat.mul_le_mul_right _ hroom
      have hfz := hown.fz
      simp only at hfz
      have hst := run_storeCells_atF P g (n * i.size) e fz news 0 cs w hg (by simpa using hfz) (by simpa using hle) hS.one
      simp only [Nat.add_zero] at hst
      have ho := Sl.room (w := w) (T := e) hown rfl hnl hroom
      refine ⟨_, w.setRow g (cs.toList.take (n * i.size) ++ news ++ cs.toList.drop (n * i.size + news.length)).toArray, ?_, ho, .inl rfl, fun b hb' => ?_, ⟨rfl, rfl, rfl, by simp, fun k _ hk => setRow_other w g k _ (fun e => hk (by simp [e]))⟩, ⟨fun h => h, fun h => h⟩⟩
      rotate_left
      · cases hb'; exact setRow_heap w g cs _ e _ hg
      · rcases hd with rfl | ⟨e', rfl⟩ <;> simp [Builtin.append_, run_underlying ht, run_underlying hu, sizeOf, typeInfo, hi, hlen, hcells, Sl.v, hroom, Addr.add_lit, hst]
  · have h63' : ¬ (9223372036854775807 < ((n : Int) + (m : Int))) := by omega
    have hfit := growslice_fits (need := n + m) (old := cap) (bytes := i.bytes) (by omega) hbytes
    have h48' : ¬ (281474976710656 < Builtin.nextslicecap (n + m) cap * i.bytes) := by omega
    have hx := hown.len
    have ho := Own.grown (b := w.heap.size) (old := cap) (w := w) (e := e) hx hnl hzs h63
    refine ⟨_, w.drew.alloc (.cells (xs.toArray ++ news.toArray ++ Builtin.zeroCells z.cells (grownCap w (n + m) cap e - (n + m))) e), ?_, ho, .inr rfl, fun b hb' => ?_, ⟨rfl, rfl, rfl, by simp, fun k hk _ => Below.heap_alloc w.drew _ k hk⟩, ⟨fun _ _ => ?_, fun _ => rfl⟩⟩
    rotate_left
    · cases hb'; exact heap_alloc_new w.drew _
    · have := grownCap_ge w (n + m) cap e; simp only; omega
    · cases ob with
      | none =>
        have hc := hown.isNil rfl
        simp only at hc
        subst hc
        have hle := hown.le
        simp only at hle
        obtain rfl : n = 0 := by omega
        have hx0 : xs = [] := List.eq_nil_of_length_eq_zero (by simpa using hx)
        subst hx0
        simp only [Nat.zero_add] at *
        have hroom' : ¬ m = 0 := by omega
        have h63'' : ¬ (9223372036854775807 < (m : Int)) := by omega
        have hfo := run_firstCells_none (P := P) w.drew i.size 0 0 0
        rcases hd with rfl | ⟨e', rfl⟩ <;> simp [Builtin.append_, run_underlying ht, run_underlying hu, sizeOf, typeInfo, zeroValue, hi, hz, hlen, hroom', h63'', h48', Question.forced, hcellsD, hfo, newRow, grownCap, Sl.v]
      | some g =>
        have hg := hb g rfl
        have hfo := run_firstCells_some (P := P) w.drew i.size n ⟨g, 0, none⟩ n cap xs hx (fun j v hv => by
          have h1 := hown.nth hv
          show w.cell? _ = _
          rw [addr_add, cell_of_row w g (0 + j) cs e fz hg]
          simpa using h1)
        rcases hd with rfl | ⟨e', rfl⟩ <;> (simp [Builtin.append_, run_underlying ht, run_underlying hu, sizeOf, typeInfo, zeroValue, hi, hz, hlen, hroom, h63', h48', Question.forced, hcellsD, hfo, newRow, grownCap, Sl.v] <;> (congr 2; apply Array.ext'; simp [List.append_assoc]))
end

section
variable {c : Cx} {n : Nat} {env : List (Nat × Value)} {L : List (Option Nat × Obj)} {k : List Item} {o : Oper}

/-- An entry of no block says nothing. -/
theorem G_addNone {todo : List Item} (ob : Obj) (h : G c n env ((none, ob) :: L) todo) : G c n env L todo := fun a w hk hm =>
  h a w hk ⟨⟨hm.has.liesA, List.pairwise_cons.2 ⟨fun x _ b hb _ => (by cases hb), hm.has.apart⟩, fun b o' hb => by
      rcases List.mem_cons.1 hb with e | hb
      · cases e
      · exact hm.has.lies b o' hb, fun x hx y hy => by
      rcases List.mem_cons.1 hy with e | hy
      · subst e; exact fun b _ h2 => by cases h2
      · exact hm.has.cross x hx y hy⟩, fun b o' hb => by
      rcases List.mem_cons.1 hb with e | hb
      · cases e
      · exact hm.own b o' hb, hm.chg⟩

theorem Mem.grown {w0 w w' : World} {A l1 l2 : List (Option Nat × Obj)} {S : List Nat} {ob ob' : Option Nat} {o1 o2 : Obj} (h : Mem w0 A S (l1 ++ (ob, o1) :: l2) w) (hw : ob' = ob ∨ ob' = some w.heap.size) (hb : ∀ b, ob' = some b → w'.heap[b]? = some o2) (hg : w.grownBy w' ob) :
    Mem w0 A S (l1 ++ (ob', o2) :: l2) w' := by
  have hp : ∀ x : Option Nat × Obj, (l1 ++ x :: l2).Perm (x :: (l1 ++ l2)) := fun x => List.perm_middle
  have hh := h.has.perm (hp _)
  obtain ⟨ha, hr⟩ := List.pairwise_cons.1 hh.apart
  have hlt : ∀ b o, (some b, o) ∈ A ++ (l1 ++ l2) → b < w.heap.size := fun b o hm => by
    rcases List.mem_append.1 hm with hm | hm
    · exact lt_of_lies (hh.liesA b o hm)
    · exact lt_of_lies (hh.lies b o (List.mem_cons_of_mem _ hm))
  have hne : ∀ b o, (some b, o) ∈ A ++ (l1 ++ l2) → some b ≠ ob := fun b o hm e => by
    rcases List.mem_append.1 hm with hm | hm
    · exact hh.cross _ hm (ob, o1) (by simp) b rfl e.symm
    · exact ha _ hm b e.symm rfl
  have hne' : ∀ b o, (some b, o) ∈ A ++ (l1 ++ l2) → ob' ≠ some b := fun b o hm e => by
    rcases hw with h1 | h1
    · exact hne b o hm (by rw [← h1, e])
    · have := hlt b o hm
      rw [h1] at e
      injection e with e
      omega
  have hkeep : ∀ b o, (some b, o) ∈ A ++ (l1 ++ l2) → w'.heap[b]? = w.heap[b]? := fun b o hm => hg.block b (hlt b o hm) (hne b o hm)
  have hbase : Has w' A ((ob', o2) :: (l1 ++ l2)) := by
    refine ⟨fun b o hm => ?_, List.pairwise_cons.2 ⟨fun x hx b1 hb1 hx1 => ?_, hr⟩, fun b o hm => ?_, fun x hx y hy => ?_⟩
    · rw [hkeep b o (List.mem_append_left _ hm)]
      exact hh.liesA b o hm
    · obtain ⟨xb, xo⟩ := x
      simp only at hb1 hx1
      subst hx1
      exact hne' b1 xo (List.mem_append_right _ hx) hb1
    · rcases List.mem_cons.1 hm with e | hm
      · injection e with e1 e2
        subst e2
        exact hb b e1.symm
      · rw [hkeep b o (List.mem_append_right _ hm)]
        exact hh.lies b o (List.mem_cons_of_mem _ hm)
    · rcases List.mem_cons.1 hy with e | hy
      · subst e
        intro b1 hx1 hy1
        obtain ⟨xb, xo⟩ := x
        simp only at hx1 hy1
        subst hx1
        exact hne' b1 xo (List.mem_append_left _ hx) hy1
      · exact hh.cross x hx y (List.mem_cons_of_mem _ hy)
  refine ⟨hbase.perm (hp _).symm, fun b o hm => ?_, ⟨hg.os.trans h.chg.os, hg.tape.trans h.chg.tape, hg.output.trans h.chg.output, Nat.le_trans h.chg.size hg.size, fun i hi hS => ?_⟩⟩
  · rcases List.mem_cons.1 ((hp _).mem_iff.1 hm) with e | hm
    · injection e with e1 e2
      rcases hw with h1 | h1
      · exact h.own b o1 (by rw [e1, h1]; simp)
      · have hsz := h.chg.size
        rw [h1] at e1
        injection e1 with e1
        right; omega
    · rcases List.mem_append.1 hm with hm | hm
      · exact h.own b o (List.mem_append_left _ hm)
      · exact h.own b o (List.mem_append_right _ (List.mem_cons_of_mem _ hm))
  · rw [hg.block i (Nat.lt_of_lt_of_le hi h.chg.size) (fun e => ?_)]
    · exact h.chg.block i hi hS
    · rcases h.own i o1 (by rw [e]; simp) with h' | h'
      · exact hS h'
      · omega

theorem G_append {ops : Array Oper} {i : Nat} {rest : List Nat} {d m nn sz bt : Nat} {x y : Operand} {t u e ty : TypeId} {ds : TypeDesc} {ps : String} {es : Array Edge} {gd : Option (Nat × Bool)} {ti : TypeInfo} {z xv : Value} {s : Sl} {xs news : List Value} {l1 l2 : List (Option Nat × Obj)}
    (ho : ops[i]? = some o) (hop : o = ⟨some d, .call ⟨.builtin .append, #[x, y], #[t, u]⟩, ty, ps, es, gd⟩) (hn : Nat.blt d n = true) (hg : fguard ops env o = some true)
    (ht : c.P.underlying t = some (.slice e)) (hu : c.P.underlying u = some ds) (hds : ds = .string ∨ ∃ e', ds = .slice e') (hi : c.P.info? e = some ti) (hz : ti.zero = some z) (hsz : ti.size = sz) (hzs : z.cells.size = sz) (hbt : ti.bytes = bt)
    (hx : fev env x = some (s.v nn)) (hy : fev env y = some xv) (hown : Own sz s xs nn) (hL : L = l1 ++ (s.ob, .cells s.cs e s.fz) :: l2) (hS : ∀ w, Has w c.A L → Src c.P w sz xv m news)
    (h63 : nn + m ≤ 9223372036854775807) (hbytes : (nn + m) * bt ≤ 140737488355328)
    (h : ∀ s' : Sl, Own sz s' (xs ++ news) (nn + m) → More s s' → G c n ((d, s'.v (nn + m)) :: env) (l1 ++ (s'.ob, .cells s'.cs e s'.fz) :: l2) (.inRegion ops rest :: k)) : G c n env L (.inRegion ops (i :: rest) :: k) := by
  intro a w hk hm
  subst hop
  refine goes_op ho (wanted_of hk hg) ?_
  obtain ⟨s', w', hr, h1, h2, h3, h4, h5⟩ := run_append_any (P := c.P) w t u ty e ds ti z sz ht hu hds hi hz hsz hzs s xs nn hown (fun b hb => hm.lies (by rw [hL, ← hb]; simp)) xv m news (hS w hm.has) h63 (by rw [hbt]; exact hbytes)
  have hrun : (execOp a.eval ⟨some d, .call ⟨.builtin .append, #[x, y], #[t, u]⟩, ty, ps, es, gd⟩).run c.P w = .ok (.value (s'.v (nn + m))) w' := by
    unfold execOp
    simp only [resolve, invoke, builtin, Sem.run_bind, Sem.run_pure, Result.andThen_ok, List.map_toArray, List.map_cons, List.map_nil, hk.eval hx, hk.eval hy, hr]
  rw [hrun, Oper.upon_value]
  subst hL
  exact h s' h1 h5 _ w' (hk.put hn _) (hm.grown h2 h3 h4)

/-- The slice that is appended lies in a block that is known. -/
theorem src_mem {sz b off m cap : Nat} {cs : Array Value} {T : TypeId} {fr : Nat × Nat} {news : List Value} (hm : (some b, Obj.cells cs T fr) ∈ c.A ++ L) (hl : news.length = m * sz) (hc : (cs.toList.drop off).take news.length = news) (h1 : ∀ u ∈ news, u.oneCell' = true) (w : World) (hw : Has w c.A L) :
    Src c.P w sz (.slice (some ⟨b, off, none⟩) m cap) m news :=
  src_slice hl (fun j u hu => by
    rw [addr_add, cell_of_row w b (off + j) cs T fr (hw.both hm)]
    have hj : j < news.length := (List.getElem?_eq_some_iff.1 hu).1
    rw [← hc, List.getElem?_take, if_pos hj, List.getElem?_drop] at hu
    simpa using hu) h1
end
end Go.Proofs.YtkekkalgebgokaaDoor
