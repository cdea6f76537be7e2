/- A frame and a memory known in part, told by lists: how a call goes from a stack of what is left to do to its return. No program in sight. -/
import Derived.WalkKit
import Derived.Lib.Hide
import Derived.Deep.Quiet
set_option linter.unusedSimpArgs false
set_option linter.unusedVariables false
namespace Go.Proofs.YtkekkalgebgokaaDoor
open Go Go.RowKit

/-- What is known of a slot. -/
def fget : List (Nat × Value) → Nat → Option Value
  | [], _ => none
  | (k, v) :: r, t => match Nat.beq k t with
    | true => some v
    | false => fget r t

structure Knows (ds : List Deferred) (n : Nat) (env : List (Nat × Value)) (a : Act) : Prop where
  size : a.tmps.size = n
  defers : a.defers = ds
  get : ∀ t v, fget env t = some v → a.tmps.getD t undef = v

theorem fget_cons (k : Nat) (v : Value) (r : List (Nat × Value)) (t : Nat) : fget ((k, v) :: r) t = if k = t then some v else fget r t := by
  simp only [fget]
  by_cases h : k = t
  · subst h; simp
  · have : Nat.beq k t = false := by rw [← Bool.not_eq_true]; intro e; exact h (Nat.eq_of_beq_eq_true e)
    simp [this, h]

theorem Knows.put {ds : List Deferred} {n : Nat} {env : List (Nat × Value)} {a : Act} (h : Knows ds n env a) {d : Nat} (hd : Nat.blt d n = true) (v : Value) : Knows ds n ((d, v) :: env) (a.put (some d) v) := by
  have hd : d < n := by simpa [Nat.blt_eq] using hd
  refine ⟨by simp [Act.put, h.size], by simp [Act.put, h.defers], fun t u ht => ?_⟩
  have hs := h.size
  rw [fget_cons] at ht
  simp only [Act.put, Array.getD_eq_getD_getElem?, Array.getElem?_setIfInBounds]
  by_cases e : d = t
  · rw [if_pos e] at ht
    subst e
    have : d < a.tmps.size := by omega
    cases ht
    simp [this]
  · rw [if_neg e] at ht
    rw [if_neg e]
    have := h.get t u ht
    rwa [Array.getD_eq_getD_getElem?] at this

theorem Knows.putNone {ds : List Deferred} {n : Nat} {env : List (Nat × Value)} {a : Act} (h : Knows ds n env a) (v : Value) : Knows ds n env (a.put none v) := h

/-- An operand's value. -/
def fev (env : List (Nat × Value)) : Operand → Option Value
  | .tmp t => fget env t
  | .const v => some v
  | .global g => some (.pointer (some ⟨g, 0, none⟩))
  | .func f => some (.func (.func f) #[] #[])

theorem Knows.eval {ds : List Deferred} {n : Nat} {env : List (Nat × Value)} {a : Act} (h : Knows ds n env a) {x : Operand} {v : Value} (hx : fev env x = some v) : a.eval x = v := by
  cases x <;> simp only [fev, Option.some.injEq] at hx
  · exact h.get _ _ hx
  all_goals exact hx

def fevs (env : List (Nat × Value)) : List Operand → Option (List Value)
  | [] => some []
  | x :: xs => match fev env x with
    | none => none
    | some v => match fevs env xs with
      | none => none
      | some vs => some (v :: vs)

theorem Knows.evals {ds : List Deferred} {n : Nat} {env : List (Nat × Value)} {a : Act} (h : Knows ds n env a) : ∀ {xs : List Operand} {vs : List Value}, fevs env xs = some vs → xs.map a.eval = vs
  | [], vs, hx => by simp only [fevs, Option.some.injEq] at hx; subst hx; rfl
  | x :: xs, vs, hx => by
    simp only [fevs] at hx
    split at hx
    · cases hx
    · rename_i v hv
      split at hx
      · cases hx
      · rename_i us hus
        simp only [Option.some.injEq] at hx
        subst hx
        simp [h.eval hv, h.evals hus]

/-- What slots a list tells is told by another. -/
def FSub : List (Nat × Value) → List (Nat × Value) → Prop
  | [], _ => True
  | (t, v) :: r, env => fget env t = some v ∧ FSub r env

theorem FSub.get {env : List (Nat × Value)} : ∀ {e : List (Nat × Value)}, FSub e env → ∀ t v, fget e t = some v → fget env t = some v
  | [], _, t, v, h => by simp [fget] at h
  | (k, u) :: r, hs, t, v, h => by
    rw [fget_cons] at h
    by_cases e : k = t
    · rw [if_pos e] at h
      cases h
      subst e
      exact hs.1
    · rw [if_neg e] at h
      exact FSub.get hs.2 t v h

theorem Knows.sub {ds : List Deferred} {n : Nat} {env e : List (Nat × Value)} {a : Act} (h : Knows ds n env a) (hs : FSub e env) : Knows ds n e a :=
  ⟨h.size, h.defers, fun t v ht => h.get t v (hs.get t v ht)⟩

/-- Blocks apart. -/
def Apart (x y : Option Nat × Obj) : Prop := ∀ b, x.1 = some b → y.1 ≠ some b
theorem Apart.symm {x y : Option Nat × Obj} (h : Apart x y) : Apart y x := fun b hy hx => h b hx hy

def hkeys : List (Option Nat × Obj) → List Nat
  | [] => []
  | (none, _) :: r => hkeys r
  | (some b, _) :: r => b :: hkeys r

theorem mem_hkeys {b : Nat} : ∀ {L : List (Option Nat × Obj)}, b ∈ hkeys L ↔ ∃ o, (some b, o) ∈ L
  | [] => by simp [hkeys]
  | (none, o) :: r => by simp [hkeys, mem_hkeys (L := r)]
  | (some c, o) :: r => by
    simp only [hkeys, List.mem_cons, mem_hkeys (L := r), Prod.mk.injEq, Option.some.injEq]
    constructor
    · rintro (rfl | ⟨o', h⟩)
      · exact ⟨o, .inl ⟨rfl, rfl⟩⟩
      · exact ⟨o', .inr h⟩
    · rintro ⟨o', ⟨rfl, rfl⟩ | h⟩
      · exact .inl rfl
      · exact .inr ⟨o', h⟩

/-- What lies where: A may be read alone (blocks may be told twice there); L's blocks are apart, from each other and from A's. -/
structure Has (w : World) (A L : List (Option Nat × Obj)) : Prop where
  liesA : ∀ b o, (some b, o) ∈ A → w.heap[b]? = some o
  apart : L.Pairwise Apart
  lies : ∀ b o, (some b, o) ∈ L → w.heap[b]? = some o
  cross : ∀ x ∈ A, ∀ y ∈ L, Apart x y

theorem Has.perm {w : World} {A L L' : List (Option Nat × Obj)} (h : Has w A L) (hp : L.Perm L') : Has w A L' :=
  ⟨h.liesA, hp.pairwise h.apart (fun h => h.symm), fun b o hm => h.lies b o (hp.mem_iff.2 hm), fun x hx y hy => h.cross x hx y (hp.mem_iff.2 hy)⟩
theorem Has.left {w : World} {A L M : List (Option Nat × Obj)} (h : Has w A (L ++ M)) : Has w A L :=
  ⟨h.liesA, (List.pairwise_append.1 h.apart).1, fun b o hm => h.lies b o (List.mem_append_left _ hm), fun x hx y hy => h.cross x hx y (List.mem_append_left _ hy)⟩
theorem Has.dropA {w : World} {A L : List (Option Nat × Obj)} (h : Has w A L) : Has w [] L := ⟨fun _ _ h => (by cases h), h.apart, h.lies, fun _ h => (by cases h)⟩
theorem Has.both {w : World} {A L : List (Option Nat × Obj)} (h : Has w A L) {b : Nat} {o : Obj} (hm : (some b, o) ∈ A ++ L) : w.heap[b]? = some o := by
  rcases List.mem_append.1 hm with hm | hm
  · exact h.liesA b o hm
  · exact h.lies b o hm
theorem lt_of_lies {w : World} {b : Nat} {o : Obj} (h : w.heap[b]? = some o) : b < w.heap.size := by
  rcases Nat.lt_or_ge b w.heap.size with h' | h'
  · exact h'
  · rw [Array.getElem?_eq_none h'] at h; cases h
theorem Has.lt {w : World} {A L : List (Option Nat × Obj)} (h : Has w A L) {b : Nat} {o : Obj} (hm : (some b, o) ∈ A ++ L) : b < w.heap.size := lt_of_lies (h.both hm)
theorem has_nil (w : World) : Has w [] [] := ⟨fun _ _ h => (by cases h), .nil, fun _ _ h => (by cases h), fun _ h => (by cases h)⟩

structure Chg (w0 : World) (S : List Nat) (w : World) : Prop where
  os : w.os = w0.os
  tape : w.tape = w0.tape
  output : w.output = w0.output
  size : w0.heap.size ≤ w.heap.size
  block : ∀ k, k < w0.heap.size → k ∉ S → w.heap[k]? = w0.heap[k]?

theorem Chg.refl (w : World) (S : List Nat) : Chg w S w := ⟨rfl, rfl, rfl, Nat.le_refl _, fun _ _ _ => rfl⟩
theorem Chg.trans {w0 w1 w2 : World} {S T : List Nat} (h : Chg w0 S w1) (k : Chg w1 T w2) (hT : ∀ b ∈ T, b ∈ S ∨ w0.heap.size ≤ b) : Chg w0 S w2 :=
  ⟨k.os.trans h.os, k.tape.trans h.tape, k.output.trans h.output, Nat.le_trans h.size k.size, fun i hi hS =>
    (k.block i (Nat.lt_of_lt_of_le hi h.size) (fun ht => by rcases hT i ht with h | h; exact hS h; omega)).trans (h.block i hi hS)⟩

structure Mem (w0 : World) (A : List (Option Nat × Obj)) (S : List Nat) (L : List (Option Nat × Obj)) (w : World) : Prop where
  has : Has w A L
  own : ∀ b o, (some b, o) ∈ L → b ∈ S ∨ w0.heap.size ≤ b
  chg : Chg w0 S w

/-- Some entries, by their places (each counted in what is left), and the others. -/
def tk : List Nat → List (Option Nat × Obj) → Option (List (Option Nat × Obj) × List (Option Nat × Obj))
  | [], L => some ([], L)
  | i :: is, L => match L[i]? with
    | none => none
    | some x => match tk is (L.eraseIdx i) with
      | none => none
      | some (l, r) => some (x :: l, r)

theorem perm_eraseIdx {α : Type} : ∀ (L : List α) (i : Nat) (x : α), L[i]? = some x → L.Perm (x :: L.eraseIdx i)
  | [], i, x, h => by simp at h
  | y :: L, 0, x, h => by simp at h; subst h; exact .refl _
  | y :: L, i + 1, x, h => by
    simp only [List.eraseIdx_cons_succ]
    exact (List.Perm.cons y (perm_eraseIdx L i x (by simpa using h))).trans (.swap x y _)

theorem tk_perm : ∀ {is : List Nat} {L l r : List (Option Nat × Obj)}, tk is L = some (l, r) → L.Perm (l ++ r)
  | [], L, l, r, h => by simp only [tk, Option.some.injEq, Prod.mk.injEq] at h; obtain ⟨rfl, rfl⟩ := h; exact .refl _
  | i :: is, L, l, r, h => by
    simp only [tk] at h
    split at h
    · cases h
    · rename_i x hx
      split at h
      · cases h
      · rename_i l' r' ht
        simp only [Option.some.injEq, Prod.mk.injEq] at h
        obtain ⟨rfl, rfl⟩ := h
        exact (perm_eraseIdx L i x hx).trans (.cons x (tk_perm ht))

/-- Some entries, by their places (a place may come twice). -/
def pk : List Nat → List (Option Nat × Obj) → Option (List (Option Nat × Obj))
  | [], _ => some []
  | i :: is, L => match L[i]? with
    | none => none
    | some x => match pk is L with
      | none => none
      | some l => some (x :: l)
theorem pk_mem : ∀ {is : List Nat} {L l : List (Option Nat × Obj)}, pk is L = some l → ∀ x ∈ l, x ∈ L
  | [], L, l, h, x, hx => by simp only [pk, Option.some.injEq] at h; subst h; cases hx
  | i :: is, L, l, h, x, hx => by
    simp only [pk] at h
    split at h
    · cases h
    · rename_i y hy
      split at h
      · cases h
      · rename_i l' hl
        simp only [Option.some.injEq] at h
        subst h
        rcases List.mem_cons.1 hx with e | hx
        · subst e; exact List.mem_of_getElem? hy
        · exact pk_mem hl x hx

theorem Mem.sub {w0 w : World} {A L L' R : List (Option Nat × Obj)} {S : List Nat} (h : Mem w0 A S L w) (hp : L.Perm (L' ++ R)) : Mem w0 A S L' w :=
  ⟨(h.has.perm hp).left, fun b o hm => h.own b o (hp.mem_iff.2 (List.mem_append_left _ hm)), h.chg⟩
theorem Mem.lies {w0 w : World} {A L : List (Option Nat × Obj)} {S : List Nat} (h : Mem w0 A S L w) {b : Nat} {o : Obj} (hm : (some b, o) ∈ L) : w.heap[b]? = some o := h.has.lies b o hm
theorem Mem.drew {w0 w : World} {A L : List (Option Nat × Obj)} {S : List Nat} (h : Mem w0 A S L w) (k : Nat) : Mem w0 A S L { w with drawn := k } :=
  ⟨⟨h.has.liesA, h.has.apart, h.has.lies, h.has.cross⟩, h.own, ⟨h.chg.os, h.chg.tape, h.chg.output, h.chg.size, h.chg.block⟩⟩

/-- A call under way: its function, the world in which it began, what it may read, what it may write, what it must show at its return. -/
structure Cx where
  P : Program
  f : FuncId
  w0 : World
  A : List (Option Nat × Obj)
  S : List Nat
  R : Value → List (Option Nat × Obj) → Prop
  ds : List Deferred

def GoesTo (c : Cx) (todo : List Item) (a : Act) (w : World) : Prop :=
  ∀ (b : Frame), b.fn = c.f → b.kind = .normal → ∀ cs, ∃ v post w' fr, c.R v post ∧ Mem c.w0 [] c.S post w' ∧ Steps c.P (lone (b.at a todo) cs w) (lone fr cs w') ∧ fr.fn = c.f ∧ fr.leaving c.P w' (.returned v)

theorem goes_of {c : Cx} {todo todo' : List Item} {a a' : Act} {w w' : World} (hs : ∀ (b : Frame) cs, step c.P (lone (b.at a todo) cs w) = .next (lone (b.at a' todo') cs w')) (h : GoesTo c todo' a' w') : GoesTo c todo a w :=
  fun b hb hk cs => let ⟨v, p, w2, fr, hR, hm, hst, e⟩ := h b hb hk cs; ⟨v, p, w2, fr, hR, hm, .head (hs b cs) hst, e⟩

def G (c : Cx) (n : Nat) (env : List (Nat × Value)) (L : List (Option Nat × Obj)) (todo : List Item) : Prop :=
  ∀ a w, Knows c.ds n env a → Mem c.w0 c.A c.S L w → GoesTo c todo a w

section
variable {c : Cx} {n : Nat} {env : List (Nat × Value)} {L : List (Option Nat × Obj)} {k : List Item}
theorem G_skip (h : G c n env L k) : G c n env L (.code .skip :: k) := fun a w hk hm => goes_of (fun _ _ => step_skip) (h a w hk hm)
theorem G_label {l : Nat} (h : G c n env L k) : G c n env L (.code (.label l) :: k) := fun a w hk hm => goes_of (fun _ _ => step_label) (h a w hk hm)
theorem G_inBlock {id : Nat} (h : G c n env L k) : G c n env L (.inBlock id :: k) := fun a w hk hm => goes_of (fun _ _ => step_inBlock) (h a w hk hm)
theorem G_seq {x y : Code} (h : G c n env L (.code x :: .code y :: k)) : G c n env L (.code (.seq x y) :: k) := fun a w hk hm => goes_of (fun _ _ => step_seq) (h a w hk hm)
theorem G_block {id : Nat} {x : Code} (h : G c n env L (.code x :: .inBlock id :: k)) : G c n env L (.code (.block id x) :: k) := fun a w hk hm => goes_of (fun _ _ => step_block) (h a w hk hm)
theorem G_exit {id : Nat} {k' : List Item} (he : exitTo id k = some k') (h : G c n env L k') : G c n env L (.code (.exit id) :: k) := fun a w hk hm => goes_of (fun _ _ => step_exit he) (h a w hk hm)
theorem G_goto {l : Nat} {k' : List Item} (he : gotoIn l k = some k') (h : G c n env L k') : G c n env L (.code (.goto l) :: k) := fun a w hk hm => goes_of (fun _ _ => step_goto he) (h a w hk hm)
theorem G_then {x : Operand} {p q : Code} (hx : fev env x = some (.bool true)) (h : G c n env L (.code p :: k)) : G c n env L (.code (.cond x p q) :: k) :=
  fun a w hk hm => goes_of (fun _ _ => step_cond (hk.eval hx)) (h a w hk hm)
theorem G_else {x : Operand} {p q : Code} (hx : fev env x = some (.bool false)) (h : G c n env L (.code q :: k)) : G c n env L (.code (.cond x p q) :: k) :=
  fun a w hk hm => goes_of (fun _ _ => step_cond (hk.eval hx)) (h a w hk hm)
theorem G_if {x : Operand} {p q : Code} {t : Bool} (hx : fev env x = some (.bool t)) (hT : t = true → G c n env L (.code p :: k)) (hF : t = false → G c n env L (.code q :: k)) : G c n env L (.code (.cond x p q) :: k) := by
  cases t
  · exact G_else hx (hF rfl)
  · exact G_then hx (hT rfl)
/-- A truth is decided. -/
theorem G_split {todo : List Item} (d : Nat) {t : Bool} (hx : fget env d = some (.bool t)) (hT : t = true → G c n ((d, .bool true) :: env) L todo) (hF : t = false → G c n ((d, .bool false) :: env) L todo) : G c n env L todo := by
  have key : G c n ((d, .bool t) :: env) L todo := by
    cases t
    · exact hF rfl
    · exact hT rfl
  refine fun a w hk hm => key a w ⟨hk.size, hk.defers, fun u v hu => hk.get u v ?_⟩ hm
  rw [fget_cons] at hu
  by_cases e : d = u
  · rw [if_pos e] at hu
    subst e
    rw [hx, hu]
  · rwa [if_neg e] at hu
theorem G_sub {todo : List Item} {e : List (Nat × Value)} {L' : List (Option Nat × Obj)} (he : FSub e env) (is : List Nat) (hl : ∃ M, tk is L = some (L', M)) (h : G c n e L' todo) : G c n env L todo :=
  let ⟨_, hl⟩ := hl
  fun a w hk hm => h a w (hk.sub he) (hm.sub (tk_perm hl))
end
end Go.Proofs.YtkekkalgebgokaaDoor
