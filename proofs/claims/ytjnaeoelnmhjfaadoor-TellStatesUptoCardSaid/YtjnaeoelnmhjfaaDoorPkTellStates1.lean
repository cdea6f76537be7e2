/- What the law TellStates needs, part 1. -/
import Derived.WalkKit
import Derived.Lib.Hide
import Derived.Deep.Quiet
import Derived.BigQuiet
import Derived.Lib.QuietBelow
import Derived.IntWalk
import Derived.WalkLawsBesides
import Derived.WalkSpells
import Derived.Laws.StructEq
import Derived.Deep.RegionHeld3
import Derived.Laws.MakeOwn
import Derived.Laws.CopyRow
import Derived.DeepKeys
import Derived.Laws.IdiomStrings
import Derived.Lib.FrozenHead
import Derived.Lib.UnsafeStr
import Derived.RangeFuncRecord
import Derived.Lib.Builder
import Derived.Laws.Externs
import Derived.Lib.MakeNoZero
import Derived.Lib.Bytealg
import Derived.Test.YtjnaeoelnmhjfaaDoorProg

/- A frame and a memory known in part, told by lists: how a call goes from a stack of what is left to do to its return. No program in sight. -/
set_option linter.unusedSimpArgs false
set_option linter.unusedVariables false
namespace Go.Proofs.YtjnaeoelnmhjfaaDoor
open Go Go.RowKit

/-- What is known of a slot. -/
def fget : List (Nat × Value) → Nat → Option Value
  | [], _ => none
  | (k, v) :: r, t => match Nat.beq k t with
    | true => some v
    | false => fget r t

structure Knows (ds : List Deferred) (n : Nat) (env : List (Nat × Value)) (a : Act) : Prop where
  size : a.tmps.size = n
  defers : a.defers = ds
  get : ∀ t v, fget env t = some v → a.tmps.getD t undef = v

theorem fget_cons (k : Nat) (v : Value) (r : List (Nat × Value)) (t : Nat) : fget ((k, v) :: r) t = if k = t then some v else fget r t := by
  simp only [fget]
  by_cases h : k = t
  · subst h; simp
  · have : Nat.beq k t = false := by rw [← Bool.not_eq_true]; intro e; exact h (Nat.eq_of_beq_eq_true e)
    simp [this, h]

theorem Knows.put {ds : List Deferred} {n : Nat} {env : List (Nat × Value)} {a : Act} (h : Knows ds n env a) {d : Nat} (hd : Nat.blt d n = true) (v : Value) : Knows ds n ((d, v) :: env) (a.put (some d) v) := by
  have hd : d < n := by simpa [Nat.blt_eq] using hd
  refine ⟨by simp [Act.put, h.size], by simp [Act.put, h.defers], fun t u ht => ?_⟩
  have hs := h.size
  rw [fget_cons] at ht
  simp only [Act.put, Array.getD_eq_getD_getElem?, Array.getElem?_setIfInBounds]
  by_cases e : d = t
  · rw [if_pos e] at ht
    subst e
    have : d < a.tmps.size := by omega
    cases ht
    simp [this]
  · rw [if_neg e] at ht
    rw [if_neg e]
    have := h.get t u ht
    rwa [Array.getD_eq_getD_getElem?] at this

theorem Knows.putNone {ds : List Deferred} {n : Nat} {env : List (Nat × Value)} {a : Act} (h : Knows ds n env a) (v : Value) : Knows ds n env (a.put none v) := h

/-- An operand's value. -/
def fev (env : List (Nat × Value)) : Operand → Option Value
  | .tmp t => fget env t
  | .const v => some v
  | .global g => some (.pointer (some ⟨g, 0, none⟩))
  | .func f => some (.func (.func f) #[] #[])

theorem Knows.eval {ds : List Deferred} {n : Nat} {env : List (Nat × Value)} {a : Act} (h : Knows ds n env a) {x : Operand} {v : Value} (hx : fev env x = some v) : a.eval x = v := by
  cases x <;> simp only [fev, Option.some.injEq] at hx
  · exact h.get _ _ hx
  all_goals exact hx

def fevs (env : List (Nat × Value)) : List Operand → Option (List Value)
  | [] => some []
  | x :: xs => match fev env x with
    | none => none
    | some v => match fevs env xs with
      | none => none
      | some vs => some (v :: vs)

theorem Knows.evals {ds : List Deferred} {n : Nat} {env : List (Nat × Value)} {a : Act} (h : Knows ds n env a) : ∀ {xs : List Operand} {vs : List Value}, fevs env xs = some vs → xs.map a.eval = vs
  | [], vs, hx => by simp only [fevs, Option.some.injEq] at hx; subst hx; rfl
  | x :: xs, vs, hx => by
    simp only [fevs] at hx
    split at hx
    · cases hx
    · rename_i v hv
      split at hx
      · cases hx
      · rename_i us hus
        simp only [Option.some.injEq] at hx
        subst hx
        simp [h.eval hv, h.evals hus]

/-- What slots a list tells is told by another. -/
def FSub : List (Nat × Value) → List (Nat × Value) → Prop
  | [], _ => True
  | (t, v) :: r, env => fget env t = some v ∧ FSub r env

theorem FSub.get {env : List (Nat × Value)} : ∀ {e : List (Nat × Value)}, FSub e env → ∀ t v, fget e t = some v → fget env t = some v
  | [], _, t, v, h => by simp [fget] at h
  | (k, u) :: r, hs, t, v, h => by
    rw [fget_cons] at h
    by_cases e : k = t
    · rw [if_pos e] at h
      cases h
      subst e
      exact hs.1
    · rw [if_neg e] at h
      exact FSub.get hs.2 t v h

theorem Knows.sub {ds : List Deferred} {n : Nat} {env e : List (Nat × Value)} {a : Act} (h : Knows ds n env a) (hs : FSub e env) : Knows ds n e a :=
  ⟨h.size, h.defers, fun t v ht => h.get t v (hs.get t v ht)⟩

/-- Blocks apart. -/
def Apart (x y : Option Nat × Obj) : Prop := ∀ b, x.1 = some b → y.1 ≠ some b
theorem Apart.symm {x y : Option Nat × Obj} (h : Apart x y) : Apart y x := fun b hy hx => h b hx hy

def hkeys : List (Option Nat × Obj) → List Nat
  | [] => []
  | (none, _) :: r => hkeys r
  | (some b, _) :: r => b :: hkeys r

theorem mem_hkeys {b : Nat} : ∀ {L : List (Option Nat × Obj)}, b ∈ hkeys L ↔ ∃ o, (some b, o) ∈ L
  | [] => by simp [hkeys]
  | (none, o) :: r => by simp [hkeys, mem_hkeys (L := r)]
  | (some c, o) :: r => by
    simp only [hkeys, List.mem_cons, mem_hkeys (L := r), Prod.mk.injEq, Option.some.injEq]
    constructor
    · rintro (rfl | ⟨o', h⟩)
      · exact ⟨o, .inl ⟨rfl, rfl⟩⟩
      · exact ⟨o', .inr h⟩
    · rintro ⟨o', ⟨rfl, rfl⟩ | h⟩
      · exact .inl rfl
      · exact .inr ⟨o', h⟩

/-- What lies where: A may be read alone (blocks may be told twice there); L's blocks are apart, from each other and from A's. -/
structure Has (w : World) (A L : List (Option Nat × Obj)) : Prop where
  liesA : ∀ b o, (some b, o) ∈ A → w.heap[b]? = some o
  apart : L.Pairwise Apart
  lies : ∀ b o, (some b, o) ∈ L → w.heap[b]? = some o
  cross : ∀ x ∈ A, ∀ y ∈ L, Apart x y

theorem Has.perm {w : World} {A L L' : List (Option Nat × Obj)} (h : Has w A L) (hp : L.Perm L') : Has w A L' :=
  ⟨h.liesA, hp.pairwise h.apart (fun h => h.symm), fun b o hm => h.lies b o (hp.mem_iff.2 hm), fun x hx y hy => h.cross x hx y (hp.mem_iff.2 hy)⟩
theorem Has.left {w : World} {A L M : List (Option Nat × Obj)} (h : Has w A (L ++ M)) : Has w A L :=
  ⟨h.liesA, (List.pairwise_append.1 h.apart).1, fun b o hm => h.lies b o (List.mem_append_left _ hm), fun x hx y hy => h.cross x hx y (List.mem_append_left _ hy)⟩
theorem Has.dropA {w : World} {A L : List (Option Nat × Obj)} (h : Has w A L) : Has w [] L := ⟨fun _ _ h => (by cases h), h.apart, h.lies, fun _ h => (by cases h)⟩
theorem Has.both {w : World} {A L : List (Option Nat × Obj)} (h : Has w A L) {b : Nat} {o : Obj} (hm : (some b, o) ∈ A ++ L) : w.heap[b]? = some o := by
  rcases List.mem_append.1 hm with hm | hm
  · exact h.liesA b o hm
  · exact h.lies b o hm
theorem lt_of_lies {w : World} {b : Nat} {o : Obj} (h : w.heap[b]? = some o) : b < w.heap.size := by
  rcases Nat.lt_or_ge b w.heap.size with h' | h'
  · exact h'
  · rw [Array.getElem?_eq_none h'] at h; cases h
theorem Has.lt {w : World} {A L : List (Option Nat × Obj)} (h : Has w A L) {b : Nat} {o : Obj} (hm : (some b, o) ∈ A ++ L) : b < w.heap.size := lt_of_lies (h.both hm)
theorem has_nil (w : World) : Has w [] [] := ⟨fun _ _ h => (by cases h), .nil, fun _ _ h => (by cases h), fun _ h => (by cases h)⟩

structure Chg (w0 : World) (S : List Nat) (w : World) : Prop where
  os : w.os = w0.os
  tape : w.tape = w0.tape
  output : w.output = w0.output
  size : w0.heap.size ≤ w.heap.size
  block : ∀ k, k < w0.heap.size → k ∉ S → w.heap[k]? = w0.heap[k]?

theorem Chg.refl (w : World) (S : List Nat) : Chg w S w := ⟨rfl, rfl, rfl, Nat.le_refl _, fun _ _ _ => rfl⟩
theorem Chg.trans {w0 w1 w2 : World} {S T : List Nat} (h : Chg w0 S w1) (k : Chg w1 T w2) (hT : ∀ b ∈ T, b ∈ S ∨ w0.heap.size ≤ b) : Chg w0 S w2 :=
  ⟨k.os.trans h.os, k.tape.trans h.tape, k.output.trans h.output, Nat.le_trans h.size k.size, fun i hi hS =>
    (k.block i (Nat.lt_of_lt_of_le hi h.size) (fun ht => by rcases hT i ht with h | h; exact hS h; omega)).trans (h.block i hi hS)⟩

structure Mem (w0 : World) (A : List (Option Nat × Obj)) (S : List Nat) (L : List (Option Nat × Obj)) (w : World) : Prop where
  has : Has w A L
  own : ∀ b o, (some b, o) ∈ L → b ∈ S ∨ w0.heap.size ≤ b
  chg : Chg w0 S w

/-- Some entries, by their places (each counted in what is left), and the others. -/
def tk : List Nat → List (Option Nat × Obj) → Option (List (Option Nat × Obj) × List (Option Nat × Obj))
  | [], L => some ([], L)
  | i :: is, L => match L[i]? with
    | none => none
    | some x => match tk is (L.eraseIdx i) with
      | none => none
      | some (l, r) => some (x :: l, r)

theorem perm_eraseIdx {α : Type} : ∀ (L : List α) (i : Nat) (x : α), L[i]? = some x → L.Perm (x :: L.eraseIdx i)
  | [], i, x, h => by simp at h
  | y :: L, 0, x, h => by simp at h; subst h; exact .refl _
  | y :: L, i + 1, x, h => by
    simp only [List.eraseIdx_cons_succ]
    exact (List.Perm.cons y (perm_eraseIdx L i x (by simpa using h))).trans (.swap x y _)

theorem tk_perm : ∀ {is : List Nat} {L l r : List (Option Nat × Obj)}, tk is L = some (l, r) → L.Perm (l ++ r)
  | [], L, l, r, h => by simp only [tk, Option.some.injEq, Prod.mk.injEq] at h; obtain ⟨rfl, rfl⟩ := h; exact .refl _
  | i :: is, L, l, r, h => by
    simp only [tk] at h
    split at h
    · cases h
    · rename_i x hx
      split at h
      · cases h
      · rename_i l' r' ht
        simp only [Option.some.injEq, Prod.mk.injEq] at h
        obtain ⟨rfl, rfl⟩ := h
        exact (perm_eraseIdx L i x hx).trans (.cons x (tk_perm ht))

/-- Some entries, by their places (a place may come twice). -/
def pk : List Nat → List (Option Nat × Obj) → Option (List (Option Nat × Obj))
  | [], _ => some []
  | i :: is, L => match L[i]? with
    | none => none
    | some x => match pk is L with
      | none => none
      | some l => some (x :: l)
theorem pk_mem : ∀ {is : List Nat} {L l : List (Option Nat × Obj)}, pk is L = some l → ∀ x ∈ l, x ∈ L
  | [], L, l, h, x, hx => by simp only [pk, Option.some.injEq] at h; subst h; cases hx
  | i :: is, L, l, h, x, hx => by
    simp only [pk] at h
    split at h
    · cases h
    · rename_i y hy
      split at h
      · cases h
      · rename_i l' hl
        simp only [Option.some.injEq] at h
        subst h
        rcases List.mem_cons.1 hx with e | hx
        · subst e; exact List.mem_of_getElem? hy
        · exact pk_mem hl x hx

theorem Mem.sub {w0 w : World} {A L L' R : List (Option Nat × Obj)} {S : List Nat} (h : Mem w0 A S L w) (hp : L.Perm (L' ++ R)) : Mem w0 A S L' w :=
  ⟨(h.has.perm hp).left, fun b o hm => h.own b o (hp.mem_iff.2 (List.mem_append_left _ hm)), h.chg⟩
theorem Mem.lies {w0 w : World} {A L : List (Option Nat × Obj)} {S : List Nat} (h : Mem w0 A S L w) {b : Nat} {o : Obj} (hm : (some b, o) ∈ L) : w.heap[b]? = some o := h.has.lies b o hm
theorem Mem.drew {w0 w : World} {A L : List (Option Nat × Obj)} {S : List Nat} (h : Mem w0 A S L w) (k : Nat) : Mem w0 A S L { w with drawn := k } :=
  ⟨⟨h.has.liesA, h.has.apart, h.has.lies, h.has.cross⟩, h.own, ⟨h.chg.os, h.chg.tape, h.chg.output, h.chg.size, h.chg.block⟩⟩

/-- A call under way: its function, the world in which it began, what it may read, what it may write, what it must show at its return. -/
structure Cx where
  P : Program
  f : FuncId
  w0 : World
  A : List (Option Nat × Obj)
  S : List Nat
  R : Value → List (Option Nat × Obj) → Prop
  ds : List Deferred

def GoesTo (c : Cx) (todo : List Item) (a : Act) (w : World) : Prop :=
  ∀ (b : Frame), b.fn = c.f → b.kind = .normal → ∀ cs, ∃ v post w' fr, c.R v post ∧ Mem c.w0 [] c.S post w' ∧ Steps c.P (lone (b.at a todo) cs w) (lone fr cs w') ∧ fr.fn = c.f ∧ fr.leaving c.P w' (.returned v)

theorem goes_of {c : Cx} {todo todo' : List Item} {a a' : Act} {w w' : World} (hs : ∀ (b : Frame) cs, step c.P (lone (b.at a todo) cs w) = .next (lone (b.at a' todo') cs w')) (h : GoesTo c todo' a' w') : GoesTo c todo a w :=
  fun b hb hk cs => let ⟨v, p, w2, fr, hR, hm, hst, e⟩ := h b hb hk cs; ⟨v, p, w2, fr, hR, hm, .head (hs b cs) hst, e⟩

def G (c : Cx) (n : Nat) (env : List (Nat × Value)) (L : List (Option Nat × Obj)) (todo : List Item) : Prop :=
  ∀ a w, Knows c.ds n env a → Mem c.w0 c.A c.S L w → GoesTo c todo a w

section
variable {c : Cx} {n : Nat} {env : List (Nat × Value)} {L : List (Option Nat × Obj)} {k : List Item}
theorem G_skip (h : G c n env L k) : G c n env L (.code .skip :: k) := fun a w hk hm => goes_of (fun _ _ => step_skip) (h a w hk hm)
theorem G_label {l : Nat} (h : G c n env L k) : G c n env L (.code (.label l) :: k) := fun a w hk hm => goes_of (fun _ _ => step_label) (h a w hk hm)
theorem G_inBlock {id : Nat} (h : G c n env L k) : G c n env L (.inBlock id :: k) := fun a w hk hm => goes_of (fun _ _ => step_inBlock) (h a w hk hm)
theorem G_seq {x y : Code} (h : G c n env L (.code x :: .code y :: k)) : G c n env L (.code (.seq x y) :: k) := fun a w hk hm => goes_of (fun _ _ => step_seq) (h a w hk hm)
theorem G_block {id : Nat} {x : Code} (h : G c n env L (.code x :: .inBlock id :: k)) : G c n env L (.code (.block id x) :: k) := fun a w hk hm => goes_of (fun _ _ => step_block) (h a w hk hm)
theorem G_exit {id : Nat} {k' : List Item} (he : exitTo id k = some k') (h : G c n env L k') : G c n env L (.code (.exit id) :: k) := fun a w hk hm => goes_of (fun _ _ => step_exit he) (h a w hk hm)
theorem G_goto {l : Nat} {k' : List Item} (he : gotoIn l k = some k') (h : G c n env L k') : G c n env L (.code (.goto l) :: k) := fun a w hk hm => goes_of (fun _ _ => step_goto he) (h a w hk hm)
theorem G_then {x : Operand} {p q : Code} (hx : fev env x = some (.bool true)) (h : G c n env L (.code p :: k)) : G c n env L (.code (.cond x p q) :: k) :=
  fun a w hk hm => goes_of (fun _ _ => step_cond (hk.eval hx)) (h a w hk hm)
theorem G_else {x : Operand} {p q : Code} (hx : fev env x = some (.bool false)) (h : G c n env L (.code q :: k)) : G c n env L (.code (.cond x p q) :: k) :=
  fun a w hk hm => goes_of (fun _ _ => step_cond (hk.eval hx)) (h a w hk hm)
theorem G_if {x : Operand} {p q : Code} {t : Bool} (hx : fev env x = some (.bool t)) (hT : t = true → G c n env L (.code p :: k)) (hF : t = false → G c n env L (.code q :: k)) : G c n env L (.code (.cond x p q) :: k) := by
  cases t
  · exact G_else hx (hF rfl)
  · exact G_then hx (hT rfl)
/-- A truth is decided. -/
theorem G_split {todo : List Item} (d : Nat) {t : Bool} (hx : fget env d = some (.bool t)) (hT : t = true → G c n ((d, .bool true) :: env) L todo) (hF : t = false → G c n ((d, .bool false) :: env) L todo) : G c n env L todo := by
  have key : G c n ((d, .bool t) :: env) L todo := by
    cases t
    · exact hF rfl
    · exact hT rfl
  refine fun a w hk hm => key a w ⟨hk.size, hk.defers, fun u v hu => hk.get u v ?_⟩ hm
  rw [fget_cons] at hu
  by_cases e : d = u
  · rw [if_pos e] at hu
    subst e
    rw [hx, hu]
  · rwa [if_neg e] at hu
theorem G_sub {todo : List Item} {e : List (Nat × Value)} {L' : List (Option Nat × Obj)} (he : FSub e env) (is : List Nat) (hl : ∃ M, tk is L = some (L', M)) (h : G c n e L' todo) : G c n env L todo :=
  let ⟨_, hl⟩ := hl
  fun a w hk hm => h a w (hk.sub he) (hm.sub (tk_perm hl))
end
end Go.Proofs.YtjnaeoelnmhjfaaDoor

/- How a call goes: loops, returns, regions, operations, calls of contracts. No program in sight. -/
set_option linter.unusedSimpArgs false
set_option linter.unusedVariables false
namespace Go.Proofs.YtjnaeoelnmhjfaaDoor
open Go Go.RowKit

section
variable {c : Cx} {n : Nat} {env : List (Nat × Value)} {L : List (Option Nat × Obj)} {k : List Item}

theorem G_loop {X : Type} {body : Code} (J : X → Prop) (μ : X → Nat) (E : X → List (Nat × Value)) (H : X → List (Option Nat × Obj))
    (round : ∀ x, J x → (∀ x', J x' → μ x' < μ x → G c n (E x') (H x') (.inLoop body :: k)) → G c n (E x) (H x) (.code body :: .inLoop body :: k))
    (x0 : X) (h0 : J x0) : G c n (E x0) (H x0) (.code (.loop body) :: k) := by
  have key : ∀ m x, μ x = m → J x → G c n (E x) (H x) (.code body :: .inLoop body :: k) := by
    intro m
    induction m using Nat.strongRecOn with
    | _ m ih =>
      intro x hm hJ
      refine round x hJ fun x' hJ' hlt a w hk hmm => goes_of (fun _ _ => step_inLoop) (ih (μ x') (hm ▸ hlt) x' rfl hJ' a w hk hmm)
  exact fun a w hk hm => goes_of (fun _ _ => step_loop) (key _ x0 rfl h0 a w hk hm)

/-- A result, as it stands at the return. -/
def rvrun (tmps : Array Value) (r : ResultVar) : Sem Value := match r with
  | .tmp t => pure (tmps.getD t undef)
  | .cell x t => do loadVar t (← asAddr (tmps.getD x undef))

def RV (c : Cx) (n : Nat) (env : List (Nat × Value)) (L : List (Option Nat × Obj)) (r : ResultVar) (v : Value) : Prop :=
  ∀ a w, Knows c.ds n env a → Mem c.w0 c.A c.S L w → (rvrun a.tmps r).run c.P w = .ok v w

def RVs (c : Cx) (n : Nat) (env : List (Nat × Value)) (L : List (Option Nat × Obj)) : List ResultVar → List Value → Prop
  | [], [] => True
  | r :: rs, v :: vs => RV c n env L r v ∧ RVs c n env L rs vs
  | _, _ => False

theorem RVs_nil : RVs c n env L [] [] := trivial
theorem RVs_cons {r : ResultVar} {v : Value} {rs : List ResultVar} {vs : List Value} (h : RV c n env L r v) (hs : RVs c n env L rs vs) : RVs c n env L (r :: rs) (v :: vs) := ⟨h, hs⟩

def packed (vs : List Value) : Value := match vs with
  | [v] => v
  | vs => .tuple vs.toArray

theorem RVs.run {a : Act} {w : World} (hk : Knows c.ds n env a) (hm : Mem c.w0 c.A c.S L w) : ∀ {rs : List ResultVar} {vs : List Value}, RVs c n env L rs vs → (rs.mapM (rvrun a.tmps)).run c.P w = .ok vs w
  | [], [], _ => rfl
  | r :: rs, v :: vs, h => by
    have h0 := h.1 a w hk hm
    have ih := RVs.run hk hm h.2
    rw [List.mapM_cons]
    simp [h0, ih]
  | [], _ :: _, h => h.elim
  | _ :: _, [], h => h.elim

theorem goes_ret {fn : Func} {rs : List ResultVar} {vs : List Value} {post : List (Option Nat × Obj)} (hr : fn.results = rs.toArray)
    (hv : RVs c n env L rs vs) {a : Act} {w : World} (hk : Knows c.ds n env a) (hm : Mem c.w0 c.A c.S L w) : (results fn a.tmps).run c.P w = .ok (packed vs) w := by
  have h1 := hv.run hk hm
  have he : results fn a.tmps = (do
      let vs ← fn.results.mapM (rvrun a.tmps)
      pure (if h : vs.size = 1 then vs[0] else .tuple vs)) := by
    unfold results
    have : (rvrun a.tmps) = (fun | .tmp t => pure (a.tmps.getD t undef) | .cell x t => do loadVar t (← asAddr (a.tmps.getD x undef)) : ResultVar → Sem Value) := by
      funext r
      cases r <;> rfl
    rw [this]
    rfl
  rw [he, hr]
  simp only [List.mapM_toArray, Sem.run_bind, Sem.run_map, h1, Result.andThen_ok, Sem.run_pure]
  unfold packed
  match vs with
  | [] => rfl
  | [v] => rfl
  | _ :: _ :: _ => rfl

theorem Mem.dropA {w0 w : World} {A L : List (Option Nat × Obj)} {S : List Nat} (h : Mem w0 A S L w) : Mem w0 [] S L w := ⟨h.has.dropA, h.own, h.chg⟩

theorem G_ret {fn : Func} {rs : List ResultVar} {vs : List Value} {post M : List (Option Nat × Obj)} (hf : c.P.funcs[c.f]? = some fn) (hr : fn.results = rs.toArray)
    (hv : RVs c n env L rs vs) (is : List Nat) (hl : tk is L = some (post, M)) (hR : c.R (packed vs) post) (hds : c.ds = [] := by rfl) : G c n env L (.code .ret :: k) := by
  intro a w hk hm b hb hkind cs
  have h3 := goes_ret (post := post) hr hv hk hm
  exact ⟨packed vs, post, w, _, hR, (hm.sub (tk_perm hl)).dropA, .one step_ret, hb, rfl, hk.defers.trans hds, hkind, fn, by rw [← hf, ← hb]; rfl, h3⟩

theorem G_end {fn : Func} {rs : List ResultVar} {vs : List Value} {post M : List (Option Nat × Obj)} (hf : c.P.funcs[c.f]? = some fn) (hr : fn.results = rs.toArray)
    (hv : RVs c n env L rs vs) (is : List Nat) (hl : tk is L = some (post, M)) (hR : c.R (packed vs) post) (hds : c.ds = [] := by rfl) : G c n env L [] := by
  intro a w hk hm b hb hkind cs
  have h3 := goes_ret (post := post) hr hv hk hm
  exact ⟨packed vs, post, w, _, hR, (hm.sub (tk_perm hl)).dropA, .one step_end, hb, rfl, hk.defers.trans hds, hkind, fn, by rw [← hf, ← hb]; rfl, h3⟩

theorem RV_tmp {t : Nat} {v : Value} (h : fget env t = some v) : RV c n env L (.tmp t) v := fun a w hk _ => by
  have := hk.get t v h
  show (pure (a.tmps.getD t undef) : Sem Value).run c.P w = _
  rw [this]
  rfl

/-- A CONTRACT: called with these arguments where these blocks lie (A: read alone; L: may be written), it returns a value and leaves blocks of which R holds; nothing else that was there has turned. -/
def Ct (P : Program) (f : FuncId) (args : List Value) (A L : List (Option Nat × Obj)) (R : Value → List (Option Nat × Obj) → Prop) : Prop :=
  ∀ w0, Has w0 A L → Calls P f args.toArray w0 fun e w' => ∃ v post, e = .returned v ∧ R v post ∧ Mem w0 [] (hkeys L) post w'

def fargs : Nat → List Value → List (Nat × Value)
  | _, [] => []
  | i, v :: vs => (i, v) :: fargs (i + 1) vs

theorem fget_fargs : ∀ (vs : List Value) (i t : Nat) (v : Value), fget (fargs i vs) t = some v → ∃ j, t = i + j ∧ vs[j]? = some v
  | [], i, t, v, h => by simp [fargs, fget] at h
  | u :: vs, i, t, v, h => by
    simp only [fargs] at h
    rw [fget_cons] at h
    by_cases e : i = t
    · rw [if_pos e] at h
      exact ⟨0, by omega, by simpa using h⟩
    · rw [if_neg e] at h
      obtain ⟨j, h1, h2⟩ := fget_fargs vs (i + 1) t v h
      exact ⟨j + 1, by omega, by simpa using h2⟩

theorem ct_of {P : Program} {f : FuncId} {fn : Func} {body : Code} {args : List Value} {A L : List (Option Nat × Obj)} {R : Value → List (Option Nat × Obj) → Prop}
    (hf : P.funcs[f]? = some fn) (hb : fn.body = some body) (hn : Nat.ble args.length fn.ntmps = true)
    (h : ∀ w0, G ⟨P, f, w0, A, hkeys L, R, []⟩ fn.ntmps (fargs 0 args) L [.code body]) : Ct P f args A L R := by
  intro w0 hw cs
  let b : Frame := { (default : Frame) with fn := f, kind := .normal }
  have hn : args.length ≤ fn.ntmps := by simpa using hn
  have henter : Frame.enter P f args.toArray .normal =
      b.at { tmps := args.toArray ++ Array.replicate (fn.ntmps - args.toArray.size) undef, defers := [] } [.code body] := by
    simp [Frame.enter, Frame.at, hf, hb, b]
  obtain ⟨v, post, w', fr, hR, hm, hst, hfn, hl⟩ := h w0 { tmps := args.toArray ++ Array.replicate (fn.ntmps - args.toArray.size) undef, defers := [] } w0
    ⟨by simp; omega, rfl, fun t v ht => by
      obtain ⟨j, rfl, hj⟩ := fget_fargs _ _ _ _ ht
      have hlt : j < args.length := by
        rcases Nat.lt_or_ge j args.length with h | h
        · exact h
        · rw [List.getElem?_eq_none h] at hj; cases hj
      rw [Nat.zero_add, Array.getD_eq_getD_getElem?, Array.getElem?_append_left (by simpa using hlt)]
      simp [hj]⟩
    ⟨hw, fun b o hm => .inl (mem_hkeys.2 ⟨o, hm⟩), Chg.refl _ _⟩ b rfl rfl cs
  rw [← henter] at hst
  exact ⟨.returned v, w', fr, ⟨v, post, rfl, hR, hm⟩, hst, hfn, hl⟩

/-- Whether an operation is wanted. -/
def fguard (ops : Array Oper) (env : List (Nat × Value)) (o : Oper) : Option Bool := match o.guard with
  | none => some true
  | some (j, want) => match (ops[j]?).bind (·.dst) with
    | none => none
    | some d => match fget env d with
      | some (.bool b) => some (b == want)
      | some (.tuple _) => some false
      | _ => none

theorem wanted_of {ds : List Deferred} {ops : Array Oper} {o : Oper} {a : Act} {g : Bool} (hk : Knows ds n env a) (h : fguard ops env o = some g) : Region.wanted o (yielded ops a.tmps) = g := by
  unfold fguard at h
  unfold Region.wanted
  split at h
  · rename_i hg
    simp only [Option.some.injEq] at h
    subst h
    simp [hg]
  · rename_i j want hg
    split at h
    · cases h
    · rename_i d hd
      split at h
      · rename_i b hb
        simp only [Option.some.injEq] at h
        subst h
        have h1 := hk.get _ _ hb
        have h2 : a.tmps[d]? = some (.bool b) := by
          rw [Array.getD_eq_getD_getElem?] at h1
          cases h3 : a.tmps[d]? with
          | none => rw [h3] at h1; simp [undef] at h1
          | some x => rw [h3] at h1; simpa using h1
        rw [hg]
        simp only [yielded, hd, Option.bind_some, h2]
        cases b <;> cases want <;> rfl
      · rename_i vs hb
        simp only [Option.some.injEq] at h
        subst h
        have h1 := hk.get _ _ hb
        rw [hg]
        rw [Array.getD_eq_getD_getElem?] at h1
        cases h3 : a.tmps[d]? with
        | none => simp only [yielded, hd, Option.bind_some, h3]; cases want <;> rfl
        | some x =>
          rw [h3] at h1
          simp only [Option.getD_some] at h1
          subst h1
          simp only [yielded, hd, Option.bind_some, h3]; cases want <;> rfl
      · cases h

theorem goes_op {ops : Array Oper} {i : Nat} {rest : List Nat} {o : Oper} {a : Act} {w : World} (ho : ops[i]? = some o) (hw : Region.wanted o (yielded ops a.tmps) = true)
    (h : o.upon c.P a (fun a' w' => GoesTo c (.inRegion ops rest :: k) a' w') (fun _ _ _ => False) ((execOp a.eval o).run c.P w)) : GoesTo c (.inRegion ops (i :: rest) :: k) a w := by
  intro b hb hkind cs
  have hg := stepG_op (P := c.P) (b := b) (k := k) (cs := cs) (w := w) (rest := rest) ho hw
  have hfin : ∀ v, (b.at a (.inRegion ops (i :: rest) :: k)).finish v = b.at (a.put o.dst v) (.inRegion ops rest :: k) := by
    intro v; rw [Frame.finish_at, ho]; rfl
  unfold Oper.upon at h
  split at h
  · rename_i v w' hr
    obtain ⟨v', p, w2, fr, hR, hm, hst, e⟩ := h b hb hkind cs
    refine ⟨v', p, w2, fr, hR, hm, .head (step_lone_go ?_) hst, e⟩
    rw [hg, ← hfin]; simp [stepG.apply, hr]
  · rename_i w' hr
    obtain ⟨v', p, w2, fr, hR, hm, hst, e⟩ := h b hb hkind cs
    refine ⟨v', p, w2, fr, hR, hm, .head (step_lone_go ?_) hst, e⟩
    rw [hg, ← hfin]; simp [stepG.apply, hr]
  · rename_i d w' hr
    obtain ⟨v', p, w2, fr, hR, hm, hst, e⟩ := h b hb hkind cs
    refine ⟨v', p, w2, fr, hR, hm, .head (step_lone_go ?_) hst, e⟩
    have : ({ b.at a (.inRegion ops (i :: rest) :: k) with defers := d :: a.defers } : Frame).finish undef =
        b.at ({ a with defers := d :: a.defers }.put o.dst undef) (.inRegion ops rest :: k) := by
      have := Frame.finish_at b { a with defers := d :: a.defers } ops i rest k undef
      rw [ho] at this; exact this
    rw [hg]; simp only [stepG.apply, Sem.runT_eq, hr, GStep.bare_after]
    exact congrArg (fun fr => GStep.go { frame := fr, callers := cs, status := .running, dying := none } w') this
  · rename_i f args w' hr
    obtain ⟨e, w'', fr, hR, hsteps, _, hleave⟩ := h (b.at a (.inRegion ops (i :: rest) :: k) :: cs)
    have henter : step c.P (lone (b.at a (.inRegion ops (i :: rest) :: k)) cs w) =
        .next (lone (Frame.enter c.P f args .normal) (b.at a (.inRegion ops (i :: rest) :: k) :: cs) w') :=
      step_lone_go (by rw [hg]; simp [stepG.apply, hr, Frame.at])
    cases e with
    | returned v =>
      obtain ⟨v', p, w2, fr', hR', hm, hst, e⟩ := hR b hb hkind cs
      refine ⟨v', p, w2, fr', hR', hm, .head henter (hsteps.trans (.head ?_ hst)), e⟩
      rw [← hfin]; exact step_leave_returned hleave
    | panicked chain => exact hR.elim
    | outgrown => obtain ⟨_, _, hR⟩ := hR; exact hR.elim
  · rename_i row args w' hr
    obtain ⟨v, w'', hR, hsteps⟩ := h (b.at a (.inRegion ops (i :: rest) :: k)) cs
    have henter : step c.P (lone (b.at a (.inRegion ops (i :: rest) :: k)) cs w) =
        .next (lone (Frame.ofRow c.P row args .normal) (b.at a (.inRegion ops (i :: rest) :: k) :: cs) w') :=
      step_lone_go (by rw [hg]; simp [stepG.apply, hr, Frame.at])
    obtain ⟨v', p, w2, fr', hR', hm, hst, e⟩ := hR b hb hkind cs
    refine ⟨v', p, w2, fr', hR', hm, .head henter (hsteps.trans ?_), e⟩
    rw [hfin]; exact hst
  · exact h.elim
  · exact h.elim

theorem G_region {id : Nat} {ops : Array Oper} {l : List Nat} (hl : List.range ops.size = l) (h : G c n env L (.inRegion ops l :: k)) : G c n env L (.code (.region id ops false) :: k) :=
  fun a w hk hm => goes_of (fun _ _ => step_region) (by rw [hl]; exact h a w hk hm)
theorem G_done {ops : Array Oper} (h : G c n env L k) : G c n env L (.inRegion ops [] :: k) := fun a w hk hm => goes_of (fun _ _ => step_region_end) (h a w hk hm)

theorem G_off {ops : Array Oper} {i : Nat} {rest : List Nat} {o : Oper} {d : Nat} (ho : ops[i]? = some o) (hd : o.dst = some d) (hn : Nat.blt d n = true) (hg : fguard ops env o = some false)
    (h : G c n ((d, undef) :: env) L (.inRegion ops rest :: k)) : G c n env L (.inRegion ops (i :: rest) :: k) := by
  intro a w hk hm
  refine goes_of (a' := a.put o.dst undef) (w' := w) (todo' := .inRegion ops rest :: k) (fun b cs => ?_) (h _ w (hd ▸ hk.put hn undef) hm)
  have := step_op_skip (P := c.P) (b := b) (a := a) (k := k) (cs := cs) (w := w) (ops := ops) (i := i) (rest := rest) (by simp [ho, wanted_of hk hg])
  rw [ho] at this
  exact this
theorem G_offN {ops : Array Oper} {i : Nat} {rest : List Nat} {o : Oper} (ho : ops[i]? = some o) (hd : o.dst = none) (hg : fguard ops env o = some false)
    (h : G c n env L (.inRegion ops rest :: k)) : G c n env L (.inRegion ops (i :: rest) :: k) := by
  intro a w hk hm
  refine goes_of (a' := a.put o.dst undef) (w' := w) (todo' := .inRegion ops rest :: k) (fun b cs => ?_) (h _ w (hd ▸ hk.putNone undef) hm)
  have := step_op_skip (P := c.P) (b := b) (a := a) (k := k) (cs := cs) (w := w) (ops := ops) (i := i) (rest := rest) (by simp [ho, wanted_of hk hg])
  rw [ho] at this
  exact this

/-- An operation that only tells a value. -/
def Val (c : Cx) (n : Nat) (env : List (Nat × Value)) (L : List (Option Nat × Obj)) (o : Oper) (v : Value) : Prop :=
  ∀ a w, Knows c.ds n env a → Mem c.w0 c.A c.S L w → (execOp a.eval o).run c.P w = .ok (.value v) w

theorem G_val {ops : Array Oper} {i : Nat} {rest : List Nat} {o : Oper} {d : Nat} {v : Value} (ho : ops[i]? = some o) (hd : o.dst = some d) (hn : Nat.blt d n = true) (hg : fguard ops env o = some true)
    (hv : Val c n env L o v) (h : G c n ((d, v) :: env) L (.inRegion ops rest :: k)) : G c n env L (.inRegion ops (i :: rest) :: k) := by
  intro a w hk hm
  refine goes_op ho (wanted_of hk hg) ?_
  rw [hv a w hk hm, Oper.upon_value, hd]
  exact h _ w (hk.put hn v) hm

/-- An operation that makes a block. -/
def New (c : Cx) (n : Nat) (env : List (Nat × Value)) (L : List (Option Nat × Obj)) (o : Oper) (mk : Nat → Value) (ob : Obj) : Prop :=
  ∀ a w, Knows c.ds n env a → Mem c.w0 c.A c.S L w → (execOp a.eval o).run c.P w = .ok (.value (mk w.heap.size)) (w.alloc ob)

theorem Mem.alloc {w0 w : World} {A L : List (Option Nat × Obj)} {S : List Nat} (h : Mem w0 A S L w) (ob : Obj) : Mem w0 A S ((some w.heap.size, ob) :: L) (w.alloc ob) := by
  have hlt : ∀ b o, (some b, o) ∈ A ++ L → b < w.heap.size := fun b o hm => h.has.lt hm
  refine ⟨⟨fun b o hm => ?_, List.pairwise_cons.2 ⟨fun x hx b hb hx' => ?_, h.has.apart⟩, fun b o hm => ?_, fun x hx y hy b hxb hyb => ?_⟩, fun b o hm => ?_, ?_⟩
  · have hm' : (some b, o) ∈ A ++ L := List.mem_append_left _ hm
    rw [Below.heap_alloc _ _ _ (hlt _ _ hm')]
    exact h.has.liesA b o hm
  · obtain ⟨xb, xo⟩ := x
    simp only at hb hx'
    subst hx'
    cases hb
    have := hlt _ _ (List.mem_append_right A hx)
    omega
  · rcases List.mem_cons.1 hm with e | hm
    · cases e
      show (w.heap.push _)[w.heap.size]? = _
      simp
    · rw [Below.heap_alloc _ _ _ (hlt _ _ (List.mem_append_right A hm))]
      exact h.has.lies b o hm
  · rcases List.mem_cons.1 hy with e | hy
    · subst e
      obtain ⟨xb, xo⟩ := x
      simp only at hxb hyb
      subst hxb
      cases hyb
      have := hlt _ _ (List.mem_append_left L hx)
      omega
    · exact h.has.cross x hx y hy b hxb hyb
  · rcases List.mem_cons.1 hm with e | hm
    · cases e
      exact .inr h.chg.size
    · exact h.own b o hm
  · refine ⟨h.chg.os, h.chg.tape, h.chg.output, by have := h.chg.size; simp; omega, fun i hi hS => ?_⟩
    rw [Below.heap_alloc _ _ _ (by have := h.chg.size; omega)]
    exact h.chg.block i hi hS

theorem G_new {ops : Array Oper} {i : Nat} {rest : List Nat} {o : Oper} {d : Nat} {mk : Nat → Value} {ob : Obj} (ho : ops[i]? = some o) (hd : o.dst = some d) (hn : Nat.blt d n = true) (hg : fguard ops env o = some true)
    (hv : New c n env L o mk ob) (h : ∀ b, G c n ((d, mk b) :: env) ((some b, ob) :: L) (.inRegion ops rest :: k)) : G c n env L (.inRegion ops (i :: rest) :: k) := by
  intro a w hk hm
  refine goes_op ho (wanted_of hk hg) ?_
  rw [hv a w hk hm, Oper.upon_value, hd]
  exact h w.heap.size _ _ (hk.put hn _) (hm.alloc ob)

/-- An operation that writes a block. -/
def Put (c : Cx) (n : Nat) (env : List (Nat × Value)) (L : List (Option Nat × Obj)) (o : Oper) (b : Nat) (ob : Obj) : Prop :=
  ∀ a w, Knows c.ds n env a → Mem c.w0 c.A c.S L w → ∃ w', (execOp a.eval o).run c.P w = .ok .skip w' ∧ w'.os = w.os ∧ w'.tape = w.tape ∧ w'.output = w.output ∧ w'.heap.size = w.heap.size ∧ w'.heap[b]? = some ob ∧ ∀ k, k ≠ b → w'.heap[k]? = w.heap[k]?

theorem Mem.put {w0 w w' : World} {A L : List (Option Nat × Obj)} {S : List Nat} {b : Nat} {o ob : Obj} {l1 l2 : List (Option Nat × Obj)} (h : Mem w0 A S L w) (hL : L = l1 ++ (some b, o) :: l2)
    (h1 : w'.os = w.os) (h2 : w'.tape = w.tape) (h3 : w'.output = w.output) (h4 : w'.heap.size = w.heap.size) (h5 : w'.heap[b]? = some ob) (h6 : ∀ k, k ≠ b → w'.heap[k]? = w.heap[k]?) : Mem w0 A S (l1 ++ (some b, ob) :: l2) w' := by
  subst hL
  have hp : ∀ x : Option Nat × Obj, (l1 ++ x :: l2).Perm (x :: (l1 ++ l2)) := fun x => List.perm_middle
  have hh := h.has.perm (hp _)
  obtain ⟨ha, hr⟩ := List.pairwise_cons.1 hh.apart
  have hown : b ∈ S ∨ w0.heap.size ≤ b := h.own b o (by simp)
  have hbase : Has w' A ((some b, ob) :: (l1 ++ l2)) := by
    refine ⟨fun b' o' hm => ?_, List.pairwise_cons.2 ⟨fun x hx b1 hb1 => ha x hx b1 hb1, hr⟩, fun b' o' hm => ?_, fun x hx y hy => ?_⟩
    · have hne : b' ≠ b := fun e => hh.cross _ hm (some b, o) (by simp) b' rfl (by rw [e])
      rw [h6 b' hne]
      exact hh.liesA b' o' hm
    · rcases List.mem_cons.1 hm with e | hm
      · cases e; exact h5
      · have hne : b' ≠ b := fun e => ha _ hm b rfl (by rw [e])
        rw [h6 b' hne]
        exact hh.lies b' o' (List.mem_cons_of_mem _ hm)
    · rcases List.mem_cons.1 hy with e | hy
      · subst e
        exact fun b1 hx1 hy1 => hh.cross x hx (some b, o) (by simp) b1 hx1 hy1
      · exact hh.cross x hx y (List.mem_cons_of_mem _ hy)
  refine ⟨hbase.perm (hp (some b, ob)).symm, fun b' o' hm => ?_, ⟨h1.trans h.chg.os, h2.trans h.chg.tape, h3.trans h.chg.output, by rw [h4]; exact h.chg.size, fun i hi hS => ?_⟩⟩
  · rcases List.mem_append.1 hm with hm | hm
    · exact h.own b' o' (List.mem_append_left _ hm)
    · rcases List.mem_cons.1 hm with e | hm
      · cases e; exact hown
      · exact h.own b' o' (List.mem_append_right _ (List.mem_cons_of_mem _ hm))
  · have hne : i ≠ b := fun e => by subst e; rcases hown with h' | h'; exact hS h'; omega
    rw [h6 i hne]
    exact h.chg.block i hi hS

theorem G_put {ops : Array Oper} {i : Nat} {rest : List Nat} {o : Oper} {b : Nat} {old ob : Obj} {l1 l2 L' : List (Option Nat × Obj)} (ho : ops[i]? = some o) (hd : o.dst = none) (hg : fguard ops env o = some true)
    (hL : L = l1 ++ (some b, old) :: l2) (hv : Put c n env L o b ob) (hL' : l1 ++ (some b, ob) :: l2 = L') (h : G c n env L' (.inRegion ops rest :: k)) : G c n env L (.inRegion ops (i :: rest) :: k) := by
  intro a w hk hm
  obtain ⟨w', hr, h1, h2, h3, h4, h5, h6⟩ := hv a w hk hm
  refine goes_op ho (wanted_of hk hg) ?_
  rw [hr, Oper.upon_skip, hd]
  subst hL'
  exact h _ w' (hk.putNone undef) (hm.put hL h1 h2 h3 h4 h5 h6)

theorem Mem.call {w0 w w' : World} {A L A' L' L2 post : List (Option Nat × Obj)} {S : List Nat} {is js : List Nat} (h : Mem w0 A S L w) (hL : tk is L = some (L', L2)) (_hA : pk js (A ++ L2) = some A')
    (hp : Mem w [] (hkeys L') post w') : Mem w0 A S (post ++ L2) w' := by
  have p1 := tk_perm hL
  have hb : Has w A (L' ++ L2) := h.has.perm p1
  have pw2 := List.pairwise_append.1 hb.apart
  have hlt2 : ∀ b o, (some b, o) ∈ A ++ L2 → b < w.heap.size := fun b o hm => by
    rcases List.mem_append.1 hm with hm | hm
    · exact lt_of_lies (hb.liesA b o hm)
    · exact lt_of_lies (hb.lies b o (List.mem_append_right _ hm))
  have hnot : ∀ b o, (some b, o) ∈ A ++ L2 → b ∉ hkeys L' := fun b o hm hin => by
    obtain ⟨o', ho'⟩ := mem_hkeys.1 hin
    rcases List.mem_append.1 hm with hm | hm
    · exact hb.cross _ hm _ (List.mem_append_left _ ho') b rfl rfl
    · exact pw2.2.2 _ ho' _ hm b rfl rfl
  have hcross : ∀ x ∈ A ++ L2, ∀ y ∈ post, Apart x y := fun x hx y hy b hxb hyb => by
    obtain ⟨xb, xo⟩ := x
    obtain ⟨yb, yo⟩ := y
    simp only at hxb hyb
    subst hxb hyb
    rcases hp.own b yo hy with h' | h'
    · exact hnot b xo hx h'
    · have := hlt2 _ _ hx
      omega
  refine ⟨⟨fun b o hm => ?_, List.pairwise_append.2 ⟨hp.has.apart, pw2.2.1, fun x hx y hy => (hcross y (List.mem_append_right _ hy) x hx).symm⟩, fun b o hm => ?_, fun x hx y hy => ?_⟩, fun b o hm => ?_, h.chg.trans hp.chg (fun b hb' => ?_)⟩
  · have hm' : (some b, o) ∈ A ++ L2 := List.mem_append_left _ hm
    rw [hp.chg.block b (hlt2 _ _ hm') (hnot b o hm')]
    exact hb.liesA b o hm
  · rcases List.mem_append.1 hm with hm | hm
    · exact hp.lies hm
    · have hm' : (some b, o) ∈ A ++ L2 := List.mem_append_right _ hm
      rw [hp.chg.block b (hlt2 _ _ hm') (hnot b o hm')]
      exact hb.lies b o (List.mem_append_right _ hm)
  · rcases List.mem_append.1 hy with hy | hy
    · exact hcross x (List.mem_append_left _ hx) y hy
    · exact hb.cross x hx y (List.mem_append_right _ hy)
  · rcases List.mem_append.1 hm with hm | hm
    · rcases hp.own b o hm with h' | h'
      · obtain ⟨o', ho'⟩ := mem_hkeys.1 h'
        exact h.own b o' (p1.mem_iff.2 (List.mem_append_left _ ho'))
      · exact .inr (Nat.le_trans h.chg.size h')
    · exact h.own b o (p1.mem_iff.2 (List.mem_append_right _ hm))
  · obtain ⟨o', ho'⟩ := mem_hkeys.1 hb'
    exact h.own b o' (p1.mem_iff.2 (List.mem_append_left _ ho'))

theorem Mem.has_call {w0 w : World} {A L A' L' L2 : List (Option Nat × Obj)} {S : List Nat} {is js : List Nat} (h : Mem w0 A S L w) (hL : tk is L = some (L', L2)) (hA : pk js (A ++ L2) = some A') : Has w A' L' := by
  have hb : Has w A (L' ++ L2) := h.has.perm (tk_perm hL)
  have hmem := pk_mem hA
  have pw2 := List.pairwise_append.1 hb.apart
  refine ⟨fun b o hm => ?_, pw2.1, fun b o hm => hb.lies b o (List.mem_append_left _ hm), fun x hx y hy => ?_⟩
  · rcases List.mem_append.1 (hmem _ hm) with hm | hm
    · exact hb.liesA b o hm
    · exact hb.lies b o (List.mem_append_right _ hm)
  · rcases List.mem_append.1 (hmem _ hx) with hx | hx
    · exact hb.cross x hx y (List.mem_append_left _ hy)
    · exact (pw2.2.2 y hy x hx).symm

theorem G_call {ops : Array Oper} {i : Nat} {rest : List Nat} {o : Oper} {d : Nat} {g : FuncId} {xs : Array Operand} {ts : Array TypeId} {args : List Value} {A' L' L2 : List (Option Nat × Obj)} {R' : Value → List (Option Nat × Obj) → Prop}
    (ho : ops[i]? = some o) (hd : o.dst = some d) (hn : Nat.blt d n = true) (hg : fguard ops env o = some true) (hop : o.op = .call ⟨.value (.func g), xs, ts⟩) (hxs : fevs env xs.toList = some args)
    (hcf : ∀ (az : Array Value) w, (callFunc g az).run c.P w = .ok (.enter g az) w) (hct : Ct c.P g args A' L' R') (is js : List Nat) (hL : tk is L = some (L', L2)) (hA : pk js (c.A ++ L2) = some A')
    (K : ∀ v post, R' v post → G c n ((d, v) :: env) (post ++ L2) (.inRegion ops rest :: k)) : G c n env L (.inRegion ops (i :: rest) :: k) := by
  intro a w hk hm
  refine goes_op ho (wanted_of hk hg) ?_
  have hx : xs.map a.eval = args.toArray := by
    apply Array.toList_inj.1
    simpa using hk.evals hxs
  have hr : (execOp a.eval o).run c.P w = .ok (.enter g args.toArray) w := by
    unfold execOp
    simp [hop, resolve, Act.eval, Deferred.ofValue, hx, invoke, hcf]
  rw [hr, Oper.upon_enter]
  refine (hct w (hm.has_call hL hA)).mono fun e w' ⟨v, post, he, hR, hp⟩ => ?_
  subst he
  simp only [hd]
  exact K v post hR _ w' (hk.put hn v) (hm.call hL hA hp)

theorem G_callN {ops : Array Oper} {i : Nat} {rest : List Nat} {o : Oper} {g : FuncId} {xs : Array Operand} {ts : Array TypeId} {args : List Value} {A' L' L2 : List (Option Nat × Obj)} {R' : Value → List (Option Nat × Obj) → Prop}
    (ho : ops[i]? = some o) (hd : o.dst = none) (hg : fguard ops env o = some true) (hop : o.op = .call ⟨.value (.func g), xs, ts⟩) (hxs : fevs env xs.toList = some args)
    (hcf : ∀ (az : Array Value) w, (callFunc g az).run c.P w = .ok (.enter g az) w) (hct : Ct c.P g args A' L' R') (is js : List Nat) (hL : tk is L = some (L', L2)) (hA : pk js (c.A ++ L2) = some A')
    (K : ∀ v post, R' v post → G c n env (post ++ L2) (.inRegion ops rest :: k)) : G c n env L (.inRegion ops (i :: rest) :: k) := by
  intro a w hk hm
  refine goes_op ho (wanted_of hk hg) ?_
  have hx : xs.map a.eval = args.toArray := by
    apply Array.toList_inj.1
    simpa using hk.evals hxs
  have hr : (execOp a.eval o).run c.P w = .ok (.enter g args.toArray) w := by
    unfold execOp
    simp [hop, resolve, Act.eval, Deferred.ofValue, hx, invoke, hcf]
  rw [hr, Oper.upon_enter]
  refine (hct w (hm.has_call hL hA)).mono fun e w' ⟨v, post, he, hR, hp⟩ => ?_
  subst he
  simp only [hd]
  exact K v post hR _ w' (hk.putNone v) (hm.call hL hA hp)
end
end Go.Proofs.YtjnaeoelnmhjfaaDoor

/- Small facts on worlds and values that the walks share: the cells of a block that was just made. No program in sight. -/
namespace Go.Proofs.YtjnaeoelnmhjfaaDoor
open Go Go.RowKit Go.Sort

theorem addr_add (b o j : Nat) : (⟨b, o, none⟩ : Addr).add j = ⟨b, o + j, none⟩ := by
  unfold Addr.add; split <;> simp_all
theorem addr_add0 (b j : Nat) : (⟨b, 0, none⟩ : Addr).add j = ⟨b, j, none⟩ := by
  rw [addr_add, Nat.zero_add]
theorem cell_alloc_new (w : World) (arr : Array Value) (T : TypeId) (fr : Nat × Nat) (j : Nat) : (w.alloc (.cells arr T fr)).cell? ⟨w.heap.size, j, none⟩ = arr[j]? := by
  have h : (w.alloc (.cells arr T fr)).heap[w.heap.size]? = some (.cells arr T fr) := by
    show (w.heap.push _)[w.heap.size]? = _
    simp
  simp only [World.cell?, h]
  rfl
theorem cell_alloc_at (w : World) (arr : Array Value) (T : TypeId) (fr : Nat × Nat) (n j : Nat) (hn : n = w.heap.size) : (w.alloc (.cells arr T fr)).cell? ⟨n, j, none⟩ = arr[j]? := by
  subst hn; exact cell_alloc_new w arr T fr j
theorem frozen_alloc_new (w : World) (arr : Array Value) (T : TypeId) (fr : Nat × Nat) (j : Nat) (hj : j < fr.1) : (w.alloc (.cells arr T fr)).frozen? ⟨w.heap.size, j, none⟩ = false := by
  have h : (w.alloc (.cells arr T fr)).heap[w.heap.size]? = some (.cells arr T fr) := by
    show (w.heap.push _)[w.heap.size]? = _
    simp
  simp only [World.frozen?, h]
  simp; omega

theorem setCell_alloc_new (w : World) (arr : Array Value) (T : TypeId) (fr : Nat × Nat) (j : Nat) (v : Value) : (w.alloc (.cells arr T fr)).setCell ⟨w.heap.size, j, none⟩ v = w.alloc (.cells (arr.setIfInBounds j v) T fr) := by
  have hm : ∀ (a : Array Obj) (x : Obj) (f : Obj → Obj), (a.push x).modify a.size f = a.push (f x) := by
    intro a x f
    apply Array.ext
    · simp
    · intro i h1 h2
      simp only [Array.getElem_modify, Array.getElem_push]
      by_cases h : a.size = i
      · subst h
        simp
      · have hi : i < a.size := by simp at h1; omega
        simp [h, hi]
  unfold World.setCell
  show ({ w.alloc (.cells arr T fr) with heap := (w.heap.push (.cells arr T fr)).modify w.heap.size _ } : World) = _
  rw [hm]
  rfl

theorem u8_xor_bit (v : UInt8) (x : Nat) : bits BinOp.xor IntKind.u8 (v.toNat : Int) ((2 : Int) ^ (7 - x % 8) % (256 : Int)) = ((v ^^^ (1 <<< UInt8.ofNat (7 - x % 8))).toNat : Int) := by
  have hx : x % 8 < 8 := Nat.mod_lt _ (by omega)
  generalize x % 8 = q at *
  have h : ((2 : Int) ^ (7 - q) % (256 : Int)) = (((1 : UInt8) <<< UInt8.ofNat (7 - q)).toNat : Int) := by
    match q, hx with
    | 0, _ => rfl | 1, _ => rfl | 2, _ => rfl | 3, _ => rfl | 4, _ => rfl | 5, _ => rfl | 6, _ => rfl | 7, _ => rfl
  rw [h, u8_xor_nat _ _ (UInt8.toNat_lt _) (UInt8.toNat_lt _), UInt8.toNat_xor]

theorem bel_trans {w w1 w2 : World} (h1 : Below w.heap.size w w1) (h2 : Below w1.heap.size w1 w2) : Below w.heap.size w w2 := h1.trans (h2.mono h1.size)

/-- A block of cells, known whole. -/
def Blk (w : World) (b : Nat) (cs : Array Value) (T : TypeId) : Prop := w.heap[b]? = some (.cells cs T (0, 0))
theorem Blk.cell {w : World} {b : Nat} {cs : Array Value} {T : TypeId} (h : Blk w b cs T) (i : Nat) : w.cell? ⟨b, i, none⟩ = cs[i]? := by
  have h : w.heap[b]? = some (.cells cs T (0, 0)) := h
  simp [World.cell?, h]
theorem Blk.free {w : World} {b : Nat} {cs : Array Value} {T : TypeId} (h : Blk w b cs T) (i : Nat) : w.frozen? ⟨b, i, none⟩ = false := by
  have h : w.heap[b]? = some (.cells cs T (0, 0)) := h
  simp [World.frozen?, h]
theorem Blk.lt {w : World} {b : Nat} {cs : Array Value} {T : TypeId} (h : Blk w b cs T) : b < w.heap.size := lt_of_block h
theorem Blk.set {w : World} {b : Nat} {cs : Array Value} {T : TypeId} (h : Blk w b cs T) (i : Nat) (v : Value) : Blk (w.setCell ⟨b, i, none⟩ v) b (cs.setIfInBounds i v) T := by
  have h' : w.heap[b]? = some (.cells cs T (0, 0)) := h
  have hlt := h.lt
  unfold Blk World.setCell
  show (w.heap.modify b _)[b]? = _
  rw [Array.getElem?_modify]
  simp [h']
theorem Blk.other {w : World} {b c : Nat} {cs : Array Value} {T : TypeId} (h : Blk w c cs T) (hne : c ≠ b) (i : Nat) (v : Value) : Blk (w.setCell ⟨b, i, none⟩ v) c cs T := by
  have h' : w.heap[c]? = some (.cells cs T (0, 0)) := h
  unfold Blk
  rw [Below.heap_setCell _ _ _ _ hne]; exact h'
theorem Blk.new (w : World) (cs : Array Value) (T : TypeId) : Blk (w.alloc (.cells cs T)) w.heap.size cs T := by
  unfold Blk
  show (w.heap.push _)[w.heap.size]? = _
  simp
theorem Blk.alloc {w : World} {b : Nat} {cs : Array Value} {T : TypeId} (h : Blk w b cs T) (o : Obj) : Blk (w.alloc o) b cs T := by
  unfold Blk
  rw [Below.heap_alloc _ _ _ h.lt]; exact h
theorem Blk.drew {w : World} {b : Nat} {cs : Array Value} {T : TypeId} (h : Blk w b cs T) : Blk w.drew b cs T := h
theorem Blk.grown {w w' : World} {b : Nat} {cs : Array Value} {T : TypeId} {row : Option Nat} (h : Blk w b cs T) (hg : w.grownBy w' row) (hne : some b ≠ row) : Blk w' b cs T := by
  unfold Blk
  rw [hg.block b h.lt hne]; exact h
theorem Blk.below {w w' : World} {B b : Nat} {cs : Array Value} {T : TypeId} (h : Blk w b cs T) (hb : Below B w w') (hlt : b < B) : Blk w' b cs T := by
  unfold Blk
  rw [hb.block b hlt]; exact h
theorem grown_refl (w : World) (row : Option Nat) : w.grownBy w row := ⟨rfl, rfl, rfl, Nat.le_refl _, fun _ _ _ => rfl⟩
theorem grown_set (w : World) (b i : Nat) (v : Value) : w.grownBy (w.setCell ⟨b, i, none⟩ v) (some b) :=
  ⟨rfl, rfl, rfl, by simp [World.setCell], fun k _ hne => Below.heap_setCell _ _ _ _ (fun e => hne (by rw [e]))⟩
theorem grown_trans {a b c : World} {row : Option Nat} (h : a.grownBy b row) (k : b.grownBy c row) : a.grownBy c row :=
  ⟨k.os.trans h.os, k.tape.trans h.tape, k.output.trans h.output, Nat.le_trans h.size k.size, fun i hi hne => (k.block i (Nat.lt_of_lt_of_le hi h.size) hne).trans (h.block i hi hne)⟩
theorem grown_drew {a b : World} {row : Option Nat} (h : a.grownBy b row) : a.grownBy b.drew row := ⟨h.os, h.tape, h.output, h.size, h.block⟩
theorem grown_alloc {a b : World} {row : Option Nat} (h : a.grownBy b row) (o : Obj) : a.grownBy (b.alloc o) row :=
  ⟨h.os, h.tape, h.output, Nat.le_trans h.size (by simp), fun k hk hne => (Below.heap_alloc _ _ _ (Nat.lt_of_lt_of_le hk h.size)).trans (h.block k hk hne)⟩
theorem grown_below {a b : World} {row : Option Nat} (h : Below a.heap.size a b) : a.grownBy b row := ⟨h.os, h.tape, h.output, h.size, fun k hk _ => h.block k hk⟩
theorem grown_then_below {a b c : World} {row : Option Nat} (h : a.grownBy b row) (k : Below b.heap.size b c) : a.grownBy c row :=
  grown_trans h (grown_below k)

/-- Behind a region that draws, whose operations read and whose calls make memory alone: nothing that was there has turned. -/
theorem bel_of_regrown {w w' : World} (h : ∃ p : Regrown, w' = grow (redrawn w p.d) p.os) : Below w.heap.size w w' := by
  obtain ⟨p, rfl⟩ := h; exact below_regrown w p.d p.os
/-- A callee that leaves the world alone, met in such a region. -/
theorem Calls.regrown_same {P : Program} {f : FuncId} {args : Array Value} {w : World} {d : Nat} {os : Array Obj} {v : Value}
    (h : Calls P f args (grow (redrawn w d) os) fun e w' => e = .returned v ∧ grow (redrawn w d) os = w') : Calls P f args (grow (redrawn w d) os) fun e w'' => e = .returned v ∧ ∃ p : Regrown, w'' = grow (redrawn w p.d) p.os :=
  h.mono fun _ _ ⟨he, hb⟩ => ⟨he, ⟨d, os⟩, hb.symm⟩

/-- The cells of a row of bytes, behind which there may be more. -/
def BytesAt (arr : Array Value) (l : List UInt8) : Prop := ∀ (j : Nat) (v : UInt8), l[j]? = some v → arr[j]? = some (Value.int .u8 (v.toNat : Int))

theorem BytesAt.set {arr : Array Value} {l : List UInt8} (h : BytesAt arr l) (k : Nat) (f : UInt8 → UInt8) (v : UInt8) (hk : l[k]? = some v) (ha : k < arr.size) : BytesAt (arr.setIfInBounds k (.int .u8 ((f v).toNat : Int))) (l.modify k f) := by
  intro j x hj
  rw [List.getElem?_modify] at hj
  rw [Array.getElem?_setIfInBounds]
  by_cases e : k = j
  · subst e
    simp [hk] at hj
    subst hj
    simp [ha]
  · simp only [e, if_false] at hj ⊢
    exact h j x (by simpa using hj)

end Go.Proofs.YtjnaeoelnmhjfaaDoor

/- Numbers and texts as bytes (layer 1), as plain functions on lists of bytes. No program in sight. -/
namespace Go.Proofs.YtjnaeoelnmhjfaaDoor
open Go Go.RowKit

/-- A byte as a value of the model's. -/
def byteV (c : UInt8) : Value := .int .u8 (c.toNat : Int)
/-- A text as a value of the model's. -/
def str (l : List UInt8) : Value := .string ⟨l.toArray⟩
/-- A list of bytes as a text. -/
def bs (l : List UInt8) : ByteArray := ⟨l.toArray⟩
theorem bs_data (l : List UInt8) : (bs l).data.toList = l := rfl
theorem bs_size (l : List UInt8) : (bs l).size = l.length := by unfold bs; simp [ByteArray.size]
theorem bs_of (s : ByteArray) : bs s.data.toList = s := rfl
theorem bs_eq {s : ByteArray} {l : List UInt8} (h : s.data.toList = l) : s = bs l := by subst h; rfl
theorem str_of (s : ByteArray) : str s.data.toList = .string s := rfl
theorem ret_str {s : ByteArray} {l : List UInt8} (h : s.data.toList = l) : Ending.returned (.string s) = .returned (str l) := by subst h; rfl
theorem val_str {s : ByteArray} {l : List UInt8} (h : s.data.toList = l) : Value.string s = str l := by subst h; rfl

/-- A number that fits 64 bits (behind a name: the walk does not like the great numeral). -/
def U64 (n : Nat) : Prop := n < 18446744073709551616
/-- 'string(b)' of a row that the call owns. -/
theorem own_string {P : Program} {w : World} {base e : Nat} {v : Value} {l : List UInt8} (src dst : TypeId) (hs : P.underlying src = some (.slice e)) (he : P.underlying e = some (.int .u8)) (hd : P.underlying dst = some .string)
    (hown : w.ownsRow base e 1 v l.length (l.map byteV)) : (convert src dst v).run P w = .ok (str l) w := by
  rcases hown with ⟨_, ⟨rfl, h0⟩ | ⟨g, cap, cur, rfl, _, hh, _, _, _, htake⟩⟩
  · have : l = [] := List.length_eq_zero_iff.1 h0
    subst this
    rw [run_convert_bytes_string w src dst e none 0 0 hs he hd]
    simp [Conv.bytesToString, str]
    rfl
  · refine run_convert_bytes_back w src dst e ⟨g, 0, none⟩ cap l hs he hd (fun j hj => ?_)
    have h1 : w.cell? ((⟨g, 0, none⟩ : Addr).add j) = cur[j]? := by
      rw [addr_add0]; simp [World.cell?, hh]
    rw [h1]
    have h2 : (cur.toList.take (l.length * 1))[j]? = (l.map byteV)[j]? := by rw [htake]
    rw [List.getElem?_take_of_lt (by omega)] at h2
    simpa [List.getElem?_eq_getElem hj, byteV] using h2

def chain (v : Nat) : List UInt8 :=
  if _h : v < 128 then [UInt8.ofNat v] else UInt8.ofNat (v % 128 + 128) :: chain (v / 128)
  termination_by v
  decreasing_by omega

theorem chain_small (v : Nat) (h : v < 128) : chain v = [UInt8.ofNat v] := by rw [chain, dif_pos h]
theorem chain_big (v : Nat) (h : 128 ≤ v) : chain v = UInt8.ofNat (v % 128 + 128) :: chain (v / 128) := by rw [chain, dif_neg (by omega)]
theorem chain_pos (v : Nat) : 1 ≤ (chain v).length := by
  rw [chain]; split <;> simp
theorem chain_len (n v : Nat) (h : v < 128 ^ n) (hn : 1 ≤ n) : (chain v).length ≤ n := by
  induction n generalizing v with
  | zero => omega
  | succ n ih =>
    by_cases hv : v < 128
    · rw [chain_small v hv]; simp
    · rw [chain_big v (by omega), List.length_cons]
      have h1 : v / 128 < 128 ^ n := by
        rw [Nat.div_lt_iff_lt_mul (by omega)]; rw [Nat.pow_succ] at h; exact h
      have h2 : 1 ≤ n := by
        by_cases e : n = 0
        · subst e; simp at h; omega
        · omega
      have := ih _ h1 h2
      omega
theorem U64.div {n : Nat} (h : U64 n) (k : Nat) : U64 (n / k) := Nat.lt_of_le_of_lt (Nat.div_le_self _ _) h
theorem U64.wrap {n : Nat} (h : U64 n) : IntKind.u64.wrap (n : Int) = (n : Int) := by
  unfold U64 at h
  rw [IntKind.wrap_u64]; omega
theorem U64.wrap_div {n : Nat} (h : U64 n) (k : Nat) : IntKind.u64.wrap ((n : Int) / (k : Int)) = (n : Int) / (k : Int) := by
  have := (h.div k).wrap
  rw [Int.natCast_ediv] at this
  exact this
theorem chain_len64 (v : Nat) (h : U64 v) : (chain v).length ≤ 10 :=
  chain_len 10 v (by unfold U64 at h; omega) (by omega)

theorem byte_or (u : Nat) : bits BinOp.or IntKind.u8 ((u : Int) % (256 : Int)) (128 : Int) = ((UInt8.ofNat (u % 128 + 128)).toNat : Int) := by
  have h1 : ((u : Int) % (256 : Int)) = ((u % 256 : Nat) : Int) := by omega
  have h2 : ∀ m : Nat, m < 256 → m ||| 128 = m % 128 + 128 := by decide +kernel
  rw [h1]
  refine (u8_or_nat (u % 256) 128 (Nat.mod_lt _ (by omega)) (by omega)).trans ?_
  rw [h2 _ (Nat.mod_lt _ (by omega))]
  rw [UInt8.toNat_ofNat']
  omega
theorem byte_mod (u : Nat) (h : u < 256) : ((UInt8.ofNat u).toNat : Int) = (u : Int) := by
  rw [UInt8.toNat_ofNat']; omega

/-- The number of the chain with which some bytes begin: the number, its bytes, the error's number. -/
def unch : Nat → Nat → List UInt8 → Nat × Nat × Nat
  | i, _, [] => if 10 ≤ i then (0, 0, 3) else (0, 0, 2)
  | i, v, c :: r =>
    if 10 ≤ i then (0, 0, 3)
    else if 128 ≤ c.toNat then unch (i + 1) (v + (c.toNat - 128) * 128 ^ i) r
    else if (0 < i ∧ c.toNat = 0) ∨ (i = 9 ∧ 1 < c.toNat) then (0, 0, 3)
    else (v + c.toNat * 128 ^ i, i + 1, 0)
def unchain (l : List UInt8) : Nat × Nat × Nat := unch 0 0 l

theorem unch_ten (v : Nat) (l : List UInt8) : unch 10 v l = (0, 0, 3) := by
  cases l <;> simp [unch]
theorem unch_more (i v : Nat) (c : UInt8) (r : List UInt8) (hi : i < 10) (hc : 128 ≤ c.toNat) : unch i v (c :: r) = unch (i + 1) (v + (c.toNat - 128) * 128 ^ i) r := by
  rw [unch, if_neg (by omega), if_pos hc]
theorem unch_bad (i v : Nat) (c : UInt8) (r : List UInt8) (hi : i < 10) (hc : c.toNat < 128) (h : (0 < i ∧ c.toNat = 0) ∨ (i = 9 ∧ 1 < c.toNat)) : unch i v (c :: r) = (0, 0, 3) := by
  rw [unch, if_neg (by omega), if_neg (by omega), if_pos h]
theorem unch_last (i v : Nat) (c : UInt8) (r : List UInt8) (hi : i < 10) (hc : c.toNat < 128) (h : ¬ ((0 < i ∧ c.toNat = 0) ∨ (i = 9 ∧ 1 < c.toNat))) : unch i v (c :: r) = (v + c.toNat * 128 ^ i, i + 1, 0) := by
  rw [unch, if_neg (by omega), if_neg (by omega), if_neg h]

theorem or_place (v c k : Nat) (hv : v < 128 ^ k) : v ||| (c * 128 ^ k) = v + c * 128 ^ k := by
  have h : (128 : Nat) ^ k = 2 ^ (7 * k) := by rw [Nat.pow_mul]
  rw [h] at hv ⊢
  rw [Nat.or_comm, Nat.mul_comm, ← Nat.two_pow_add_eq_or_of_lt hv]; omega
theorem and_not_128 (c : UInt8) : bits BinOp.andNot IntKind.u8 (c.toNat : Int) (128 : Int) = ((c.toNat % 128 : Nat) : Int) := by
  have hc := c.toNat_lt
  refine (u8_andNot_nat c.toNat 128 hc (by omega)).trans ?_
  have h2 : ∀ m : Nat, m < 256 → m &&& (255 - 128) = m % 128 := by decide +kernel
  rw [h2 _ hc]
theorem and_128 (c : UInt8) : bits BinOp.and IntKind.u8 (c.toNat : Int) (128 : Int) = ((c.toNat / 128 * 128 : Nat) : Int) := by
  have hc := c.toNat_lt
  refine (u8_and_nat c.toNat 128 hc (by omega)).trans ?_
  have h2 : ∀ m : Nat, m < 256 → m &&& 128 = m / 128 * 128 := by decide +kernel
  rw [h2 _ hc]

/-- What a byte of a chain adds to the number so far. -/
theorem or_link (v : Nat) (c : UInt8) (k : Nat) (hk : k ≤ 9) (hv : v < 128 ^ k) :
    ∃ n : Nat, bits BinOp.or IntKind.u64 (v : Int) (IntKind.u64.wrap (IntKind.u64.wrap (bits BinOp.andNot IntKind.u8 (c.toNat : Int) (128 : Int)) * (2 : Int) ^ (7 * k))) = (n : Int) ∧ U64 n ∧
      (k ≤ 8 ∨ c.toNat % 128 ≤ 1 → n = v + c.toNat % 128 * 128 ^ k) := by
  have hc := c.toNat_lt
  have h : (128 : Nat) ^ k = 2 ^ (7 * k) := by rw [Nat.pow_mul]
  have hp : (128 : Nat) ^ k ≤ 128 ^ 9 := Nat.pow_le_pow_right (by omega) hk
  have hv64 : v < 18446744073709551616 := Nat.lt_of_lt_of_le hv (Nat.le_trans hp (by decide))
  have e1 : IntKind.u64.wrap (IntKind.u64.wrap (bits BinOp.andNot IntKind.u8 (c.toNat : Int) (128 : Int)) * (2 : Int) ^ (7 * k)) = ((c.toNat % 128 * 128 ^ k % 18446744073709551616 : Nat) : Int) := by
    rw [and_not_128, IntKind.wrap_u64, IntKind.wrap_u64, h]
    have : ((c.toNat % 128 : Nat) : Int) % 18446744073709551616 = ((c.toNat % 128 : Nat) : Int) := by omega
    rw [this]
    simp
  rw [e1]
  refine ⟨_, u64_or_nat _ _ hv64 (Nat.mod_lt _ (by omega)), ?_, ?_⟩
  · exact Nat.or_lt_two_pow (n := 64) hv64 (Nat.mod_lt _ (by omega))
  · intro hh
    have : c.toNat % 128 * 128 ^ k < 18446744073709551616 := by
      rcases hh with hh | hh
      · have h1 : (128 : Nat) ^ k ≤ 128 ^ 8 := Nat.pow_le_pow_right (by omega) hh
        have h2 : c.toNat % 128 * 128 ^ k ≤ 127 * 128 ^ 8 := Nat.mul_le_mul (by omega) h1
        exact Nat.lt_of_le_of_lt h2 (by decide)
      · have h2 : c.toNat % 128 * 128 ^ k ≤ 1 * 128 ^ 9 := Nat.mul_le_mul hh hp
        exact Nat.lt_of_le_of_lt h2 (by decide)
    rw [Nat.mod_eq_of_lt this]
    exact or_place v _ k hv

/-- The number that the first n bytes of a chain tell, the lowest first. -/
def lowF : List UInt8 → Nat → Nat
  | _, 0 => 0
  | [], _ + 1 => 0
  | c :: r, n + 1 => c.toNat % 128 + 128 * lowF r n
theorem lowF_lt (l : List UInt8) (n : Nat) : lowF l n < 128 ^ n := by
  induction n generalizing l with
  | zero => simp [lowF]
  | succ n ih =>
    cases l with
    | nil => simp only [lowF]; exact Nat.pow_pos (by omega)
    | cons c r =>
      simp only [lowF]
      have := ih r
      have h1 : c.toNat % 128 < 128 := Nat.mod_lt _ (by omega)
      rw [Nat.pow_succ]
      omega
theorem lowF_top (l : List UInt8) (n : Nat) (c : UInt8) (h : l[n]? = some c) (hc : c.toNat ≤ 1) : lowF l (n + 1) < 2 * 128 ^ n := by
  induction n generalizing l with
  | zero =>
    match l, h with
    | x :: r, h =>
      obtain rfl : x = c := by simpa using h
      simp only [lowF]
      omega
  | succ n ih =>
    match l, h with
    | x :: r, h =>
      have := ih r (by simpa using h)
      rw [lowF]
      have h1 : x.toNat % 128 < 128 := Nat.mod_lt _ (by omega)
      rw [Nat.pow_succ]
      omega
theorem unch_run (n i v : Nat) (l : List UInt8) (hn : n ≤ l.length) (hi : i + n ≤ 10) (h : ∀ j c, j < n → l[j]? = some c → 128 ≤ c.toNat) : unch i v l = unch (i + n) (v + 128 ^ i * lowF l n) (l.drop n) := by
  induction n generalizing i v l with
  | zero => simp [lowF]
  | succ n ih =>
    match l, hn with
    | c :: r, hn =>
      have hc := h 0 c (by omega) (by simp)
      have h256 := c.toNat_lt
      rw [unch_more i v c r (by omega) hc, ih (i + 1) _ r (by simpa using hn) (by omega) (fun j d hj hd => h (j + 1) d (by omega) (by simpa using hd))]
      rw [List.drop_succ_cons, show i + 1 + n = i + (n + 1) by omega]
      congr 1
      rw [lowF, show c.toNat % 128 = c.toNat - 128 by omega, Nat.pow_succ, Nat.mul_add, Nat.mul_comm (c.toNat - 128)]
      rw [Nat.mul_assoc, Nat.add_assoc]

theorem lowF_snoc (l : List UInt8) (n : Nat) (c : UInt8) (h : l[n]? = some c) (hc : c.toNat < 128) : lowF l (n + 1) = lowF l n + c.toNat * 128 ^ n := by
  induction n generalizing l with
  | zero =>
    match l, h with
    | x :: r, h =>
      obtain rfl : x = c := by simpa using h
      simp only [lowF]
      omega
  | succ n ih =>
    match l, h with
    | x :: r, h =>
      have := ih r (by simpa using h)
      rw [lowF, this, lowF, Nat.pow_succ, Nat.mul_add, Nat.mul_left_comm, Nat.mul_comm (128 ^ n)]
      rw [Nat.add_assoc]
/-- One step of the reckoning from the highest byte down: no number outgrows 64 bits. -/
theorem lowF_step (l : List UInt8) (k q : Nat) (c : UInt8) (hc : l[k]? = some c) (hk : k ≤ 9) (htop : k = 9 → c.toNat ≤ 1) (d : UInt8) (hd : l[q]? = some d) (hq : q ≤ k) :
    lowF (l.drop q) (k + 1 - q) = lowF (l.drop (q + 1)) (k - q) * 128 + d.toNat % 128 ∧ U64 (lowF (l.drop q) (k + 1 - q)) := by
  have hlt : q < l.length := (List.getElem?_eq_some_iff.1 hd).1
  have e : l.drop q = d :: l.drop (q + 1) := by
    rw [List.drop_eq_getElem_cons hlt]
    rw [List.getElem?_eq_getElem hlt] at hd
    rw [Option.some.inj hd]
  constructor
  · rw [e, show k + 1 - q = (k - q) + 1 by omega, lowF]; omega
  · unfold U64
    by_cases h9 : k = 9 ∧ q = 0
    · obtain ⟨rfl, rfl⟩ := h9
      have := lowF_top l 9 c hc (htop rfl)
      simpa using this
    · have h1 := lowF_lt (l.drop q) (k + 1 - q)
      have h2 : (128 : Nat) ^ (k + 1 - q) ≤ 128 ^ 9 := Nat.pow_le_pow_right (by omega) (by omega)
      exact Nat.lt_of_lt_of_le h1 (Nat.le_trans h2 (by decide))

end Go.Proofs.YtjnaeoelnmhjfaaDoor

/- What single operations tell. No program in sight. -/
set_option linter.unusedSimpArgs false
set_option linter.unusedVariables false
namespace Go.Proofs.YtjnaeoelnmhjfaaDoor
open Go Go.RowKit

/-- The value at a place of a list. -/
def nth : List Value → Nat → Option Value
  | [], _ => none
  | v :: _, 0 => some v
  | _ :: vs, i + 1 => nth vs i
theorem nth_eq : ∀ (l : List Value) (i : Nat), nth l i = l[i]?
  | [], _ => by simp [nth]
  | v :: _, 0 => by simp [nth]
  | _ :: vs, i + 1 => by simp [nth, nth_eq vs i]
theorem nth_of {cs : Array Value} {i : Nat} {v : Value} (h : cs[i]? = some v) : nth cs.toList i = some v := by rw [nth_eq]; simpa using h
theorem at_of {cs : Array Value} {i : Nat} {v : Value} (h : nth cs.toList i = some v) : cs[i]? = some v := by rw [nth_eq] at h; simpa using h
def isAggD : TypeDesc → Bool
  | .struct _ | .array _ _ => true
  | _ => false
section
variable {c : Cx} {n : Nat} {env : List (Nat × Value)} {L : List (Option Nat × Obj)} {k : List Item} {o : Oper}

theorem V_move {x : Operand} {v : Value} (hop : o.op = .move x) (hx : fev env x = some v) : Val c n env L o v := fun a w hk _ => by
  simp [execOp, hop, hk.eval hx]
theorem V_assign {x : Operand} {v : Value} (hop : o.op = .assign x) (hx : fev env x = some v) : Val c n env L o v := fun a w hk _ => by
  simp [execOp, hop, hk.eval hx]
theorem V_pickT {x y z : Operand} {v : Value} (hop : o.op = .pick x y z) (hx : fev env x = some (.bool true)) (hy : fev env y = some v) : Val c n env L o v := fun a w hk _ => by
  simp [execOp, hop, hk.eval hx, hk.eval hy, asBool]
theorem V_pickF {x y z : Operand} {v : Value} (hop : o.op = .pick x y z) (hx : fev env x = some (.bool false)) (hz : fev env z = some v) : Val c n env L o v := fun a w hk _ => by
  simp [execOp, hop, hk.eval hx, hk.eval hz, asBool]
theorem V_extract {x : Operand} {i : Nat} {vs : Array Value} {v : Value} (hop : o.op = .extract x i) (hx : fev env x = some (.tuple vs)) (hv : nth vs.toList i = some v) : Val c n env L o v := fun a w hk _ => by
  have hv := at_of hv
  simp [execOp, hop, hk.eval hx, Instr.extract, hv]
theorem V_func {fn : Fn} {xs ys : Array Operand} {us vs : List Value} (hop : o.op = .makeFunc fn xs ys) (hx : fevs env xs.toList = some us) (hy : fevs env ys.toList = some vs) : Val c n env L o (.func fn us.toArray vs.toArray) := fun a w hk _ => by
  have h1 : xs.map a.eval = us.toArray := by apply Array.toList_inj.1; simpa using hk.evals hx
  have h2 : ys.map a.eval = vs.toArray := by apply Array.toList_inj.1; simpa using hk.evals hy
  simp [execOp, hop, Instr.makeFunc, h1, h2]
theorem V_nilCheck {x : Operand} {p : Addr} (hop : o.op = .nilCheck x) (hx : fev env x = some (.pointer (some p))) : Val c n env L o (.pointer (some p)) := fun a w hk _ => by
  simp [execOp, hop, hk.eval hx]
theorem V_nilCheckF {x : Operand} {f : FuncId} {us vs : Array Value} (hop : o.op = .nilCheck x) (hx : fev env x = some (.func (.func f) us vs)) : Val c n env L o (.func (.func f) us vs) := fun a w hk _ => by
  simp [execOp, hop, hk.eval hx]

-- integers
section
variable {x y : Operand} {t yt : TypeId} {q : IntKind} {p r : Int}
theorem V_eql (hop : o.op = .binOp .eql t x y yt) (hx : fev env x = some (.int q p)) (hy : fev env y = some (.int q r)) : Val c n env L o (.bool (decide (p = r))) := fun a w hk _ => by
  simp only [execOp, hop, hk.eval hx, hk.eval hy]; simp [go_sem]
  rfl
theorem V_neq (hop : o.op = .binOp .neq t x y yt) (hx : fev env x = some (.int q p)) (hy : fev env y = some (.int q r)) : Val c n env L o (.bool (decide (¬ p = r))) := fun a w hk _ => by
  simp only [execOp, hop, hk.eval hx, hk.eval hy]; simp [go_sem, bne]; rfl
theorem V_lss (hop : o.op = .binOp .lss t x y yt) (hx : fev env x = some (.int q p)) (hy : fev env y = some (.int q r)) : Val c n env L o (.bool (decide (p < r))) := fun a w hk _ => by
  simp only [execOp, hop, hk.eval hx, hk.eval hy]; simp [go_sem]
theorem V_leq (hop : o.op = .binOp .leq t x y yt) (hx : fev env x = some (.int q p)) (hy : fev env y = some (.int q r)) : Val c n env L o (.bool (decide (p ≤ r))) := fun a w hk _ => by
  simp only [execOp, hop, hk.eval hx, hk.eval hy]; simp [go_sem]
theorem V_gtr (hop : o.op = .binOp .gtr t x y yt) (hx : fev env x = some (.int q p)) (hy : fev env y = some (.int q r)) : Val c n env L o (.bool (decide (r < p))) := fun a w hk _ => by
  simp only [execOp, hop, hk.eval hx, hk.eval hy]; simp [go_sem]
theorem V_geq (hop : o.op = .binOp .geq t x y yt) (hx : fev env x = some (.int q p)) (hy : fev env y = some (.int q r)) : Val c n env L o (.bool (decide (r ≤ p))) := fun a w hk _ => by
  simp only [execOp, hop, hk.eval hx, hk.eval hy]; simp [go_sem]
theorem V_add (hop : o.op = .binOp .add t x y yt) (hx : fev env x = some (.int q p)) (hy : fev env y = some (.int q r)) : Val c n env L o (.int q (q.wrap (p + r))) := fun a w hk _ => by
  simp only [execOp, hop, hk.eval hx, hk.eval hy]; simp [go_sem]
theorem V_sub (hop : o.op = .binOp .sub t x y yt) (hx : fev env x = some (.int q p)) (hy : fev env y = some (.int q r)) : Val c n env L o (.int q (q.wrap (p - r))) := fun a w hk _ => by
  simp only [execOp, hop, hk.eval hx, hk.eval hy]; simp [go_sem]
theorem V_mul (hop : o.op = .binOp .mul t x y yt) (hx : fev env x = some (.int q p)) (hy : fev env y = some (.int q r)) : Val c n env L o (.int q (q.wrap (p * r))) := fun a w hk _ => by
  simp only [execOp, hop, hk.eval hx, hk.eval hy]; simp [go_sem]
theorem wrap_i64 {e : Int} (h : -9223372036854775808 ≤ e ∧ e ≤ 9223372036854775807) : IntKind.i64.wrap e = e := by
  simp only [IntKind.wrap, IntKind.bits, IntKind.signed]
  simp
  omega
theorem wrap_u64 {e : Int} (h : 0 ≤ e ∧ e ≤ 18446744073709551615) : IntKind.u64.wrap e = e := by
  simp only [IntKind.wrap, IntKind.bits, IntKind.signed]
  simp
  omega
theorem wrap_u32 {e : Int} (h : 0 ≤ e ∧ e ≤ 4294967295) : IntKind.u32.wrap e = e := by
  simp only [IntKind.wrap, IntKind.bits, IntKind.signed]
  simp
  omega
theorem wrap_u8 {e : Int} (h : 0 ≤ e ∧ e ≤ 255) : IntKind.u8.wrap e = e := by
  simp only [IntKind.wrap, IntKind.bits, IntKind.signed]
  simp
  omega
theorem wrap_i32 {e : Int} (h : -2147483648 ≤ e ∧ e ≤ 2147483647) : IntKind.i32.wrap e = e := by
  simp only [IntKind.wrap, IntKind.bits, IntKind.signed]
  simp
  omega
theorem Val.int {e e' : Int} (h : Val c n env L o (.int q e)) (he : e = e') : Val c n env L o (.int q e') := he ▸ h
theorem V_quo (hop : o.op = .binOp .quo t x y yt) (hx : fev env x = some (.int q p)) (hy : fev env y = some (.int q r)) (h0 : 0 ≤ p) (h1 : 0 < r) (hw : q.wrap (p / r) = p / r) : Val c n env L o (.int q (p / r)) := fun a w hk _ => by
  have : ¬ r = 0 := by omega
  have e : p.tdiv r = p / r := Int.tdiv_eq_ediv_of_nonneg h0
  simp only [execOp, hop, hk.eval hx, hk.eval hy]; simp [go_sem, this, e, hw]
theorem V_rem (hop : o.op = .binOp .rem t x y yt) (hx : fev env x = some (.int q p)) (hy : fev env y = some (.int q r)) (h0 : 0 ≤ p) (h1 : 0 < r) : Val c n env L o (.int q (p % r)) := fun a w hk _ => by
  have : ¬ r = 0 := by omega
  have e : p.tmod r = p % r := Int.tmod_eq_emod_of_nonneg h0
  simp only [execOp, hop, hk.eval hx, hk.eval hy]; simp [go_sem, this, e]
theorem V_shl {yq : IntKind} (hop : o.op = .binOp .shl t x y yt) (hx : fev env x = some (.int q p)) (hy : fev env y = some (.int yq r)) (h0 : 0 ≤ r) : Val c n env L o (.int q (q.wrap (p * 2 ^ min r.toNat q.bits))) := fun a w hk _ => by
  have : ¬ r < 0 := by omega
  simp only [execOp, hop, hk.eval hx, hk.eval hy]; simp [go_sem, Op.shift, this]
theorem V_shr {yq : IntKind} (hop : o.op = .binOp .shr t x y yt) (hx : fev env x = some (.int q p)) (hy : fev env y = some (.int yq r)) (h0 : 0 ≤ r) : Val c n env L o (.int q (p / 2 ^ min r.toNat q.bits)) := fun a w hk _ => by
  have : ¬ r < 0 := by omega
  have e : p.fdiv (2 ^ min r.toNat q.bits) = p / 2 ^ min r.toNat q.bits := Int.fdiv_eq_ediv_of_nonneg _ (by exact Int.pow_nonneg (by omega))
  simp only [execOp, hop, hk.eval hx, hk.eval hy, eqGuard_shr, pure_bind, binOp_shr, Op.shift]
  rw [if_neg this, e]
  rfl
theorem V_conv {d : TypeDesc} {u : TypeId} (hop : o.op = .convert t u x) (hx : fev env x = some (.int q p)) (ht : c.P.underlying t = some d) {q' : IntKind} (hu : c.P.underlying u = some (.int q')) : Val c n env L o (.int q' (q'.wrap p)) := fun a w hk _ => by
  simp [execOp, hop, hk.eval hx, convert, run_underlying ht, run_underlying hu, Conv.intToInt]
end

-- truths
theorem V_not {x : Operand} {t : TypeId} {b : Bool} (hop : o.op = .unOp .not t x) (hx : fev env x = some (.bool b)) : Val c n env L o (.bool (!b)) := fun a w hk _ => by
  simp [execOp, hop, hk.eval hx, Op.unary]
theorem V_notD {x : Operand} {t : TypeId} {p : Prop} {inst : Decidable p} (hop : o.op = .unOp .not t x) (hx : fev env x = some (.bool (decide p))) : Val c n env L o (.bool (decide (¬ p))) := fun a w hk _ => by
  simp [execOp, hop, hk.eval hx, Op.unary]
theorem V_beql {x y : Operand} {t yt : TypeId} {b e : Bool} (hop : o.op = .binOp .eql t x y yt) (ht : c.P.underlying t = some .bool) (hx : fev env x = some (.bool b)) (hy : fev env y = some (.bool e)) : Val c n env L o (.bool (decide (b = e))) := fun a w hk _ => by
  simp only [execOp, hop, hk.eval hx, hk.eval hy, eqGuard_at_bool, pure_bind]
  simp only [Sem.run_bind, run_eql_bool w t b e ht]
  cases b <;> cases e <;> rfl
theorem V_bneq {x y : Operand} {t yt : TypeId} {b e : Bool} (hop : o.op = .binOp .neq t x y yt) (ht : c.P.underlying t = some .bool) (hx : fev env x = some (.bool b)) (hy : fev env y = some (.bool e)) : Val c n env L o (.bool (decide (¬ b = e))) := fun a w hk _ => by
  simp only [execOp, hop, hk.eval hx, hk.eval hy, eqGuard_at_bool, pure_bind]
  simp only [Sem.run_bind, run_neq_bool w t b e ht]
  cases b <;> cases e <;> rfl

-- texts
theorem bs_toList (l : List UInt8) : (bs l).toList = l := by
  rw [ByteArray.toList_eq]; rfl
theorem list_beq (l m : List UInt8) : (l == m) = decide (l = m) := by
  by_cases h : l = m <;> simp [h]
section
variable {x y : Operand} {t yt : TypeId} {l m : List UInt8}
theorem V_seql (hop : o.op = .binOp .eql t x y yt) (hx : fev env x = some (.string (bs l))) (hy : fev env y = some (.string (bs m))) : Val c n env L o (.bool (decide (l = m))) := fun a w hk _ => by
  simp only [execOp, hop, hk.eval hx, hk.eval hy]; simp [go_sem, binOp, Op.stringOp, bs_toList, list_beq]
theorem V_sneq (hop : o.op = .binOp .neq t x y yt) (hx : fev env x = some (.string (bs l))) (hy : fev env y = some (.string (bs m))) : Val c n env L o (.bool (decide (¬ l = m))) := fun a w hk _ => by
  simp only [execOp, hop, hk.eval hx, hk.eval hy]; simp [go_sem, binOp, Op.stringOp, bs_toList, list_beq]
theorem bs_append (l m : List UInt8) : bs l ++ bs m = bs (l ++ m) := bs_eq (by simp [bs])
theorem V_sadd (hop : o.op = .binOp .add t x y yt) (hx : fev env x = some (.string (bs l))) (hy : fev env y = some (.string (bs m))) (h : l.length + m.length ≤ 9223372036854775807) : Val c n env L o (.string (bs (l ++ m))) := fun a w hk _ => by
  have h' : ¬ IntKind.i64.max < (((bs l).size + (bs m).size : Nat) : Int) := by rw [IntKind.max_i64, bs_size, bs_size]; omega
  simp only [execOp, hop, hk.eval hx, hk.eval hy, eqGuard_add, pure_bind, binOp, Op.stringOp]
  rw [if_neg (by simpa using h'), bs_append]
  rfl
theorem V_slen {ts : Array TypeId} {ty : TypeId} {p : String} {e : Array Edge} {gd : Option (Nat × Bool)} {d : Option Tmp} (hop : o = ⟨d, .call ⟨.builtin .len, #[x], ts⟩, ty, p, e, gd⟩) (ht : ts[0]? = some t) (hu : c.P.underlying t = some .string) (hx : fev env x = some (.string (bs l))) : Val c n env L o (.int .i64 (l.length : Int)) := fun a w hk _ => by
  subst hop
  simp [execOp, hk.eval hx, resolve, invoke, builtin, Builtin.len_, ht, run_underlying hu, goInt, bs_size]
theorem V_sindex {q : IntKind} {i : Int} {v : UInt8} (hop : o.op = .index t x y) (hu : c.P.underlying t = some .string) (hx : fev env x = some (.string (bs l))) (hy : fev env y = some (.int q i)) (h0 : 0 ≤ i) (hv : l[i.toNat]? = some v) : Val c n env L o (.int .u8 (v.toNat : Int)) := fun a w hk _ => by
  have hv' : (bs l)[i.toNat]? = some v := by
    have hlt : i.toNat < l.length := (List.getElem?_eq_some_iff.1 hv).1
    rw [getElem?_pos (bs l) i.toNat (by rw [bs_size]; exact hlt)]
    have := (List.getElem?_eq_some_iff.1 hv).2
    rw [← this]
    rfl
  simp only [execOp, hop, hk.eval hx, hk.eval hy, Instr.index, asIntOf, Sem.run_bind, Sem.run_pure, Result.andThen_ok, run_underlying hu, if_pos h0, hv']
theorem bs_extract (l : List UInt8) (i j : Nat) : (bs l).extract i j = bs ((l.take j).drop i) := bs_eq (by simp [bs, List.drop_take])
theorem V_sslice {lo hi : Int} {q q' : IntKind} {xl xh : Operand} (hop : o.op = .slice t x (some xl) (some xh) none) (hu : c.P.underlying t = some .string) (hx : fev env x = some (.string (bs l))) (hl : fev env xl = some (.int q lo)) (hh : fev env xh = some (.int q' hi))
    (h0 : 0 ≤ lo) (h1 : lo ≤ hi) (h2 : hi ≤ l.length) : Val c n env L o (.string (bs ((l.take hi.toNat).drop lo.toNat))) := fun a w hk _ => by
  have e1 : 0 ≤ hi ∧ hi ≤ ((bs l).size : Int) := by rw [bs_size]; omega
  have e2 : 0 ≤ lo ∧ lo ≤ ((hi.toNat : Nat) : Int) := by omega
  simp only [execOp, hop, hk.eval hx, hk.eval hl, hk.eval hh, Option.map_some, Option.map_none, Instr.sliceAt, Instr.slice, Instr.sliceBounds, Instr.sliceBound, asIntOf, Sem.run_bind, Sem.run_pure, Result.andThen_ok, run_underlying hu, Option.isSome_none, Bool.false_eq_true, if_false, if_pos e1, if_pos e2, bs_extract]
theorem V_ssliceL {lo : Int} {q : IntKind} {xl : Operand} (hop : o.op = .slice t x (some xl) none none) (hu : c.P.underlying t = some .string) (hx : fev env x = some (.string (bs l))) (hl : fev env xl = some (.int q lo))
    (h0 : 0 ≤ lo) (h1 : lo ≤ l.length) : Val c n env L o (.string (bs (l.drop lo.toNat))) := fun a w hk _ => by
  have e2 : 0 ≤ lo ∧ lo ≤ ((bs l).size : Int) := by rw [bs_size]; omega
  simp only [execOp, hop, hk.eval hx, hk.eval hl, Option.map_some, Option.map_none, Instr.sliceAt, Instr.slice, Instr.sliceBounds, Instr.sliceBound, asIntOf, Sem.run_bind, Sem.run_pure, Result.andThen_ok, run_underlying hu, Option.isSome_none, Bool.false_eq_true, if_false, if_pos e2, bs_extract]
  rw [bs_size, List.take_length]
theorem V_ssliceH {hi : Int} {q' : IntKind} {xh : Operand} (hop : o.op = .slice t x none (some xh) none) (hu : c.P.underlying t = some .string) (hx : fev env x = some (.string (bs l))) (hh : fev env xh = some (.int q' hi))
    (h1 : 0 ≤ hi) (h2 : hi ≤ l.length) : Val c n env L o (.string (bs (l.take hi.toNat))) := fun a w hk _ => by
  have e1 : 0 ≤ hi ∧ hi ≤ ((bs l).size : Int) := by rw [bs_size]; omega
  simp only [execOp, hop, hk.eval hx, hk.eval hh, Option.map_some, Option.map_none, Instr.sliceAt, Instr.slice, Instr.sliceBounds, Instr.sliceBound, asIntOf, Sem.run_bind, Sem.run_pure, Result.andThen_ok, run_underlying hu, Option.isSome_none, Bool.false_eq_true, if_false, if_pos e1, bs_extract]
  try rfl
end

-- slices, pointers
theorem V_len {x : Operand} {t e : TypeId} {ts : Array TypeId} {ty : TypeId} {p : String} {es : Array Edge} {gd : Option (Nat × Bool)} {d : Option Tmp} {b : Option Addr} {i j : Nat} (hop : o = ⟨d, .call ⟨.builtin .len, #[x], ts⟩, ty, p, es, gd⟩) (ht : ts[0]? = some t) (hu : c.P.underlying t = some (.slice e)) (hx : fev env x = some (.slice b i j)) : Val c n env L o (.int .i64 (i : Int)) := fun a w hk _ => by
  subst hop
  simp [execOp, hk.eval hx, resolve, invoke, builtin, Builtin.len_, ht, run_underlying hu, goInt]
theorem V_peqlN {x y : Operand} {t e yt : TypeId} {p : Option Addr} (hop : o.op = .binOp .eql t x y yt) (hu : c.P.underlying t = some (.pointer e)) (hx : fev env x = some (.pointer p)) (hy : fev env y = some (.pointer none)) : Val c n env L o (.bool p.isNone) := fun a w hk _ => by
  have hq : c.P.pointee t = e := by simp [Program.pointee, hu]
  simp only [execOp, hop, hk.eval hx, hk.eval hy, eqGuard_at_pointer, pure_bind]
  simp only [Sem.run_bind, run_eql_pointer_nil w t p (by rw [hq]; exact hu)]
  rfl
theorem V_pneqN {x y : Operand} {t e yt : TypeId} {p : Option Addr} (hop : o.op = .binOp .neq t x y yt) (hu : c.P.underlying t = some (.pointer e)) (hx : fev env x = some (.pointer p)) (hy : fev env y = some (.pointer none)) : Val c n env L o (.bool p.isSome) := fun a w hk _ => by
  have hq : c.P.pointee t = e := by simp [Program.pointee, hu]
  simp only [execOp, hop, hk.eval hx, hk.eval hy, eqGuard_at_pointer, pure_bind]
  simp only [Sem.run_bind, run_neq_pointer_nil w t p (by rw [hq]; exact hu)]
  cases p <;> rfl
theorem V_fieldAddr {x : Operand} {t : TypeId} {i b off fo : Nat} {fs : Array Field} {f : Field} {ti : TypeInfo} (hop : o.op = .fieldAddr t x i) (hu : c.P.underlying t = some (.struct fs)) (hf : fs[i]? = some f) (hs : c.P.info? f.type = some ti) (hz : Nat.beq ti.size 0 = false) (hx : fev env x = some (.pointer (some ⟨b, off, none⟩))) (hfo : off + f.offset = fo) :
    Val c n env L o (.pointer (some ⟨b, fo, none⟩)) := fun a w hk _ => by
  have hz' : ¬ ti.size = 0 := fun e => by rw [e] at hz; simp at hz
  subst hfo
  simp [execOp, hop, hk.eval hx, Instr.fieldAt, run_underlying hu, hf, Instr.sureAddr, fieldPlace, sizeOf, typeInfo, hs, hz', Addr.add_lit]
theorem V_indexAddr {x y : Operand} {t e : TypeId} {ti : TypeInfo} {q : IntKind} {b off i j s : Nat} {z : Int} (hop : o.op = .indexAddr t x y) (hu : c.P.underlying t = some (.slice e)) (hs : c.P.info? e = some ti) (hz : ti.size = s) (hx : fev env x = some (.slice (some ⟨b, off, none⟩) i j)) (hy : fev env y = some (.int q z)) (h0 : 0 ≤ z) (h1 : z < i) :
    Val c n env L o (.pointer (some ⟨b, off + z.toNat * s, none⟩)) := fun a w hk _ => by
  subst hz
  simp [execOp, hop, hk.eval hx, hk.eval hy, Instr.indexAt, run_underlying hu, asIntOf, h0, h1, sizeOf, typeInfo, hs, Addr.add_lit]

-- structs
theorem V_field1 {x : Operand} {t : TypeId} {i : Nat} {fs : Array Field} {f : Field} {d : TypeDesc} {cs : Array Value} {v : Value} (hop : o.op = .field t x i) (hu : c.P.underlying t = some (.struct fs)) (hf : fs[i]? = some f) (hd : c.P.underlying f.type = some d) (hd1 : isAggD d = false)
    (hx : fev env x = some (.agg cs)) (hv : nth cs.toList f.offset = some v) : Val c n env L o v := fun a w hk _ => by
  have hv := at_of hv
  have hagg : (isAgg f.type).run c.P w = .ok false w := by
    unfold isAgg
    rw [Sem.run_bind, run_underlying hd w]
    cases d <;> first | rfl | exact Bool.noConfusion hd1
  simp [execOp, hop, hk.eval hx, Instr.field, run_underlying hu, hf, asAgg, part, hagg, hv]
theorem V_fieldA {x : Operand} {t : TypeId} {i : Nat} {fs : Array Field} {f : Field} {ti : TypeInfo} {d : TypeDesc} {cs vs : Array Value} (hop : o.op = .field t x i) (hu : c.P.underlying t = some (.struct fs)) (hf : fs[i]? = some f) (hd : c.P.underlying f.type = some d) (hd1 : isAggD d = true)
    (hs : c.P.info? f.type = some ti) (hx : fev env x = some (.agg cs)) (hv : cs.extract f.offset (f.offset + ti.size) = vs) : Val c n env L o (.agg vs) := fun a w hk _ => by
  have hagg : (isAgg f.type).run c.P w = .ok true w := by
    unfold isAgg
    rw [Sem.run_bind, run_underlying hd w]
    cases d <;> first | rfl | exact Bool.noConfusion hd1
  simp [execOp, hop, hk.eval hx, Instr.field, run_underlying hu, hf, asAgg, part, hagg, sizeOf, typeInfo, hs, hv]

-- memory
theorem V_load1 {x : Operand} {t T : TypeId} {b off : Nat} {cs : Array Value} {fr : Nat × Nat} {d : TypeDesc} {v : Value} (hop : o.op = .load t x) (hx : fev env x = some (.pointer (some ⟨b, off, none⟩))) (hm : (some b, Obj.cells cs T fr) ∈ c.A ++ L) (hv : nth cs.toList off = some v)
    (hd : c.P.underlying t = some d) (hd1 : isAggD d = false) : Val c n env L o v := fun a w hk hmm => by
  have hv := at_of hv
  have hagg : (isAgg t).run c.P w = .ok false w := by
    unfold isAgg
    rw [Sem.run_bind, run_underlying hd w]
    cases d <;> first | rfl | exact Bool.noConfusion hd1
  have hc : w.cell? ⟨b, off, none⟩ = some v := by rw [cell_of_row w b off cs T fr (hmm.has.both hm)]; exact hv
  simp [execOp, hop, hk.eval hx, Instr.loadAt, Instr.sureAddr, loadVar, hagg, hc]
theorem V_loadA {x : Operand} {t T : TypeId} {b off : Nat} {cs vs : Array Value} {fr : Nat × Nat} {d : TypeDesc} {ti : TypeInfo} (hop : o.op = .load t x) (hx : fev env x = some (.pointer (some ⟨b, off, none⟩))) (hm : (some b, Obj.cells cs T fr) ∈ c.A ++ L)
    (hd : c.P.underlying t = some d) (hd1 : isAggD d = true) {s : Nat} (hs : c.P.info? t = some ti) (hz : ti.size = s) (hv : cs.extract off (off + s) = vs) (hl : vs.size = s) : Val c n env L o (.agg vs) := fun a w hk hmm => by
  subst hz
  have hagg : (isAgg t).run c.P w = .ok true w := by
    unfold isAgg
    rw [Sem.run_bind, run_underlying hd w]
    cases d <;> first | rfl | exact Bool.noConfusion hd1
  have hw := hmm.has.both hm
  have h1 : (loadCells ⟨b, off, none⟩ vs.toList.length).run c.P w = .ok vs.toList.toArray w :=
    run_loadCells_list (P := c.P) w ⟨b, off, none⟩ vs.toList (fun j v hj => by
      rw [Addr.add_lit, cell_of_row w b (off + j) cs T fr hw]
      have hj' : vs[j]? = some v := by simpa using hj
      rw [← hv, Array.getElem?_extract] at hj'
      split at hj'
      · exact hj'
      · cases hj')
  simp only [Array.length_toList, Array.toArray_toList, hl] at h1
  simp [execOp, hop, hk.eval hx, Instr.loadAt, Instr.sureAddr, loadVar, hagg, sizeOf, typeInfo, hs, h1]
/-- A whole variable. -/
theorem V_loadW {x : Operand} {t T : TypeId} {b : Nat} {cs : Array Value} {fr : Nat × Nat} {d : TypeDesc} {ti : TypeInfo} (hop : o.op = .load t x) (hx : fev env x = some (.pointer (some ⟨b, 0, none⟩))) (hm : (some b, Obj.cells cs T fr) ∈ c.A ++ L)
    (hd : c.P.underlying t = some d) (hd1 : isAggD d = true) {s : Nat} (hs : c.P.info? t = some ti) (hz : ti.size = s) (hl : cs.size = s) : Val c n env L o (.agg cs) :=
  V_loadA hop hx hm hd hd1 hs hz (by rw [Nat.zero_add, ← hl]; simp) hl
theorem RV_cell {x : Tmp} {t T : TypeId} {b : Nat} {cs : Array Value} {fr : Nat × Nat} {d : TypeDesc} {ti : TypeInfo} (hx : fget env x = some (.pointer (some ⟨b, 0, none⟩))) (hm : (some b, Obj.cells cs T fr) ∈ c.A ++ L)
    (hd : c.P.underlying t = some d) (hd1 : isAggD d = true) {s : Nat} (hs : c.P.info? t = some ti) (hz : ti.size = s) (hl : cs.size = s) : RV c n env L (.cell x t) (.agg cs) := fun a w hk hmm => by
  subst hz
  have hg := hmm.has.both hm
  have h1 := hk.get _ _ hx
  have h2 := run_loadVar_row (P := c.P) w b T t cs fr d hg hd (by cases d <;> first | rfl | exact Bool.noConfusion hd1) (by rw [hs, hl]; rfl)
  show ((do loadVar t (← asAddr (a.tmps.getD x undef))) : Sem Value).run c.P w = _
  rw [h1]
  simp [asAddr, h2]
theorem RV_cell1 {x : Tmp} {t T : TypeId} {b off : Nat} {cs : Array Value} {fr : Nat × Nat} {d : TypeDesc} {v : Value} (hx : fget env x = some (.pointer (some ⟨b, off, none⟩))) (hm : (some b, Obj.cells cs T fr) ∈ c.A ++ L) (hv : nth cs.toList off = some v)
    (hd : c.P.underlying t = some d) (hd1 : isAggD d = false) : RV c n env L (.cell x t) v := fun a w hk hmm => by
  have hv := at_of hv
  have hg := hmm.has.both hm
  have h1 := hk.get _ _ hx
  have hagg : (isAgg t).run c.P w = .ok false w := by
    unfold isAgg
    rw [Sem.run_bind, run_underlying hd w]
    cases d <;> first | rfl | exact Bool.noConfusion hd1
  have hc : w.cell? ⟨b, off, none⟩ = some v := by rw [cell_of_row w b off cs T fr hg]; exact hv
  show ((do loadVar t (← asAddr (a.tmps.getD x undef))) : Sem Value).run c.P w = _
  rw [h1]
  simp [asAddr, loadVar, hagg, hc]

-- new blocks
theorem N_box {x : Operand} {T : TypeId} {v : Value} (hop : o.op = .box T x) (hx : fev env x = some v) : New c n env L o (fun b => .pointer (some ⟨b, 0, none⟩)) (.cells v.cells T) := fun a w hk _ => by
  simp [execOp, hop, hk.eval hx, Instr.box, newVar, newRow]
theorem N_boxA {x : Operand} {T : TypeId} {cs : Array Value} (hop : o.op = .box T x) (hx : fev env x = some (.agg cs)) : New c n env L o (fun b => .pointer (some ⟨b, 0, none⟩)) (.cells cs T (0, 0)) := N_box hop hx
theorem N_alloc {T : TypeId} {ti : TypeInfo} {v : Value} {cs : Array Value} (hop : o.op = .alloc T) (hs : c.P.info? T = some ti) (hz : ti.zero = some v) (hcs : v.cells = cs) : New c n env L o (fun b => .pointer (some ⟨b, 0, none⟩)) (.cells cs T) := fun a w hk _ => by
  subst hcs
  simp [execOp, hop, Instr.alloc, zeroValue, typeInfo, hs, hz, newVar, newRow]
theorem N_allocA {T : TypeId} {ti : TypeInfo} {cs : Array Value} (hop : o.op = .alloc T) (hs : c.P.info? T = some ti) (hz : ti.zero = some (.agg cs)) : New c n env L o (fun b => .pointer (some ⟨b, 0, none⟩)) (.cells cs T (0, 0)) := N_alloc hop hs hz rfl
theorem N_alloc1 {T : TypeId} {ti : TypeInfo} {v : Value} (hop : o.op = .alloc T) (hs : c.P.info? T = some ti) (hz : ti.zero = some v) (hv : v.cells = #[v]) : New c n env L o (fun b => .pointer (some ⟨b, 0, none⟩)) (.cells #[v] T (0, 0)) := N_alloc hop hs hz hv
theorem N_box1 {x : Operand} {T : TypeId} {v : Value} (hop : o.op = .box T x) (hx : fev env x = some v) (hv : v.cells = #[v]) : New c n env L o (fun b => .pointer (some ⟨b, 0, none⟩)) (.cells #[v] T (0, 0)) := hv ▸ N_box hop hx
theorem N_range {x : Operand} {t : TypeId} {s : ByteArray} (hop : o.op = .range t x) (hu : c.P.underlying t = some .string) (hx : fev env x = some (.string s)) : New c n env L o (fun b => .pointer (some ⟨b, 0, none⟩)) (.stringIter s 0) := fun a w hk _ => by
  simp [execOp, hop, hk.eval hx, Instr.range, run_underlying hu]

-- stores
theorem P_store1 {x y : Operand} {t T : TypeId} {b off : Nat} {cs : Array Value} {ti : TypeInfo} {v : Value} (hop : o.op = .store t x y) (hx : fev env x = some (.pointer (some ⟨b, off, none⟩))) (hy : fev env y = some v) (hm : (some b, Obj.cells cs T (0, 0)) ∈ L) (hoff : off < cs.size)
    (hs : c.P.info? t = some ti) (h1 : ti.size = 1) (hv : v.oneCell' = true) : Put c n env L o b (.cells (cs.setIfInBounds off v) T (0, 0)) := fun a w hk hmm => by
  have hw := hmm.lies hm
  have hc : w.cell? ⟨b, off, none⟩ = some cs[off] := by rw [cell_of_row w b off cs T (0, 0) hw]; simp [hoff]
  have hf := frozen_of_row w b off cs T hw
  have hcells : v.cells = #[v] := by cases v <;> first | rfl | simp [Value.oneCell'] at hv
  refine ⟨w.setCell ⟨b, off, none⟩ v, ?_, rfl, rfl, rfl, by simp, heap_setCell_same w b off cs T v hw, fun k hne => heap_setCell_other w _ k v hne⟩
  have hst : (storeVar t ⟨b, off, none⟩ v).run c.P w = .ok () (w.setCell ⟨b, off, none⟩ v) := by
    simp [storeVar, sizeOf, typeInfo, hs, h1, hcells, storeCells, Addr.add_zero', run_store _ _ _ _ _ hv, hc, hf]
  simp [execOp, hop, hk.eval hx, hk.eval hy, Instr.storeAt, Instr.sureAddr, hst]
theorem P_storeA {x y : Operand} {t T : TypeId} {b : Nat} {cs vs : Array Value} {ti : TypeInfo} (hop : o.op = .store t x y) (hx : fev env x = some (.pointer (some ⟨b, 0, none⟩))) (hy : fev env y = some (.agg vs)) (hm : (some b, Obj.cells cs T (0, 0)) ∈ L) (hsz : cs.size = vs.size)
    {s : Nat} (hs : c.P.info? t = some ti) (hz : ti.size = s) (h1 : vs.size = s) (hv : vs.all (·.oneCell') = true) : Put c n env L o b (.cells vs T (0, 0)) := fun a w hk hmm => by
  subst hz
  have hw := hmm.lies hm
  have hst := run_storeVar_row (P := c.P) w b T t cs vs hw (by rw [hs, h1]; rfl) hsz hv
  refine ⟨w.setRow b vs, ?_, rfl, rfl, rfl, by simp, setRow_heap w b cs vs T _ hw, fun k hne => setRow_other w b k vs hne⟩
  simp [execOp, hop, hk.eval hx, hk.eval hy, Instr.storeAt, Instr.sureAddr, hst]
end
end Go.Proofs.YtjnaeoelnmhjfaaDoor

/- More steps: decided truths, drawn regions that only read, closures, further operations. No program in sight. -/
set_option linter.unusedSimpArgs false
set_option linter.unusedVariables false
namespace Go.Proofs.YtjnaeoelnmhjfaaDoor
open Go Go.RowKit

theorem mem_at {L : List (Option Nat × Obj)} {x : Option Nat × Obj} (k : Nat) (h : L[k]? = some x) : x ∈ L := List.mem_of_getElem? h
theorem slot_int {q : IntKind} {a b : Int} (h : a = b) : some (Value.int q a) = some (Value.int q b) := by rw [h]
theorem slot_str {a b : List UInt8} (h : a = b) : some (Value.string (bs a)) = some (Value.string (bs b)) := by rw [h]
theorem int_eq {q : IntKind} {a b : Int} (h : a = b) : Value.int q a = Value.int q b := by rw [h]
theorem str_eq {a b : List UInt8} (h : a = b) : Value.string (bs a) = Value.string (bs b) := by rw [h]
theorem bool_eq {a b : Bool} (h : a = b) : Value.bool a = Value.bool b := by rw [h]

section
variable {c : Cx} {n : Nat} {env : List (Nat × Value)} {L : List (Option Nat × Obj)} {k : List Item} {o : Oper}

theorem G_ifD {x : Operand} {p q : Code} {t : Prop} {inst : Decidable t} (hx : fev env x = some (.bool (decide t))) (hT : t → G c n env L (.code p :: k)) (hF : ¬ t → G c n env L (.code q :: k)) : G c n env L (.code (.cond x p q) :: k) := by
  by_cases h : t
  · exact G_then (by rw [hx]; simp [h]) (hT h)
  · exact G_else (by rw [hx]; simp [h]) (hF h)
theorem G_splitD {todo : List Item} (d : Nat) {t : Prop} {inst : Decidable t} (hx : fget env d = some (.bool (decide t))) (hT : t → G c n ((d, .bool true) :: env) L todo) (hF : ¬ t → G c n ((d, .bool false) :: env) L todo) : G c n env L todo :=
  G_split d hx (fun h => hT (of_decide_eq_true h)) (fun h => hF (of_decide_eq_false h))

theorem goes_of_wp {code : Code} {a : Act} {w : World} (h : code.wp c.P (fun e a' w' => e = .normal ∧ GoesTo c k a' w') a w) : GoesTo c (.code code :: k) a w := by
  intro b hb hk cs
  obtain ⟨e, a', w', ⟨rfl, hg⟩, harr⟩ := h b k cs
  obtain ⟨v, p, w2, fr, hR, hm, hst, e⟩ := hg b hb hk cs
  exact ⟨v, p, w2, fr, hR, hm, Steps.trans harr hst, e⟩

/-- The rest of a drawn region, in the order of the text, each operation quiet. -/
def GQ (c : Cx) (n : Nat) (ops : Array Oper) (env : List (Nat × Value)) (L : List (Option Nat × Obj)) (i : Nat) (k : List Item) : Prop :=
  ∀ a, Knows c.ds n env a → wpQuiet c.P ops (fun w => Mem c.w0 c.A c.S L w) (fun a' => ∀ w', Mem c.w0 c.A c.S L w' → GoesTo c k a' w') (ops.toList.drop i) a

theorem G_draw {id : Nat} {ops : Array Oper} (hm : c.P.follows .mixedOrders = true) (hB : Region.lexB .any ops = true) (h : GQ c n ops env L 0 k) : G c n env L (.code (.region id ops true) :: k) := by
  intro a w hk hmm
  refine goes_of_wp (wp_region_quiet (C := fun w => Mem c.w0 c.A c.S L w) hm hB (hmm.drew _) ?_)
  have h1 := h a hk
  rw [List.drop_zero] at h1
  have conv : ∀ (l : List Oper) (a : Act), wpQuiet c.P ops (fun w => Mem c.w0 c.A c.S L w) (fun a' => ∀ w', Mem c.w0 c.A c.S L w' → GoesTo c k a' w') l a →
      wpQuiet c.P ops (fun w => Mem c.w0 c.A c.S L w) (fun a' => ∀ w', Mem c.w0 c.A c.S L w' → (Exit.normal = .normal ∧ GoesTo c k a' w')) l a := by
    intro l
    induction l with
    | nil => exact fun a h w' hw => ⟨rfl, h w' hw⟩
    | cons o l ih =>
      intro a h
      unfold wpQuiet at h ⊢
      split
      · rename_i hw
        rw [if_pos hw] at h
        obtain ⟨v, h1, h2⟩ := h
        exact ⟨v, h1, ih _ h2⟩
      · rename_i hw
        rw [if_neg hw] at h
        exact ih _ h
  exact conv _ _ h1

theorem drop_at {ops : Array Oper} {i : Nat} {o : Oper} (ho : ops[i]? = some o) : ops.toList.drop i = o :: ops.toList.drop (i + 1) := by
  have h : i < ops.toList.length := by
    have := (Array.getElem?_eq_some_iff.1 ho).1
    simpa using this
  rw [List.drop_eq_getElem_cons h]
  have := (Array.getElem?_eq_some_iff.1 ho).2
  simp [this]

theorem GQ_done {ops : Array Oper} {i : Nat} (hi : Nat.ble ops.size i = true) (h : G c n env L k) : GQ c n ops env L i k := by
  intro a hk
  have hi : ops.size ≤ i := by simpa using hi
  rw [List.drop_eq_nil_of_le (by simpa using hi)]
  exact fun w' hm => h a w' hk hm
theorem GQ_val {ops : Array Oper} {i : Nat} {d : Nat} {v : Value} (ho : ops[i]? = some o) (hd : o.dst = some d) (hn : Nat.blt d n = true) (hg : fguard ops env o = some true)
    (hv : Val c n env L o v) (h : GQ c n ops ((d, v) :: env) L (i + 1) k) : GQ c n ops env L i k := by
  intro a hk
  rw [drop_at ho]
  simp only [wpQuiet]
  rw [if_pos (wanted_of hk hg)]
  refine ⟨v, fun w hm => ?_, ?_⟩
  · unfold Oper.quietAt
    rw [hv a w hk hm]
    exact ⟨rfl, rfl⟩
  · rw [hd]
    exact h _ (hk.put hn v)
theorem GQ_off {ops : Array Oper} {i : Nat} {d : Nat} (ho : ops[i]? = some o) (hd : o.dst = some d) (hn : Nat.blt d n = true) (hg : fguard ops env o = some false)
    (h : GQ c n ops ((d, undef) :: env) L (i + 1) k) : GQ c n ops env L i k := by
  intro a hk
  rw [drop_at ho]
  simp only [wpQuiet]
  rw [if_neg (by rw [wanted_of hk hg]; exact Bool.false_ne_true), hd]
  exact h _ (hk.put hn undef)
theorem GQ_call {ops : Array Oper} {i : Nat} {d : Nat} {g : FuncId} {xs : Array Operand} {ts : Array TypeId} {args : List Value} {A' : List (Option Nat × Obj)} {R' : Value → List (Option Nat × Obj) → Prop} {v0 : Value}
    (ho : ops[i]? = some o) (hd : o.dst = some d) (hn : Nat.blt d n = true) (hg : fguard ops env o = some true) (hop : o.op = .call ⟨.value (.func g), xs, ts⟩) (hxs : fevs env xs.toList = some args)
    (hcf : ∀ (az : Array Value) w, (callFunc g az).run c.P w = .ok (.enter g az) w) (hct : Ct c.P g args A' [] R') (js : List Nat) (hA : pk js (c.A ++ L) = some A') (hv : ∀ v post, R' v post → v = v0)
    (h : GQ c n ops ((d, v0) :: env) L (i + 1) k) : GQ c n ops env L i k := by
  intro a hk
  rw [drop_at ho]
  simp only [wpQuiet]
  rw [if_pos (wanted_of hk hg)]
  refine ⟨v0, fun w hm => ?_, ?_⟩
  · have hx : xs.map a.eval = args.toArray := by
      apply Array.toList_inj.1
      simpa using hk.evals hxs
    have hr : (execOp a.eval o).run c.P w = .ok (.enter g args.toArray) w := by
      unfold execOp
      simp [hop, resolve, Act.eval, Deferred.ofValue, hx, invoke, hcf]
    unfold Oper.quietAt
    rw [hr]
    have hL : tk [] L = some ([], L) := rfl
    refine ⟨rfl, (hct w (hm.has_call hL hA)).mono fun e w' ⟨v, post, he, hR, hp⟩ => ?_⟩
    have := hv v post hR
    subst this
    exact ⟨he, (hm.call hL hA hp).sub (L' := L) List.perm_append_comm⟩
  · rw [hd]
    exact h _ (hk.put hn v0)
theorem GQ_split {ops : Array Oper} {i : Nat} (d : Nat) {t : Bool} (hx : fget env d = some (.bool t)) (hT : t = true → GQ c n ops ((d, .bool true) :: env) L i k) (hF : t = false → GQ c n ops ((d, .bool false) :: env) L i k) : GQ c n ops env L i k := by
  have key : GQ c n ops ((d, .bool t) :: env) L i k := by
    cases t
    · exact hF rfl
    · exact hT rfl
  refine fun a hk => key a ⟨hk.size, hk.defers, fun u v hu => hk.get u v ?_⟩
  rw [fget_cons] at hu
  by_cases e : d = u
  · rw [if_pos e] at hu
    subst e
    rw [hx, hu]
  · rwa [if_neg e] at hu
theorem GQ_splitD {ops : Array Oper} {i : Nat} (d : Nat) {t : Prop} {inst : Decidable t} (hx : fget env d = some (.bool (decide t))) (hT : t → GQ c n ops ((d, .bool true) :: env) L i k) (hF : ¬ t → GQ c n ops ((d, .bool false) :: env) L i k) : GQ c n ops env L i k :=
  GQ_split d hx (fun h => hT (of_decide_eq_true h)) (fun h => hF (of_decide_eq_false h))

-- closures
theorem G_callC {ops : Array Oper} {i : Nat} {rest : List Nat} {d : Nat} {g : FuncId} {x : Operand} {xs : Array Operand} {ts : Array TypeId} {args vs : List Value} {A' L' L2 : List (Option Nat × Obj)} {R' : Value → List (Option Nat × Obj) → Prop}
    (ho : ops[i]? = some o) (hd : o.dst = some d) (hn : Nat.blt d n = true) (hg : fguard ops env o = some true) (hop : o.op = .call ⟨.value x, xs, ts⟩) (hxs : fevs env xs.toList = some args)
    (hcf : ∀ (az : Array Value) w, (callFunc g az).run c.P w = .ok (.enter g az) w) (hfn : fev env x = some (.func (.func g) #[] vs.toArray)) (hct : Ct c.P g (args ++ vs) A' L' R') (is js : List Nat) (hL : tk is L = some (L', L2)) (hA : pk js (c.A ++ L2) = some A')
    (K : ∀ v post, R' v post → G c n ((d, v) :: env) (post ++ L2) (.inRegion ops rest :: k)) : G c n env L (.inRegion ops (i :: rest) :: k) := by
  intro a w hk hm
  refine goes_op ho (wanted_of hk hg) ?_
  have hx : xs.map a.eval = args.toArray := by
    apply Array.toList_inj.1
    simpa using hk.evals hxs
  have hr : (execOp a.eval o).run c.P w = .ok (.enter g (args ++ vs).toArray) w := by
    unfold execOp
    simp only [hop, resolve, hk.eval hfn, hx]
    simp [Deferred.ofValue, invoke, hcf]
  rw [hr, Oper.upon_enter]
  refine (hct w (hm.has_call hL hA)).mono fun e w' ⟨v, post, he, hR, hp⟩ => ?_
  subst he
  simp only [hd]
  exact K v post hR _ w' (hk.put hn v) (hm.call hL hA hp)

-- integers
section
variable {x y : Operand} {t yt : TypeId} {q : IntKind} {p r : Int}
def bitsOp (op : BinOp) (q : IntKind) (p r : Int) : Int := match op with
  | .and => q.wrap ((BitVec.ofInt q.bits p &&& BitVec.ofInt q.bits r).toNat : Int)
  | .or => q.wrap ((BitVec.ofInt q.bits p ||| BitVec.ofInt q.bits r).toNat : Int)
  | .xor => q.wrap ((BitVec.ofInt q.bits p ^^^ BitVec.ofInt q.bits r).toNat : Int)
  | .andNot => q.wrap ((BitVec.ofInt q.bits p &&& ~~~ BitVec.ofInt q.bits r).toNat : Int)
  | _ => 0
theorem V_bits (bop : BinOp) (hop : o.op = .binOp bop t x y yt) (hx : fev env x = some (.int q p)) (hy : fev env y = some (.int q r)) (hb : (bop == .and || bop == .or || bop == .xor || bop == .andNot) = true) : Val c n env L o (.int q (bitsOp bop q p r)) := fun a w hk _ => by
  simp only [execOp, hop, hk.eval hx, hk.eval hy, eqGuard_at_int, pure_bind]
  cases bop <;> first
    | (simp only [binOp_and, binOp_or, binOp_xor, binOp_andNot]; rfl)
    | exact absurd hb (by decide)
theorem V_min {xs : Array TypeId} {ty : TypeId} {ps : String} {es : Array Edge} {gd : Option (Nat × Bool)} {d : Option Tmp} (hop : o = ⟨d, .call ⟨.builtin .min, #[x, y], xs⟩, ty, ps, es, gd⟩) (hx : fev env x = some (.int q p)) (hy : fev env y = some (.int q r)) : Val c n env L o (.int q (min p r)) := fun a w hk _ => by
  subst hop
  have e : (if r < p then r else p) = min p r := by split <;> omega
  simp [execOp, hk.eval hx, hk.eval hy, resolve, invoke, builtin, Builtin.min_, Builtin.min2, e]
theorem V_max {xs : Array TypeId} {ty : TypeId} {ps : String} {es : Array Edge} {gd : Option (Nat × Bool)} {d : Option Tmp} (hop : o = ⟨d, .call ⟨.builtin .max, #[x, y], xs⟩, ty, ps, es, gd⟩) (hx : fev env x = some (.int q p)) (hy : fev env y = some (.int q r)) : Val c n env L o (.int q (max p r)) := fun a w hk _ => by
  subst hop
  have e : (if p < r then r else p) = max p r := by split <;> omega
  have e' : (if r > p then r else p) = max p r := by split <;> omega
  simp [execOp, hk.eval hx, hk.eval hy, resolve, invoke, builtin, Builtin.max_, Builtin.max2, e, e']
end

-- texts
theorem V_sindexD {x y : Operand} {t : TypeId} {l : List UInt8} {q : IntKind} {i : Int} (hop : o.op = .index t x y) (hu : c.P.underlying t = some .string) (hx : fev env x = some (.string (bs l))) (hy : fev env y = some (.int q i)) (h0 : 0 ≤ i) (hv : i.toNat < l.length) : Val c n env L o (.int .u8 ((l.getD i.toNat 0).toNat : Int)) :=
  V_sindex hop hu hx hy h0 (by simp [List.getD, List.getElem?_eq_getElem hv])
theorem V_sindexN {x y : Operand} {t : TypeId} {l : List UInt8} {q : IntKind} {i : Int} {j : Nat} (hop : o.op = .index t x y) (hu : c.P.underlying t = some .string) (hx : fev env x = some (.string (bs l))) (hy : fev env y = some (.int q i)) (hj : i = (j : Int)) (hv : j < l.length) : Val c n env L o (.int .u8 ((l.getD j 0).toNat : Int)) := by
  subst hj
  exact V_sindexD hop hu hx hy (by omega) (by simpa using hv)
theorem V_ssliceN {x xl xh : Operand} {t : TypeId} {l : List UInt8} {zl zh : Int} {lo hi : Nat} {q q' : IntKind} (hop : o.op = .slice t x (some xl) (some xh) none) (hu : c.P.underlying t = some .string) (hx : fev env x = some (.string (bs l))) (hl : fev env xl = some (.int q zl)) (hh : fev env xh = some (.int q' zh))
    (el : zl = (lo : Int)) (eh : zh = (hi : Int)) (h1 : lo ≤ hi) (h2 : hi ≤ l.length) : Val c n env L o (.string (bs ((l.take hi).drop lo))) := by
  subst el eh
  have := V_sslice (c := c) (n := n) (L := L) hop hu hx hl hh (by omega) (by omega) (by omega)
  simpa using this
theorem V_ssliceLN {x xl : Operand} {t : TypeId} {l : List UInt8} {zl : Int} {lo : Nat} {q : IntKind} (hop : o.op = .slice t x (some xl) none none) (hu : c.P.underlying t = some .string) (hx : fev env x = some (.string (bs l))) (hl : fev env xl = some (.int q zl))
    (el : zl = (lo : Int)) (h1 : lo ≤ l.length) : Val c n env L o (.string (bs (l.drop lo))) := by
  subst el
  have := V_ssliceL (c := c) (n := n) (L := L) hop hu hx hl (by omega) (by omega)
  simpa using this
theorem V_ssliceHN {x xh : Operand} {t : TypeId} {l : List UInt8} {zh : Int} {hi : Nat} {q' : IntKind} (hop : o.op = .slice t x none (some xh) none) (hu : c.P.underlying t = some .string) (hx : fev env x = some (.string (bs l))) (hh : fev env xh = some (.int q' zh))
    (eh : zh = (hi : Int)) (h2 : hi ≤ l.length) : Val c n env L o (.string (bs (l.take hi))) := by
  subst eh
  have := V_ssliceH (c := c) (n := n) (L := L) hop hu hx hh (by omega) (by omega)
  simpa using this
theorem formed_of {P : Program} {t : TypeId} {d : TypeDesc} {cs : Array Value} (hu : P.underlying t = some d) (hd : isAggD d = true) {s : Nat} (hs : P.cellsOf t = s) (h : cs.size = s) : (Value.agg cs).formed P t = true := by
  subst hs
  unfold Value.formed
  rw [hu]
  cases d <;> first | (simp [h]; done) | exact Bool.noConfusion hd
theorem V_indexAddrN {x y : Operand} {t e : TypeId} {ti : TypeInfo} {q : IntKind} {b off i j s : Nat} {z : Int} {m : Nat} (hop : o.op = .indexAddr t x y) (hu : c.P.underlying t = some (.slice e)) (hs : c.P.info? e = some ti) (hz : ti.size = s) (hx : fev env x = some (.slice (some ⟨b, off, none⟩) i j)) (hy : fev env y = some (.int q z)) (hm : z = (m : Int)) (h1 : m < i) :
    Val c n env L o (.pointer (some ⟨b, off + m * s, none⟩)) := by
  subst hm
  have := V_indexAddr (c := c) (n := n) (L := L) hop hu hs hz hx hy (by omega) (by omega)
  simpa using this
theorem V_build {t : TypeId} {parts : Array (Nat × Operand)} {vs : List Value} {cs : Array Value} (hop : o.op = .build t parts) (hx : fevs env (parts.toList.map (·.2)) = some vs) (hb : c.P.built t ((parts.toList.map (·.1)).zip vs) = some cs) : Val c n env L o (.agg cs) := fun a w hk _ => by
  have h1 := hk.evals hx
  have h2 : (parts.map fun (i, x) => (i, a.eval x)).toList = (parts.toList.map (·.1)).zip vs := by
    rw [← h1]
    simp only [Array.toList_map, List.map_map]
    generalize parts.toList = ps
    induction ps with
    | nil => rfl
    | cons p ps ih => simp [ih]
  simp only [execOp, hop]
  rw [Sem.run_bind, run_build w t _ cs (by rw [h2]; exact hb)]
  rfl
theorem V_convS {x : Operand} {t u : TypeId} {s : ByteArray} (hop : o.op = .convert t u x) (hx : fev env x = some (.string s)) (ht : c.P.underlying t = some .string) (hu : c.P.underlying u = some .string) : Val c n env L o (.string s) := fun a w hk _ => by
  simp [execOp, hop, hk.eval hx, convert, run_underlying ht, run_underlying hu]
end
end Go.Proofs.YtjnaeoelnmhjfaaDoor

/- Drawn regions in which blocks are made and written: what only reads is taken first, of the others every one that may come comes. No program in sight. -/
set_option linter.unusedSimpArgs false
set_option linter.unusedVariables false
namespace Go.Proofs.YtjnaeoelnmhjfaaDoor
open Go Go.RowKit

section
variable {c : Cx} {n : Nat} {ops : Array Oper} {Lq : List (Option Nat × Obj)} {fuel : Nat} {listed : Array Bool} {env : List (Nat × Value)} {L : List (Option Nat × Obj)} {k : List Item} {o : Oper}

def HQ (c : Cx) (k : List Item) (e : Exit) (a : Act) (w : World) : Prop := e = .normal ∧ GoesTo c k a w
def HS (c : Cx) (Lq : List (Option Nat × Obj)) (w : World) : Prop := Has w c.A Lq

def GH (c : Cx) (n : Nat) (ops : Array Oper) (Lq : List (Option Nat × Obj)) (fuel : Nat) (listed : Array Bool) (env : List (Nat × Value)) (L : List (Option Nat × Obj)) (k : List Item) : Prop :=
  ∀ a w, Knows c.ds n env a → Mem c.w0 c.A c.S L w → HS c Lq w → wpAnyH c.P .any ops (HQ c k) (HS c Lq) fuel listed a w

def GHop (c : Cx) (n : Nat) (ops : Array Oper) (Lq : List (Option Nat × Obj)) (fuel : Nat) (listed : Array Bool) (env : List (Nat × Value)) (L : List (Option Nat × Obj)) (k : List Item) (i : Nat) : Prop :=
  ∀ a w, Knows c.ds n env a → Mem c.w0 c.A c.S L w → HS c Lq w → wpOp c.P ops (HQ c k) i (fun a' w' => HS c Lq w' ∧ wpAnyH c.P .any ops (HQ c k) (HS c Lq) fuel (listed.setIfInBounds i true) a' w') a w
def GHops (c : Cx) (n : Nat) (ops : Array Oper) (Lq : List (Option Nat × Obj)) (fuel : Nat) (listed : Array Bool) (env : List (Nat × Value)) (L : List (Option Nat × Obj)) (k : List Item) : List Nat → Prop
  | [] => True
  | i :: is => GHop c n ops Lq fuel listed env L k i ∧ GHops c n ops Lq fuel listed env L k is
theorem GHops.mem {is : List Nat} (h : GHops c n ops Lq fuel listed env L k is) : ∀ i ∈ is, GHop c n ops Lq fuel listed env L k i := by
  induction is with
  | nil => exact fun i hi => by cases hi
  | cons j is ih =>
    intro i hi
    rcases List.mem_cons.1 hi with e | hi
    · subst e; exact h.1
    · exact ih h.2 i hi

theorem hs_of {w : World} {isq : List Nat} {M : List (Option Nat × Obj)} (hm : Mem c.w0 c.A c.S L w) (hq : tk isq L = some (Lq, M)) : HS c Lq w := (hm.sub (tk_perm hq)).has

theorem GH_start {id : Nat} {isq : List Nat} {M : List (Option Nat × Obj)} {m : Nat} (hm : c.P.follows .mixedOrders = true) (hq : tk isq L = some (Lq, M)) (hz : ops.size = m) (h : GH c n ops Lq m (Array.replicate m false) env L k) : G c n env L (.code (.region id ops true) :: k) := by
  intro a w hk hmm
  subst hz
  exact goes_of_wp (wp_region_held (S := HS c Lq) hm (h a _ hk (hmm.drew _) (hs_of (hmm.drew _) hq)))

theorem GH_done (hr : Region.ready .any ops listed = []) (h : G c n env L k) : GH c n ops Lq fuel listed env L k :=
  fun a w hk hm _ => wpAnyH_done hr ⟨rfl, h a w hk hm⟩ fuel

theorem Val.held {v : Value} (hv : ∀ w0 S, Val ⟨c.P, c.f, w0, c.A, S, c.R, c.ds⟩ n env Lq o v) {a : Act} (hk : Knows c.ds n env a) (w : World) (hw : HS c Lq w) : (execOp a.eval o).run c.P w = .ok (.value v) w :=
  hv w (hkeys Lq) a w hk ⟨hw, fun b o hm => .inl (mem_hkeys.2 ⟨o, hm⟩), Chg.refl _ _⟩

theorem GH_take (i : Nat) {d : Nat} {v : Value} (ho : ops[i]? = some o) (hd : o.dst = some d) (hn : Nat.blt d n = true) (hg : fguard ops env o = some true)
    (hs : Region.noSelect ops = true) (hf : Region.free .any ops listed i = true) (hr : (Region.ready .any ops listed).contains i = true)
    (hv : ∀ w0 S, Val ⟨c.P, c.f, w0, c.A, S, c.R, c.ds⟩ n env Lq o v) (h : GH c n ops Lq fuel (listed.setIfInBounds i true) ((d, v) :: env) L k) : GH c n ops Lq (fuel + 1) listed env L k := by
  intro a w hk hm hw
  refine wpAnyH_take ho hs hf hr (fun _ _ _ h => absurd h.1 (by simp)) (.inl ⟨wanted_of hk hg, fun w' hw' => Val.held hv hk w' hw'⟩) hw ?_
  rw [hd]
  exact h _ w (hk.put hn v) hm hw
theorem GH_takeOff (i : Nat) {d : Nat} (ho : ops[i]? = some o) (hd : o.dst = some d) (hn : Nat.blt d n = true) (hg : fguard ops env o = some false)
    (hs : Region.noSelect ops = true) (hf : Region.free .any ops listed i = true) (hr : (Region.ready .any ops listed).contains i = true)
    (h : GH c n ops Lq fuel (listed.setIfInBounds i true) ((d, undef) :: env) L k) : GH c n ops Lq (fuel + 1) listed env L k := by
  intro a w hk hm hw
  refine wpAnyH_take ho hs hf hr (fun _ _ _ h => absurd h.1 (by simp)) (.inr ⟨wanted_of hk hg, rfl⟩) hw ?_
  rw [hd]
  exact h _ w (hk.put hn undef) hm hw
theorem GH_all (rs : List Nat) (hr : Region.ready .any ops listed = rs) (hne : rs ≠ []) (h : GHops c n ops Lq fuel listed env L k rs) : GH c n ops Lq (fuel + 1) listed env L k :=
  fun a w hk hm hw => wpAnyH_all hr hne fun i hi => h.mem i hi a w hk hm hw
theorem GH_split (d : Nat) {t : Bool} (hx : fget env d = some (.bool t)) (hT : t = true → GH c n ops Lq fuel listed ((d, .bool true) :: env) L k) (hF : t = false → GH c n ops Lq fuel listed ((d, .bool false) :: env) L k) : GH c n ops Lq fuel listed env L k := by
  have key : GH c n ops Lq fuel listed ((d, .bool t) :: env) L k := by
    cases t
    · exact hF rfl
    · exact hT rfl
  refine fun a w hk hm => key a w ⟨hk.size, hk.defers, fun u v hu => hk.get u v ?_⟩ hm
  rw [fget_cons] at hu
  by_cases e : d = u
  · rw [if_pos e] at hu
    subst e
    rw [hx, hu]
  · rwa [if_neg e] at hu
theorem GH_splitD (d : Nat) {t : Prop} {inst : Decidable t} (hx : fget env d = some (.bool (decide t))) (hT : t → GH c n ops Lq fuel listed ((d, .bool true) :: env) L k) (hF : ¬ t → GH c n ops Lq fuel listed ((d, .bool false) :: env) L k) : GH c n ops Lq fuel listed env L k :=
  GH_split d hx (fun h => hT (of_decide_eq_true h)) (fun h => hF (of_decide_eq_false h))

theorem ghop_of {i : Nat} {a : Act} {w : World} {K : Act → World → Prop} (ho : ops[i]? = some o) (hw : Region.wanted o (yielded ops a.tmps) = true) (h : o.upon c.P a K (HQ c k) ((execOp a.eval o).run c.P w)) : wpOp c.P ops (HQ c k) i K a w := by
  unfold wpOp
  rw [ho]
  simp only
  rw [if_pos hw]
  exact .inl h

theorem GHop_val {i d : Nat} {v : Value} (ho : ops[i]? = some o) (hd : o.dst = some d) (hn : Nat.blt d n = true) (hg : fguard ops env o = some true)
    (hv : Val c n env L o v) (h : GH c n ops Lq fuel (listed.setIfInBounds i true) ((d, v) :: env) L k) : GHop c n ops Lq fuel listed env L k i := by
  intro a w hk hm hw
  refine ghop_of ho (wanted_of hk hg) ?_
  rw [hv a w hk hm, Oper.upon_value, hd]
  exact ⟨hw, h _ w (hk.put hn v) hm hw⟩
theorem GHop_new {i d : Nat} {mk : Nat → Value} {ob : Obj} (ho : ops[i]? = some o) (hd : o.dst = some d) (hn : Nat.blt d n = true) (hg : fguard ops env o = some true)
    (hv : New c n env L o mk ob) (isq : List Nat) (hq : ∀ b, ∃ M, tk isq ((some b, ob) :: L) = some (Lq, M)) (h : ∀ b, GH c n ops Lq fuel (listed.setIfInBounds i true) ((d, mk b) :: env) ((some b, ob) :: L) k) : GHop c n ops Lq fuel listed env L k i := by
  intro a w hk hm hw
  refine ghop_of ho (wanted_of hk hg) ?_
  rw [hv a w hk hm, Oper.upon_value, hd]
  obtain ⟨M, hM⟩ := hq w.heap.size
  have hs := hs_of (hm.alloc ob) hM
  exact ⟨hs, h w.heap.size _ _ (hk.put hn _) (hm.alloc ob) hs⟩
theorem GHop_put {i b : Nat} {old ob : Obj} {l1 l2 L' M : List (Option Nat × Obj)} (ho : ops[i]? = some o) (hd : o.dst = none) (hg : fguard ops env o = some true)
    (hL : L = l1 ++ (some b, old) :: l2) (hv : Put c n env L o b ob) (hL' : l1 ++ (some b, ob) :: l2 = L') (isq : List Nat) (hq : tk isq L' = some (Lq, M)) (h : GH c n ops Lq fuel (listed.setIfInBounds i true) env L' k) : GHop c n ops Lq fuel listed env L k i := by
  intro a w hk hm hw
  obtain ⟨w', hr, h1, h2, h3, h4, h5, h6⟩ := hv a w hk hm
  refine ghop_of ho (wanted_of hk hg) ?_
  rw [hr, Oper.upon_skip, hd]
  subst hL'
  have hm' := hm.put hL h1 h2 h3 h4 h5 h6
  exact ⟨hs_of hm' hq, h _ w' (hk.putNone undef) hm' (hs_of hm' hq)⟩
theorem GHop_call {i d : Nat} {g : FuncId} {xs : Array Operand} {ts : Array TypeId} {args : List Value} {A' L' L2 : List (Option Nat × Obj)} {R' : Value → List (Option Nat × Obj) → Prop}
    (ho : ops[i]? = some o) (hd : o.dst = some d) (hn : Nat.blt d n = true) (hg : fguard ops env o = some true) (hop : o.op = .call ⟨.value (.func g), xs, ts⟩) (hxs : fevs env xs.toList = some args)
    (hcf : ∀ (az : Array Value) w, (callFunc g az).run c.P w = .ok (.enter g az) w) (hct : Ct c.P g args A' L' R') (is js : List Nat) (hL : tk is L = some (L', L2)) (hA : pk js (c.A ++ L2) = some A')
    (isq : List Nat) (hq : ∀ v post, R' v post → ∃ M, tk isq (post ++ L2) = some (Lq, M)) (K : ∀ v post, R' v post → GH c n ops Lq fuel (listed.setIfInBounds i true) ((d, v) :: env) (post ++ L2) k) : GHop c n ops Lq fuel listed env L k i := by
  intro a w hk hm hw
  refine ghop_of ho (wanted_of hk hg) ?_
  have hx : xs.map a.eval = args.toArray := by
    apply Array.toList_inj.1
    simpa using hk.evals hxs
  have hr : (execOp a.eval o).run c.P w = .ok (.enter g args.toArray) w := by
    unfold execOp
    simp [hop, resolve, Act.eval, Deferred.ofValue, hx, invoke, hcf]
  rw [hr, Oper.upon_enter]
  refine (hct w (hm.has_call hL hA)).mono fun e w' ⟨v, post, he, hR, hp⟩ => ?_
  subst he
  simp only [hd]
  have hm' := hm.call hL hA hp
  obtain ⟨M', hM⟩ := hq v post hR
  exact ⟨hs_of hm' hM, K v post hR _ w' (hk.put hn v) hm' (hs_of hm' hM)⟩
end

-- contracts of the elder kind
theorem ct_same {P : Program} {f : FuncId} {args : List Value} {v : Value} (h : ∀ w, Calls P f args.toArray w fun e w' => e = .returned v ∧ w = w') : Ct P f args [] [] (fun v' post => v' = v ∧ post = []) :=
  fun w0 _ => (h w0).mono fun _ _ ⟨he, hw⟩ => ⟨v, [], he, ⟨rfl, rfl⟩, by subst hw; exact ⟨has_nil _, fun _ _ h => (by cases h), Chg.refl _ _⟩⟩
theorem ct_below {P : Program} {f : FuncId} {args : List Value} {v : Value} (h : ∀ w, Calls P f args.toArray w fun e w' => e = .returned v ∧ Below w.heap.size w w') : Ct P f args [] [] (fun v' post => v' = v ∧ post = []) :=
  fun w0 _ => (h w0).mono fun _ _ ⟨he, hb⟩ => ⟨v, [], he, ⟨rfl, rfl⟩, ⟨has_nil _, fun _ _ h => (by cases h), ⟨hb.os, hb.tape, hb.output, hb.size, fun i hi _ => hb.block i hi⟩⟩⟩
theorem ct_grown {P : Program} {f : FuncId} {args : List Value} {b : Nat} {cs cs' : Array Value} {T : TypeId} {v : Value} (h : ∀ w, Blk w b cs T → Calls P f args.toArray w fun e w' => e = .returned v ∧ Blk w' b cs' T ∧ w.grownBy w' (some b)) :
    Ct P f args [] [(some b, .cells cs T (0, 0))] (fun v' post => v' = v ∧ post = [(some b, .cells cs' T (0, 0))]) :=
  fun w0 hw => (h w0 (hw.lies b _ (by simp))).mono fun _ w' ⟨he, hb, hg⟩ => ⟨v, _, he, ⟨rfl, rfl⟩, ⟨⟨fun _ _ h => (by cases h), by simp, fun b' o hm => by
    simp only [List.mem_singleton, Prod.mk.injEq, Option.some.injEq] at hm
    obtain ⟨rfl, rfl⟩ := hm
    exact hb, fun _ h => (by cases h)⟩, fun b' o hm => by
    simp only [List.mem_singleton, Prod.mk.injEq, Option.some.injEq] at hm
    obtain ⟨rfl, rfl⟩ := hm
    exact .inl (by simp [hkeys]), ⟨hg.os, hg.tape, hg.output, hg.size, fun k hk hn => hg.block k hk (fun e => hn (by simp [hkeys]; exact Option.some.inj e))⟩⟩⟩
/-- A contract without blocks says what a law's walk wants. -/
theorem below_of_ct {P : Program} {f : FuncId} {args : List Value} {A : List (Option Nat × Obj)} {v : Value} (h : Ct P f args A [] (fun v' post => v' = v ∧ post = [])) (w : World) (hA : Has w A []) : Calls P f args.toArray w fun e w' => e = .returned v ∧ Below w.heap.size w w' :=
  (h w hA).mono fun _ _ ⟨_, _, he, ⟨hv, _⟩, hm⟩ => ⟨by rw [he, hv], ⟨hm.chg.os, hm.chg.tape, hm.chg.output, hm.chg.size, fun k hk => hm.chg.block k hk (by simp [hkeys])⟩⟩
theorem Ct.weaken {P : Program} {f : FuncId} {args : List Value} {A L : List (Option Nat × Obj)} {R R' : Value → List (Option Nat × Obj) → Prop} (h : Ct P f args A L R) (hr : ∀ v post, R v post → R' v post) : Ct P f args A L R' :=
  fun w0 hw => (h w0 hw).mono fun _ _ ⟨v, post, he, hR, hm⟩ => ⟨v, post, he, hr v post hR, hm⟩
end Go.Proofs.YtjnaeoelnmhjfaaDoor

/- Arrays, bytes, copies, blocks made with a size, structs compared. No program in sight. -/
set_option linter.unusedSimpArgs false
set_option linter.unusedVariables false
namespace Go.Proofs.YtjnaeoelnmhjfaaDoor
open Go Go.RowKit

/-- Bytes as cells. -/
def bcells (l : List UInt8) : List Value := l.map fun c => .int .u8 (c.toNat : Int)
theorem bcells_length (l : List UInt8) : (bcells l).length = l.length := by simp [bcells]
theorem bcells_one (l : List UInt8) : ∀ v ∈ bcells l, v.oneCell' = true := by
  intro v hv
  simp only [bcells, List.mem_map] at hv
  obtain ⟨c, _, rfl⟩ := hv
  rfl
theorem bcells_all (l : List UInt8) : (bcells l).toArray.all (·.oneCell') = true := by
  rw [Array.all_eq_true_iff_forall_mem]
  intro v hv
  exact bcells_one l v (by simpa using hv)
theorem bcells_append (l m : List UInt8) : bcells (l ++ m) = bcells l ++ bcells m := by simp [bcells]
theorem bcells_take (l : List UInt8) (k : Nat) : (bcells l).take k = bcells (l.take k) := by simp [bcells, List.map_take]
theorem bcells_drop (l : List UInt8) (k : Nat) : (bcells l).drop k = bcells (l.drop k) := by simp [bcells, List.map_drop]
theorem bcells_inj {l m : List UInt8} (h : bcells l = bcells m) : l = m := by
  have := congrArg (List.map fun v => match v with | Value.int _ n => UInt8.ofNat n.toNat | _ => 0) h
  simpa [bcells, Function.comp_def] using this
theorem bcells_zero (n : Nat) : List.replicate n (Value.int .u8 0) = bcells (List.replicate n 0) := by simp [bcells]

section
variable {c : Cx} {n : Nat} {env : List (Nat × Value)} {L : List (Option Nat × Obj)} {k : List Item} {o : Oper}

theorem V_aslice {x : Operand} {t e b off N : Nat} {ti : TypeInfo} (hop : o.op = .slice t x none none none) (hu : c.P.underlying t = some (.array N e)) (hs : c.P.info? e = some ti) (hx : fev env x = some (.pointer (some ⟨b, off, none⟩))) :
    Val c n env L o (.slice (some ⟨b, off, none⟩) N N) := fun a w hk _ => by
  by_cases h : N = 0
  · subst h
    simp [execOp, hop, hk.eval hx, Instr.sliceAt, run_underlying hu, Instr.sureAddr, Instr.sliceBounds, sizeOf, typeInfo, hs]
  · have h' : ¬ (N = 0) := h
    simp [execOp, hop, hk.eval hx, Instr.sliceAt, run_underlying hu, Instr.sureAddr, Instr.sliceBounds, sizeOf, typeInfo, hs, h', Addr.add_zero']
theorem V_asliceH {x xh : Operand} {t e b off N h : Nat} {z : Int} {q : IntKind} {ti : TypeInfo} (hop : o.op = .slice t x none (some xh) none) (hu : c.P.underlying t = some (.array N e)) (hs : c.P.info? e = some ti) (hx : fev env x = some (.pointer (some ⟨b, off, none⟩)))
    (hh : fev env xh = some (.int q z)) (hz : z = (h : Int)) (hb : h ≤ N) : Val c n env L o (.slice (some ⟨b, off, none⟩) h N) := fun a w hk _ => by
  subst hz
  have e1 : (0 : Int) ≤ (h : Int) ∧ (h : Int) ≤ (N : Int) := by omega
  simp only [execOp, hop, hk.eval hx, hk.eval hh, Option.map_some, Option.map_none, Instr.sliceAt, run_underlying hu, Instr.sureAddr, Instr.sliceBounds, Instr.sliceBound, asIntOf, Sem.run_bind, Sem.run_pure, Result.andThen_ok, if_pos e1, sizeOf, typeInfo, run_program, hs]
  by_cases hN : N = 0 <;> simp [hN, Addr.add_zero']
theorem V_asliceL {x xl : Operand} {t e b off N l s off' : Nat} {z : Int} {q : IntKind} {ti : TypeInfo} (hop : o.op = .slice t x (some xl) none none) (hu : c.P.underlying t = some (.array N e)) (hs : c.P.info? e = some ti) (hsz : ti.size = s) (hx : fev env x = some (.pointer (some ⟨b, off, none⟩)))
    (hl : fev env xl = some (.int q z)) (hz : z = (l : Int)) (hb : l < N) (ho' : off + l * s = off') : Val c n env L o (.slice (some ⟨b, off', none⟩) (N - l) (N - l)) := fun a w hk _ => by
  subst hz hsz ho'
  have e1 : (0 : Int) ≤ (l : Int) ∧ (l : Int) ≤ (N : Int) := by omega
  have e2 : ¬ N = l := by omega
  simp only [execOp, hop, hk.eval hx, hk.eval hl, Option.map_some, Option.map_none, Instr.sliceAt, run_underlying hu, Instr.sureAddr, Instr.sliceBounds, Instr.sliceBound, asIntOf, Sem.run_bind, Sem.run_pure, Result.andThen_ok, if_pos e1, sizeOf, typeInfo, run_program, hs]
  simp [e2, Addr.add_lit]

/-- An operation that writes a block and tells a value. -/
def PutV (c : Cx) (n : Nat) (env : List (Nat × Value)) (L : List (Option Nat × Obj)) (o : Oper) (b : Nat) (ob : Obj) (v : Value) : Prop :=
  ∀ a w, Knows c.ds n env a → Mem c.w0 c.A c.S L w → ∃ w', (execOp a.eval o).run c.P w = .ok (.value v) w' ∧ w'.os = w.os ∧ w'.tape = w.tape ∧ w'.output = w.output ∧ w'.heap.size = w.heap.size ∧ w'.heap[b]? = some ob ∧ ∀ k, k ≠ b → w'.heap[k]? = w.heap[k]?
theorem G_putV {ops : Array Oper} {i : Nat} {rest : List Nat} {b d : Nat} {old ob : Obj} {v : Value} {l1 l2 L' : List (Option Nat × Obj)} (ho : ops[i]? = some o) (hd : o.dst = some d) (hn : Nat.blt d n = true) (hg : fguard ops env o = some true)
    (hL : L = l1 ++ (some b, old) :: l2) (hv : PutV c n env L o b ob v) (hL' : l1 ++ (some b, ob) :: l2 = L') (h : G c n ((d, v) :: env) L' (.inRegion ops rest :: k)) : G c n env L (.inRegion ops (i :: rest) :: k) := by
  intro a w hk hm
  obtain ⟨w', hr, h1, h2, h3, h4, h5, h6⟩ := hv a w hk hm
  refine goes_op ho (wanted_of hk hg) ?_
  rw [hr, Oper.upon_value, hd]
  subst hL'
  exact h _ w' (hk.put hn v) (hm.put hL h1 h2 h3 h4 h5 h6)
theorem G_putVN {ops : Array Oper} {i : Nat} {rest : List Nat} {b : Nat} {old ob : Obj} {v : Value} {l1 l2 L' : List (Option Nat × Obj)} (ho : ops[i]? = some o) (hd : o.dst = none) (hg : fguard ops env o = some true)
    (hL : L = l1 ++ (some b, old) :: l2) (hv : PutV c n env L o b ob v) (hL' : l1 ++ (some b, ob) :: l2 = L') (h : G c n env L' (.inRegion ops rest :: k)) : G c n env L (.inRegion ops (i :: rest) :: k) := by
  intro a w hk hm
  obtain ⟨w', hr, h1, h2, h3, h4, h5, h6⟩ := hv a w hk hm
  refine goes_op ho (wanted_of hk hg) ?_
  rw [hr, Oper.upon_value, hd]
  subst hL'
  exact h _ w' (hk.putNone v) (hm.put hL h1 h2 h3 h4 h5 h6)

/-- Cells with others laid over them. -/
def laid (cs : Array Value) (off : Nat) (vs : List Value) : Array Value := (cs.toList.take off ++ vs ++ cs.toList.drop (off + vs.length)).toArray

theorem run_stores {P : Program} (w : World) (b off : Nat) (T : TypeId) (cs : Array Value) (vs : List Value) (hg : w.heap[b]? = some (.cells cs T (0, 0))) (hl : off + vs.length ≤ cs.size) (h1 : ∀ v ∈ vs, v.oneCell' = true) :
    (storeCells ⟨b, off, none⟩ vs).run P w = .ok () (w.setRow b (laid cs off vs)) := by
  have := run_storeCells_at (P := P) b off T vs 0 cs w hg (by omega) h1
  simpa [laid] using this

/-- 'copy' out of a text. -/
theorem P_copyS {x y : Operand} {t e T b off dl dc : Nat} {ts : Array TypeId} {ty : TypeId} {p : String} {es : Array Edge} {gd : Option (Nat × Bool)} {d : Option Tmp} {ti : TypeInfo} {cs : Array Value} {l : List UInt8}
    (hop : o = ⟨d, .call ⟨.builtin .copy, #[x, y], ts⟩, ty, p, es, gd⟩) (ht : ts[0]? = some t) (hu : c.P.underlying t = some (.slice e)) (hs : c.P.info? e = some ti) (hsz : ti.size = 1) (hx : fev env x = some (.slice (some ⟨b, off, none⟩) dl dc)) (hy : fev env y = some (.string (bs l)))
    (hm : (some b, Obj.cells cs T (0, 0)) ∈ L) (hoff : off + min l.length dl ≤ cs.size) :
    PutV c n env L o b (.cells (laid cs off (bcells (l.take dl))) T (0, 0)) (.int .i64 ((min l.length dl : Nat) : Int)) := fun a w hk hmm => by
  subst hop
  have hw := hmm.lies hm
  have hlen : (bcells (l.take dl)).length = min l.length dl := by rw [bcells_length, List.length_take, Nat.min_comm]
  have hst := run_stores (P := c.P) w b off T cs (bcells (l.take dl)) hw (by rw [hlen]; exact hoff) (bcells_one _)
  refine ⟨w.setRow b (laid cs off (bcells (l.take dl))), ?_, rfl, rfl, rfl, by simp, setRow_heap w b cs _ T _ hw, fun k hne => setRow_other w b k _ hne⟩
  simp [execOp, hk.eval hx, hk.eval hy, resolve, invoke, builtin, Builtin.copy_, ht, run_underlying hu, Builtin.lenOf, Builtin.firstCells, sizeOf, typeInfo, hs, hsz, goInt, bs_size]
  have hmin : Nat.min l.length dl = min l.length dl := rfl
  have hcells : List.take (min l.length dl) (List.map (fun b => Value.int IntKind.u8 (b.toNat : Int)) (bs l).data.toList) = bcells (l.take dl) := by
    show List.take (min l.length dl) (bcells l) = _
    rw [bcells_take, Nat.min_comm, ← List.take_take, List.take_length]
  rw [hmin, hcells, hst]
  rfl

/-- Bytes as a text. -/
theorem V_bytesS {x : Operand} {t u e T b off len cap : Nat} {fr : Nat × Nat} {cs : Array Value} {l : List UInt8} (hop : o.op = .convert t u x) (hx : fev env x = some (.slice (some ⟨b, off, none⟩) len cap)) (ht : c.P.underlying t = some (.slice e)) (he : c.P.underlying e = some (.int .u8)) (hu : c.P.underlying u = some .string)
    (hm : (some b, Obj.cells cs T fr) ∈ c.A ++ L) (hl : l.length = len) (hc : (cs.toList.drop off).take len = bcells l) : Val c n env L o (.string (bs l)) := fun a w hk hmm => by
  subst hl
  have hw := hmm.has.both hm
  have h1 := run_convert_bytes_back (P := c.P) w t u e ⟨b, off, none⟩ cap l ht he hu (fun j hj => by
    rw [Addr.add_lit, cell_of_row w b (off + j) cs T fr hw]
    have h2 : ((cs.toList.drop off).take l.length)[j]? = (bcells l)[j]? := by rw [hc]
    rw [List.getElem?_take, if_pos hj, List.getElem?_drop] at h2
    rw [← Array.getElem?_toList, h2]
    simp [bcells, hj])
  simp only [execOp, hop, hk.eval hx]
  rw [Sem.run_bind, h1]
  rfl
theorem V_bytesSNil {x : Operand} {t u e len cap : Nat} (hop : o.op = .convert t u x) (hx : fev env x = some (.slice none len cap)) (ht : c.P.underlying t = some (.slice e)) (he : c.P.underlying e = some (.int .u8)) (hu : c.P.underlying u = some .string) : Val c n env L o (.string (bs [])) := fun a w hk hmm => by
  simp only [execOp, hop, hk.eval hx]
  rw [Sem.run_bind, run_convert_bytes_string w t u e none len cap ht he hu]
  rfl

theorem madeCells_one (z : Value) (m : Nat) : madeCells #[z] m = (List.replicate m z).toArray := by
  apply Array.ext
  · simp [size_madeCells]
  · intro i h1 h2
    simp [madeCells, Nat.mod_one]
/-- 'make' of cells of one. -/
theorem N_make {xl xc : Operand} {t e l m : Nat} {kl kc : IntKind} {zl zc : Int} {ti : TypeInfo} {z v : Value} (hop : o.op = .makeSlice t xl xc) (hu : c.P.underlying t = some (.slice e)) (hs : c.P.info? e = some ti) (hz : ti.zero = some v) (hv : v.cells = #[z]) (hsz : ti.size = 1)
    (hxl : fev env xl = some (.int kl zl)) (hxc : fev env xc = some (.int kc zc)) (hl : zl = (l : Int)) (hc : zc = (m : Int)) (hlc : l ≤ m) (hb : ti.bytes * m ≤ 281474976710656) (h63 : m ≤ 9223372036854775807) :
    New c n env L o (fun b => .slice (some ⟨b, 0, none⟩) l m) (.cells (List.replicate m z).toArray e (0, 0)) := fun a w hk _ => by
  subst hl hc
  have h1 := run_make (P := c.P) w t e ti v hu hs hz kl kc (l : Int) (m : Int) (by omega) (by omega) (by
    have : ((ti.bytes * m : Nat) : Int) ≤ 281474976710656 := by omega
    rwa [Int.natCast_mul] at this) (by omega)
  simp only [execOp, hop, hk.eval hxl, hk.eval hxc]
  rw [Sem.run_bind, h1, hv, madeCells_one, hsz]
  simp

/-- Structs and arrays compared. -/
theorem V_aggeql {x y : Operand} {t yt : TypeId} {m D D' : Nat} {xs ys : Array Value} {lx ly : List Lit} (hop : o.op = .binOp .eql t x y yt) (hgt : c.P.eqGuardType c.P.depth t = false) (hkt : c.P.keyTypeAt m t = true) (hm : m ≤ 10000) (hfx : (Value.agg xs).formed c.P t = true) (hfy : (Value.agg ys).formed c.P t = true)
    (hx : fev env x = some (.agg xs)) (hy : fev env y = some (.agg ys)) (hlx : c.P.keyLits D t xs.toList = some lx) (hly : c.P.keyLits D' t ys.toList = some ly) : Val c n env L o (.bool (@decide (lx = ly) (Classical.propDecidable _))) := fun a w hk _ => by
  obtain ⟨r, hr, hi⟩ := run_equalIn_deep (P := c.P) (10000 - m) m t hkt w D D' (.agg xs) (.agg ys) lx ly hfx hfy (by simpa [Value.cells] using hlx) (by simpa [Value.cells] using hly)
  rw [show 10000 - m + m = 10000 by omega] at hr
  have hrd : r = @decide (lx = ly) (Classical.propDecidable _) := by
    by_cases h : lx = ly
    · rw [hi.2 h]; simp [h]
    · have : r = false := by rw [← Bool.not_eq_true]; exact fun e => h (hi.1 e)
      rw [this]; simp [h]
  simp only [execOp, hop, hk.eval hx, hk.eval hy]
  rw [Sem.run_bind, Sem.run_bind, run_eqGuard_agg w .eql t x y xs ys hgt]
  simp only [Result.andThen_ok, run_eql_struct, hr, hrd]
  rfl
theorem V_aggneq {x y : Operand} {t yt : TypeId} {m D D' : Nat} {xs ys : Array Value} {lx ly : List Lit} (hop : o.op = .binOp .neq t x y yt) (hgt : c.P.eqGuardType c.P.depth t = false) (hkt : c.P.keyTypeAt m t = true) (hm : m ≤ 10000) (hfx : (Value.agg xs).formed c.P t = true) (hfy : (Value.agg ys).formed c.P t = true)
    (hx : fev env x = some (.agg xs)) (hy : fev env y = some (.agg ys)) (hlx : c.P.keyLits D t xs.toList = some lx) (hly : c.P.keyLits D' t ys.toList = some ly) : Val c n env L o (.bool (@decide (¬ lx = ly) (Classical.propDecidable _))) := fun a w hk _ => by
  obtain ⟨r, hr, hi⟩ := run_equalIn_deep (P := c.P) (10000 - m) m t hkt w D D' (.agg xs) (.agg ys) lx ly hfx hfy (by simpa [Value.cells] using hlx) (by simpa [Value.cells] using hly)
  rw [show 10000 - m + m = 10000 by omega] at hr
  have hrd : (!r) = @decide (¬ lx = ly) (Classical.propDecidable _) := by
    by_cases h : lx = ly
    · rw [hi.2 h]; simp [h]
    · have : r = false := by rw [← Bool.not_eq_true]; exact fun e => h (hi.1 e)
      rw [this]; simp [h]
  simp only [execOp, hop, hk.eval hx, hk.eval hy]
  rw [Sem.run_bind, Sem.run_bind, run_eqGuard_agg w .neq t x y xs ys hgt]
  simp only [Result.andThen_ok, run_neq_struct, hr, hrd]
  rfl
end

theorem mapM_bytes (f : List Value → Option (List Lit)) (h : ∀ c : UInt8, f [.int .u8 (c.toNat : Int)] = some [.int .u8 (c.toNat : Int)]) (m : List UInt8) : ∀ (l p : List UInt8), p ++ l = m →
    (List.range' p.length l.length).mapM (fun i => f (((bcells m).drop (i * 1)).take 1)) = some (l.map fun c => [.int .u8 (c.toNat : Int)])
  | [], p, _ => by simp
  | c :: l, p, e => by
    have ih := mapM_bytes f h m l (p ++ [c]) (by simpa using e)
    simp only [List.length_cons, List.range'_succ, List.mapM_cons]
    have h0 : ((bcells m).drop (p.length * 1)).take 1 = [.int .u8 (c.toNat : Int)] := by
      rw [← e, Nat.mul_one, bcells_append, List.drop_left' (bcells_length p)]
      simp [bcells]
    rw [h0, h]
    simp only [List.length_append, List.length_cons, List.length_nil, Nat.zero_add] at ih
    simp only [Option.bind_eq_bind, Option.bind_some, List.map_cons]
    rw [ih]
    rfl
theorem flatten_ones {α β : Type} (f : α → β) : ∀ l : List α, (l.map fun c => [f c]).flatten = l.map f
  | [] => rfl
  | c :: l => by simp [flatten_ones f l]
theorem keyLits_bytes {P : Program} {t e : TypeId} {D N : Nat} (ht : P.underlying t = some (.array N e)) (he : P.underlying e = some (.int .u8)) (h1 : P.cellsOf e = 1) (hn : P.cellsOf t = N) (l : List UInt8) (hl : l.length = N) :
    P.keyLits (D + 2) t (bcells l).toArray.toList = some (l.map fun c => .int .u8 (c.toNat : Int)) := by
  unfold Program.keyLits
  simp only [ht]
  rw [if_pos (by simp [bcells_length, hl, hn]), h1]
  have := mapM_bytes (P.keyLits (D + 1) e) (fun c => by
    unfold Program.keyLits
    have hc := c.toNat_lt
    have hwf : (Lit.int .u8 (c.toNat : Int)).wf = true := by
      simp only [Lit.wf, IntKind.min, IntKind.max, IntKind.signed, IntKind.bits]
      simp
      omega
    simp [he, hwf]) l l [] rfl
  simp only [List.length_nil] at this
  rw [← hl, List.range_eq_range', this]
  simp only [Option.map_some]
  rw [flatten_ones]
theorem lits_bytes_inj {l m : List UInt8} (h : (l.map fun c => Lit.int .u8 (c.toNat : Int)) = m.map fun c => Lit.int .u8 (c.toNat : Int)) : l = m := by
  have := congrArg (List.map fun v => match v with | Lit.int _ n => UInt8.ofNat n.toNat | _ => 0) h
  simpa [Function.comp_def] using this
end Go.Proofs.YtjnaeoelnmhjfaaDoor

/- A slice that the call has, and that grows; bytes told as a text. No program in sight. -/
set_option linter.unusedSimpArgs false
set_option linter.unusedVariables false
namespace Go.Proofs.YtjnaeoelnmhjfaaDoor
open Go Go.RowKit

/-- A slice's block (none: it is nil), its cells, what is frozen, its capacity. -/
structure Sl where
  ob : Option Nat
  cs : Array Value
  fz : Nat × Nat
  cap : Nat
def Sl.v (u : Sl) (n : Nat) : Value := .slice (u.ob.map fun b => ⟨b, 0, none⟩) n u.cap
def Sl.e (u : Sl) (T : TypeId) : Option Nat × Obj := (u.ob, .cells u.cs T u.fz)
def slNil : Sl := ⟨none, #[], (0, 0), 0⟩
structure Own (sz : Nat) (u : Sl) (xs : List Value) (n : Nat) : Prop where
  len : xs.length = n * sz
  le : n ≤ u.cap
  max : u.cap ≤ 9223372036854775807
  size : u.cs.size = u.cap * sz
  pre : u.cs.toList.take (n * sz) = xs
  fz : u.fz.2 ≤ n * sz
  isNil : u.ob = none → u.cap = 0
theorem own_nil (sz : Nat) : Own sz slNil [] 0 := ⟨by simp, Nat.le_refl _, by simp [slNil], by simp [slNil], by simp [slNil], by simp [slNil], fun _ => rfl⟩
theorem Own.isSome {sz : Nat} {u : Sl} {xs : List Value} {n : Nat} (h : Own sz u xs n) (hn : 0 < n) : ∃ b, u.ob = some b := by
  cases hu : u.ob with
  | some b => exact ⟨b, rfl⟩
  | none => have := h.isNil hu; have := h.le; omega
theorem Own.nth {sz : Nat} {u : Sl} {xs : List Value} {n : Nat} (h : Own sz u xs n) {i : Nat} {v : Value} (hv : xs[i]? = some v) : u.cs[i]? = some v := by
  have h1 : i < n * sz := by
    rw [← h.len]
    exact (List.getElem?_eq_some_iff.1 hv).1
  rw [← h.pre, List.getElem?_take, if_pos h1] at hv
  simpa using hv

/-- What is kept when a slice grows. -/
structure More (s s' : Sl) : Prop where
  pos : (s.ob ≠ none → 0 < s.cap) → s'.ob ≠ none → 0 < s'.cap
  fz : s.fz = (0, 0) → s'.fz = (0, 0)

section
variable {P : Program}
theorem zeroCells_size {z : Array Value} {n : Nat} : (Builtin.zeroCells z n).size = n * z.size := by simp [Builtin.zeroCells]

/-- What is appended: its length, and its cells in any world with this heap. -/
structure Src (P : Program) (w : World) (sz : Nat) (xv : Value) (m : Nat) (news : List Value) : Prop where
  len : ∀ w1 : World, (Builtin.lenOf xv).run P w1 = .ok m w1
  cells : ∀ w1 : World, w1.heap = w.heap → (Builtin.firstCells sz m xv).run P w1 = .ok news.toArray w1
  nlen : news.length = m * sz
  one : ∀ u ∈ news, u.oneCell' = true

theorem src_slice {w : World} {sz : Nat} {a : Addr} {m c : Nat} {news : List Value} (hl : news.length = m * sz) (hn : ∀ j u, news[j]? = some u → w.cell? (a.add j) = some u) (h1 : ∀ u ∈ news, u.oneCell' = true) : Src P w sz (.slice (some a) m c) m news :=
  ⟨fun _ => rfl, fun w1 hw => run_firstCells_some (P := P) w1 sz m a m c news hl (fun j u hu => by have := hn j u hu; simp only [World.cell?, hw] at this ⊢; exact this), hl, h1⟩
theorem src_nil {w : World} {sz : Nat} : Src P w sz (.slice none 0 0) 0 [] :=
  ⟨fun _ => rfl, fun w1 hw => by simp [Builtin.firstCells], by simp, by simp⟩
theorem src_string {w : World} (l : List UInt8) : Src P w 1 (.string (bs l)) l.length (bcells l) := by
  refine ⟨fun w1 => by simp [Builtin.lenOf, bs_size], fun w1 _ => ?_, by simp [bcells_length], bcells_one l⟩
  have := Lib.run_firstCells_string (P := P) w1 1 (bs l)
  rw [bs_size] at this
  rw [this]
  rfl

theorem Sl.room {w : World} {sz : Nat} {u : Sl} {xs : List Value} {n m : Nat} {T : TypeId} {news : List Value} {b : Nat} (h : Own sz u xs n) (hb : u.ob = some b) (hl : news.length = m * sz) (hroom : n + m ≤ u.cap) :
    Own sz ⟨u.ob, (u.cs.toList.take (n * sz) ++ news ++ u.cs.toList.drop (n * sz + news.length)).toArray, u.fz, u.cap⟩ (xs ++ news) (n + m) := by
  have h2 := h.size
  have hlt : n * sz + m * sz ≤ u.cap * sz := by rw [← Nat.add_mul]; exact Nat.mul_le_mul_right _ hroom
  refine ⟨by rw [List.length_append, h.len, hl, Nat.add_mul], hroom, h.max, ?_, ?_, by have := h.fz; rw [Nat.add_mul]; simp only; omega, h.isNil⟩
  · simp only [List.size_toArray, List.length_append, List.length_take, List.length_drop, Array.length_toList]
    rw [hl]
    omega
  · simp only
    rw [h.pre]
    have : (xs ++ news).length = (n + m) * sz := by rw [List.length_append, h.len, hl, Nat.add_mul]
    rw [← this]
    exact List.take_left
theorem Own.grown {sz old : Nat} {xs news : List Value} {n m : Nat} {z : Value} {b : Nat} {w : World} {e : TypeId} (hx : xs.length = n * sz) (hl : news.length = m * sz) (hz : z.cells.size = sz) (h63 : n + m ≤ 9223372036854775807) :
    Own sz ⟨some b, (xs.toArray ++ news.toArray ++ Builtin.zeroCells z.cells (grownCap w (n + m) old e - (n + m))), (0, 0), grownCap w (n + m) old e⟩ (xs ++ news) (n + m) := by
  have hge := grownCap_ge w (n + m) old e
  have hcm : grownCap w (n + m) old e ≤ maxLen := grownCap_le_maxLen w (n + m) old e (by unfold maxLen; omega)
  unfold maxLen at hcm
  have hlen : (xs ++ news).length = (n + m) * sz := by rw [List.length_append, hx, hl, Nat.add_mul]
  refine ⟨hlen, hge, by simpa using hcm, ?_, ?_, by simp, fun h => by cases h⟩
  · simp only [Array.size_append, List.size_toArray, zeroCells_size, hz, hx, hl, ← Nat.add_mul]
    congr 1
    omega
  · simp only [Array.toList_append, List.append_assoc]
    rw [← List.append_assoc, ← hlen]
    exact List.take_left

set_option maxHeartbeats 2000000 in
/-- append: onto whatever the call has. -/
theorem run_append_any (w : World) (t u ty e : TypeId) (d : TypeDesc) (i : TypeInfo) (z : Value) (sz : Nat) (ht : P.underlying t = some (.slice e)) (hu : P.underlying u = some d) (hd : d = .string ∨ ∃ e', d = .slice e') (hi : P.info? e = some i) (hz : i.zero = some z)
    (hsz : i.size = sz) (hzs : z.cells.size = sz) (s : Sl) (xs : List Value) (n : Nat) (hown : Own sz s xs n) (hb : ∀ b, s.ob = some b → w.heap[b]? = some (.cells s.cs e s.fz))
    (xv : Value) (m : Nat) (news : List Value) (hS : Src P w sz xv m news) (h63 : n + m ≤ 9223372036854775807) (hbytes : (n + m) * i.bytes ≤ 140737488355328) :
    ∃ s' w', (Builtin.append_ #[t, u] ty #[s.v n, xv]).run P w = .ok (s'.v (n + m)) w' ∧ Own sz s' (xs ++ news) (n + m) ∧ (s'.ob = s.ob ∨ s'.ob = some w.heap.size) ∧ (∀ b, s'.ob = some b → w'.heap[b]? = some (.cells s'.cs e s'.fz)) ∧ w.grownBy w' s.ob ∧ More s s' := by
  subst hsz
  have hlen := hS.len w
  have hcells := hS.cells w rfl
  have hcellsD := hS.cells w.drew rfl
  have hnl := hS.nlen
  obtain ⟨ob, cs, fz, cap⟩ := s
  simp only at hb
  by_cases hroom : n + m ≤ cap
  · cases ob with
    | none =>
      have hc := hown.isNil rfl
      simp only at hc
      subst hc
      obtain ⟨rfl, rfl⟩ : n = 0 ∧ m = 0 := by omega
      have hn0 : news = [] := List.eq_nil_of_length_eq_zero (by simpa using hnl)
      subst hn0
      refine ⟨⟨none, cs, fz, 0⟩, w, ?_, by simpa using hown, .inl rfl, fun b hb => (by cases hb), ⟨rfl, rfl, rfl, Nat.le_refl _, fun _ _ _ => rfl⟩, ⟨fun h => h, fun h => h⟩⟩
      rcases hd with rfl | ⟨e', rfl⟩ <;> simp [Builtin.append_, run_underlying ht, run_underlying hu, sizeOf, typeInfo, hi, hlen, hcells, Sl.v]
    | some g =>
      have hg := hb g rfl
      have hle : n * i.size + news.length ≤ cs.size := by have := hown.size; simp only at this; rw [this, hnl, ← Nat.add_mul]; exact Nat.mul_le_mul_right _ hroom
      have hfz := hown.fz
      simp only at hfz
      have hst := run_storeCells_atF P g (n * i.size) e fz news 0 cs w hg (by simpa using hfz) (by simpa using hle) hS.one
      simp only [Nat.add_zero] at hst
      have ho := Sl.room (w := w) (T := e) hown rfl hnl hroom
      refine ⟨_, w.setRow g (cs.toList.take (n * i.size) ++ news ++ cs.toList.drop (n * i.size + news.length)).toArray, ?_, ho, .inl rfl, fun b hb' => ?_, ⟨rfl, rfl, rfl, by simp, fun k _ hk => setRow_other w g k _ (fun e => hk (by simp [e]))⟩, ⟨fun h => h, fun h => h⟩⟩
      rotate_left
      · cases hb'; exact setRow_heap w g cs _ e _ hg
      · rcases hd with rfl | ⟨e', rfl⟩ <;> simp [Builtin.append_, run_underlying ht, run_underlying hu, sizeOf, typeInfo, hi, hlen, hcells, Sl.v, hroom, Addr.add_lit, hst]
  · have h63' : ¬ (9223372036854775807 < ((n : Int) + (m : Int))) := by omega
    have hfit := growslice_fits (need := n + m) (old := cap) (bytes := i.bytes) (by omega) hbytes
    have h48' : ¬ (281474976710656 < Builtin.nextslicecap (n + m) cap * i.bytes) := by omega
    have hx := hown.len
    have ho := Own.grown (b := w.heap.size) (old := cap) (w := w) (e := e) hx hnl hzs h63
    refine ⟨_, w.drew.alloc (.cells (xs.toArray ++ news.toArray ++ Builtin.zeroCells z.cells (grownCap w (n + m) cap e - (n + m))) e), ?_, ho, .inr rfl, fun b hb' => ?_, ⟨rfl, rfl, rfl, by simp, fun k hk _ => Below.heap_alloc w.drew _ k hk⟩, ⟨fun _ _ => ?_, fun _ => rfl⟩⟩
    rotate_left
    · cases hb'; exact heap_alloc_new w.drew _
    · have := grownCap_ge w (n + m) cap e; simp only; omega
    · cases ob with
      | none =>
        have hc := hown.isNil rfl
        simp only at hc
        subst hc
        have hle := hown.le
        simp only at hle
        obtain rfl : n = 0 := by omega
        have hx0 : xs = [] := List.eq_nil_of_length_eq_zero (by simpa using hx)
        subst hx0
        simp only [Nat.zero_add] at *
        have hroom' : ¬ m = 0 := by omega
        have h63'' : ¬ (9223372036854775807 < (m : Int)) := by omega
        have hfo := run_firstCells_none (P := P) w.drew i.size 0 0 0
        rcases hd with rfl | ⟨e', rfl⟩ <;> simp [Builtin.append_, run_underlying ht, run_underlying hu, sizeOf, typeInfo, zeroValue, hi, hz, hlen, hroom', h63'', h48', Question.forced, hcellsD, hfo, newRow, grownCap, Sl.v]
      | some g =>
        have hg := hb g rfl
        have hfo := run_firstCells_some (P := P) w.drew i.size n ⟨g, 0, none⟩ n cap xs hx (fun j v hv => by
          have h1 := hown.nth hv
          show w.cell? _ = _
          rw [addr_add, cell_of_row w g (0 + j) cs e fz hg]
          simpa using h1)
        rcases hd with rfl | ⟨e', rfl⟩ <;> (simp [Builtin.append_, run_underlying ht, run_underlying hu, sizeOf, typeInfo, zeroValue, hi, hz, hlen, hroom, h63', h48', Question.forced, hcellsD, hfo, newRow, grownCap, Sl.v] <;> (congr 2; apply Array.ext'; simp [List.append_assoc]))
end

section
variable {c : Cx} {n : Nat} {env : List (Nat × Value)} {L : List (Option Nat × Obj)} {k : List Item} {o : Oper}

/-- An entry of no block says nothing. -/
theorem G_addNone {todo : List Item} (ob : Obj) (h : G c n env ((none, ob) :: L) todo) : G c n env L todo := fun a w hk hm =>
  h a w hk ⟨⟨hm.has.liesA, List.pairwise_cons.2 ⟨fun x _ b hb _ => (by cases hb), hm.has.apart⟩, fun b o' hb => by
      rcases List.mem_cons.1 hb with e | hb
      · cases e
      · exact hm.has.lies b o' hb, fun x hx y hy => by
      rcases List.mem_cons.1 hy with e | hy
      · subst e; exact fun b _ h2 => by cases h2
      · exact hm.has.cross x hx y hy⟩, fun b o' hb => by
      rcases List.mem_cons.1 hb with e | hb
      · cases e
      · exact hm.own b o' hb, hm.chg⟩

theorem Mem.grown {w0 w w' : World} {A l1 l2 : List (Option Nat × Obj)} {S : List Nat} {ob ob' : Option Nat} {o1 o2 : Obj} (h : Mem w0 A S (l1 ++ (ob, o1) :: l2) w) (hw : ob' = ob ∨ ob' = some w.heap.size) (hb : ∀ b, ob' = some b → w'.heap[b]? = some o2) (hg : w.grownBy w' ob) :
    Mem w0 A S (l1 ++ (ob', o2) :: l2) w' := by
  have hp : ∀ x : Option Nat × Obj, (l1 ++ x :: l2).Perm (x :: (l1 ++ l2)) := fun x => List.perm_middle
  have hh := h.has.perm (hp _)
  obtain ⟨ha, hr⟩ := List.pairwise_cons.1 hh.apart
  have hlt : ∀ b o, (some b, o) ∈ A ++ (l1 ++ l2) → b < w.heap.size := fun b o hm => by
    rcases List.mem_append.1 hm with hm | hm
    · exact lt_of_lies (hh.liesA b o hm)
    · exact lt_of_lies (hh.lies b o (List.mem_cons_of_mem _ hm))
  have hne : ∀ b o, (some b, o) ∈ A ++ (l1 ++ l2) → some b ≠ ob := fun b o hm e => by
    rcases List.mem_append.1 hm with hm | hm
    · exact hh.cross _ hm (ob, o1) (by simp) b rfl e.symm
    · exact ha _ hm b e.symm rfl
  have hne' : ∀ b o, (some b, o) ∈ A ++ (l1 ++ l2) → ob' ≠ some b := fun b o hm e => by
    rcases hw with h1 | h1
    · exact hne b o hm (by rw [← h1, e])
    · have := hlt b o hm
      rw [h1] at e
      injection e with e
      omega
  have hkeep : ∀ b o, (some b, o) ∈ A ++ (l1 ++ l2) → w'.heap[b]? = w.heap[b]? := fun b o hm => hg.block b (hlt b o hm) (hne b o hm)
  have hbase : Has w' A ((ob', o2) :: (l1 ++ l2)) := by
    refine ⟨fun b o hm => ?_, List.pairwise_cons.2 ⟨fun x hx b1 hb1 hx1 => ?_, hr⟩, fun b o hm => ?_, fun x hx y hy => ?_⟩
    · rw [hkeep b o (List.mem_append_left _ hm)]
      exact hh.liesA b o hm
    · obtain ⟨xb, xo⟩ := x
      simp only at hb1 hx1
      subst hx1
      exact hne' b1 xo (List.mem_append_right _ hx) hb1
    · rcases List.mem_cons.1 hm with e | hm
      · injection e with e1 e2
        subst e2
        exact hb b e1.symm
      · rw [hkeep b o (List.mem_append_right _ hm)]
        exact hh.lies b o (List.mem_cons_of_mem _ hm)
    · rcases List.mem_cons.1 hy with e | hy
      · subst e
        intro b1 hx1 hy1
        obtain ⟨xb, xo⟩ := x
        simp only at hx1 hy1
        subst hx1
        exact hne' b1 xo (List.mem_append_left _ hx) hy1
      · exact hh.cross x hx y (List.mem_cons_of_mem _ hy)
  refine ⟨hbase.perm (hp _).symm, fun b o hm => ?_, ⟨hg.os.trans h.chg.os, hg.tape.trans h.chg.tape, hg.output.trans h.chg.output, Nat.le_trans h.chg.size hg.size, fun i hi hS => ?_⟩⟩
  · rcases List.mem_cons.1 ((hp _).mem_iff.1 hm) with e | hm
    · injection e with e1 e2
      rcases hw with h1 | h1
      · exact h.own b o1 (by rw [e1, h1]; simp)
      · have hsz := h.chg.size
        rw [h1] at e1
        injection e1 with e1
        right; omega
    · rcases List.mem_append.1 hm with hm | hm
      · exact h.own b o (List.mem_append_left _ hm)
      · exact h.own b o (List.mem_append_right _ (List.mem_cons_of_mem _ hm))
  · rw [hg.block i (Nat.lt_of_lt_of_le hi h.chg.size) (fun e => ?_)]
    · exact h.chg.block i hi hS
    · rcases h.own i o1 (by rw [e]; simp) with h' | h'
      · exact hS h'
      · omega

theorem G_append {ops : Array Oper} {i : Nat} {rest : List Nat} {d m nn sz bt : Nat} {x y : Operand} {t u e ty : TypeId} {ds : TypeDesc} {ps : String} {es : Array Edge} {gd : Option (Nat × Bool)} {ti : TypeInfo} {z xv : Value} {s : Sl} {xs news : List Value} {l1 l2 : List (Option Nat × Obj)}
    (ho : ops[i]? = some o) (hop : o = ⟨some d, .call ⟨.builtin .append, #[x, y], #[t, u]⟩, ty, ps, es, gd⟩) (hn : Nat.blt d n = true) (hg : fguard ops env o = some true)
    (ht : c.P.underlying t = some (.slice e)) (hu : c.P.underlying u = some ds) (hds : ds = .string ∨ ∃ e', ds = .slice e') (hi : c.P.info? e = some ti) (hz : ti.zero = some z) (hsz : ti.size = sz) (hzs : z.cells.size = sz) (hbt : ti.bytes = bt)
    (hx : fev env x = some (s.v nn)) (hy : fev env y = some xv) (hown : Own sz s xs nn) (hL : L = l1 ++ (s.ob, .cells s.cs e s.fz) :: l2) (hS : ∀ w, Has w c.A L → Src c.P w sz xv m news)
    (h63 : nn + m ≤ 9223372036854775807) (hbytes : (nn + m) * bt ≤ 140737488355328)
    (h : ∀ s' : Sl, Own sz s' (xs ++ news) (nn + m) → More s s' → G c n ((d, s'.v (nn + m)) :: env) (l1 ++ (s'.ob, .cells s'.cs e s'.fz) :: l2) (.inRegion ops rest :: k)) : G c n env L (.inRegion ops (i :: rest) :: k) := by
  intro a w hk hm
  subst hop
  refine goes_op ho (wanted_of hk hg) ?_
  obtain ⟨s', w', hr, h1, h2, h3, h4, h5⟩ := run_append_any (P := c.P) w t u ty e ds ti z sz ht hu hds hi hz hsz hzs s xs nn hown (fun b hb => hm.lies (by rw [hL, ← hb]; simp)) xv m news (hS w hm.has) h63 (by rw [hbt]; exact hbytes)
  have hrun : (execOp a.eval ⟨some d, .call ⟨.builtin .append, #[x, y], #[t, u]⟩, ty, ps, es, gd⟩).run c.P w = .ok (.value (s'.v (nn + m))) w' := by
    unfold execOp
    simp only [resolve, invoke, builtin, Sem.run_bind, Sem.run_pure, Result.andThen_ok, List.map_toArray, List.map_cons, List.map_nil, hk.eval hx, hk.eval hy, hr]
  rw [hrun, Oper.upon_value]
  subst hL
  exact h s' h1 h5 _ w' (hk.put hn _) (hm.grown h2 h3 h4)

/-- The slice that is appended lies in a block that is known. -/
theorem src_mem {sz b off m cap : Nat} {cs : Array Value} {T : TypeId} {fr : Nat × Nat} {news : List Value} (hm : (some b, Obj.cells cs T fr) ∈ c.A ++ L) (hl : news.length = m * sz) (hc : (cs.toList.drop off).take news.length = news) (h1 : ∀ u ∈ news, u.oneCell' = true) (w : World) (hw : Has w c.A L) :
    Src c.P w sz (.slice (some ⟨b, off, none⟩) m cap) m news :=
  src_slice hl (fun j u hu => by
    rw [addr_add, cell_of_row w b (off + j) cs T fr (hw.both hm)]
    have hj : j < news.length := (List.getElem?_eq_some_iff.1 hu).1
    rw [← hc, List.getElem?_take, if_pos hj, List.getElem?_drop] at hu
    simpa using hu) h1
end
end Go.Proofs.YtjnaeoelnmhjfaaDoor

/- A range over a function: the loop's record, its rounds, the mark that it leaves. No program in sight. -/
set_option linter.unusedSimpArgs false
set_option linter.unusedVariables false
namespace Go.Proofs.YtjnaeoelnmhjfaaDoor
open Go Go.RowKit

theorem Mem.putObj {w0 w : World} {A l1 l2 : List (Option Nat × Obj)} {S : List Nat} {r : Nat} {o : Obj} (h : Mem w0 A S (l1 ++ (some r, o) :: l2) w) (o' : Obj) : Mem w0 A S (l1 ++ (some r, o') :: l2) (w.putObj r o') :=
  h.put rfl rfl rfl rfl (by simp) (World.putObj_heap_same (h.has.lt (List.mem_append_right A (by simp : (some r, o) ∈ l1 ++ (some r, o) :: l2)))) (fun k hk => World.putObj_heap_other hk)

/-- A ROUND's CONTRACT: begun where these blocks lie, it hands a value back to whoever called yield. -/
def Rd (P : Program) (l : Nat) (f : FuncId) (tmps : Array Value) (assign body : Code) (A L : List (Option Nat × Obj)) (R : Value → List (Option Nat × Obj) → Prop) : Prop :=
  ∀ w0, Has w0 A L → ∀ (cl : Frame) cs, ∃ v post w', R v post ∧ Mem w0 [] (hkeys L) post w' ∧ Steps P (lone (Frame.round l f tmps assign body .normal) (cl :: cs) w0) (lone (cl.finish v) cs w')

def GoesR (c : Cx) (l : Nat) (todo : List Item) (a : Act) (w : World) : Prop :=
  ∀ (b : Frame), b.fn = c.f → b.kind = .normal → b.roundOf = some l → ∀ (cl : Frame) cs, ∃ v post w', c.R v post ∧ Mem c.w0 [] c.S post w' ∧ Steps c.P (lone (b.atR a todo) (cl :: cs) w) (lone (cl.finish v) cs w')
def GR (c : Cx) (l n : Nat) (env : List (Nat × Value)) (L : List (Option Nat × Obj)) (todo : List Item) : Prop :=
  ∀ a w, Knows c.ds n env a → Mem c.w0 c.A c.S L w → GoesR c l todo a w

section
variable {c : Cx} {l n : Nat} {env : List (Nat × Value)} {L : List (Option Nat × Obj)} {k : List Item}
theorem goesR_of {todo todo' : List Item} {a a' : Act} {w w' : World} (hs : ∀ (b : Frame) cs, step c.P (lone (b.atR a todo) cs w) = .next (lone (b.atR a' todo') cs w')) (h : GoesR c l todo' a' w') : GoesR c l todo a w :=
  fun b hb hk hr cl cs => let ⟨v, p, w2, hR, hm, hst⟩ := h b hb hk hr cl cs; ⟨v, p, w2, hR, hm, .head (hs b (cl :: cs)) hst⟩
theorem GR_skip (h : GR c l n env L k) : GR c l n env L (.code .skip :: k) := fun a w hk hm => goesR_of (fun _ _ => stepR_skip) (h a w hk hm)
theorem GR_label {t : Nat} (h : GR c l n env L k) : GR c l n env L (.code (.label t) :: k) := fun a w hk hm => goesR_of (fun _ _ => stepR_label) (h a w hk hm)
theorem GR_inBlock {id : Nat} (h : GR c l n env L k) : GR c l n env L (.inBlock id :: k) := fun a w hk hm => goesR_of (fun _ _ => stepR_inBlock) (h a w hk hm)
theorem GR_seq {x y : Code} (h : GR c l n env L (.code x :: .code y :: k)) : GR c l n env L (.code (.seq x y) :: k) := fun a w hk hm => goesR_of (fun _ _ => stepR_seq) (h a w hk hm)
theorem GR_block {id : Nat} {x : Code} (h : GR c l n env L (.code x :: .inBlock id :: k)) : GR c l n env L (.code (.block id x) :: k) := fun a w hk hm => goesR_of (fun _ _ => stepR_block) (h a w hk hm)
theorem GR_exit {id : Nat} {k' : List Item} (he : exitTo id k = some k') (h : GR c l n env L k') : GR c l n env L (.code (.exit id) :: k) := fun a w hk hm => goesR_of (fun _ _ => stepR_exit he) (h a w hk hm)
theorem GR_region {id : Nat} {ops : Array Oper} {r : List Nat} (hl : List.range ops.size = r) (h : GR c l n env L (.inRegion ops r :: k)) : GR c l n env L (.code (.region id ops false) :: k) :=
  fun a w hk hm => goesR_of (fun _ _ => stepR_region) (by rw [hl]; exact h a w hk hm)
theorem GR_done {ops : Array Oper} (h : GR c l n env L k) : GR c l n env L (.inRegion ops [] :: k) := fun a w hk hm => goesR_of (fun _ _ => stepR_region_end) (h a w hk hm)
theorem GR_begin {r : Loop} {l1 l2 L' : List (Option Nat × Obj)} (hL : L = l1 ++ (some l, .loop r) :: l2) (hr : r.state = .ready) (hL' : l1 ++ (some l, .loop { r with state := .busy }) :: l2 = L') (h : GR c l n env L' k) : GR c l n env L (.beginRound :: k) := by
  intro a w hk hm b hb hkind hro cl cs
  subst hL hL'
  have hl : w.heap[l]? = some (.loop r) := hm.lies (by simp)
  obtain ⟨v, p, w2, hR, hm2, hst⟩ := h a _ hk (hm.putObj (.loop { r with state := .busy })) b hb hkind hro cl cs
  exact ⟨v, p, w2, hR, hm2, .head (stepR_beginRound hro (run_beginRound hl hr)) hst⟩
/-- A round that falls off its end. -/
theorem GR_end {r : Loop} {l1 l2 L' post M : List (Option Nat × Obj)} (hL : L = l1 ++ (some l, .loop r) :: l2) (hL' : l1 ++ (some l, .loop { r with state := .ready, pending := none }) :: l2 = L') (is : List Nat) (ht : tk is L' = some (post, M)) (hR : c.R (.bool true) post) : GR c l n env L [] := by
  intro a w hk hm b hb hkind hro cl cs
  subst hL hL'
  have hl : w.heap[l]? = some (.loop r) := hm.lies (by simp)
  have h1 := hm.putObj (.loop { r with state := .ready, pending := none })
  exact ⟨.bool true, post, _, hR, (h1.sub (tk_perm ht)).dropA, .one (stepR_round_end hro hkind (run_endRound none hl))⟩

theorem goesR_op {ops : Array Oper} {i : Nat} {rest : List Nat} {o : Oper} {a : Act} {w : World} (ho : ops[i]? = some o) (hnd : ∀ x, o.op ≠ .defer x) (hw : Region.wanted o (yielded ops a.tmps) = true)
    (h : o.upon c.P a (fun a' w' => GoesR c l (.inRegion ops rest :: k) a' w') (fun _ _ _ => False) ((execOp a.eval o).run c.P w)) : GoesR c l (.inRegion ops (i :: rest) :: k) a w := by
  intro b hb hkind hro cl cs
  have hg := stepGR_op (P := c.P) (b := b) (k := k) (cs := cl :: cs) (w := w) (rest := rest) ho hw
  rw [Oper.semAt_eq _ _ _ hnd] at hg
  have hfin : ∀ v, (b.atR a (.inRegion ops (i :: rest) :: k)).finish v = b.atR (a.put o.dst v) (.inRegion ops rest :: k) := by
    intro v; rw [Frame.finish_atR, ho]; rfl
  unfold Oper.upon at h
  split at h
  · rename_i v w' hr
    obtain ⟨v', p, w2, hR, hm, hst⟩ := h b hb hkind hro cl cs
    refine ⟨v', p, w2, hR, hm, .head (step_lone_go ?_) hst⟩
    rw [hg, ← hfin]; simp [stepG.apply, hr]
  · rename_i w' hr
    obtain ⟨v', p, w2, hR, hm, hst⟩ := h b hb hkind hro cl cs
    refine ⟨v', p, w2, hR, hm, .head (step_lone_go ?_) hst⟩
    rw [hg, ← hfin]; simp [stepG.apply, hr]
  · rename_i d w' hr
    obtain ⟨v', p, w2, hR, hm, hst⟩ := h b hb hkind hro cl cs
    refine ⟨v', p, w2, hR, hm, .head (step_lone_go ?_) hst⟩
    have : ({ b.atR a (.inRegion ops (i :: rest) :: k) with defers := d :: a.defers } : Frame).finish undef =
        b.atR ({ a with defers := d :: a.defers }.put o.dst undef) (.inRegion ops rest :: k) := by
      have := Frame.finish_atR b { a with defers := d :: a.defers } ops i rest k undef
      rw [ho] at this; exact this
    rw [hg]; simp only [stepG.apply, Sem.runT_eq, hr, GStep.bare_after]
    exact congrArg (fun fr => GStep.go { frame := fr, callers := cl :: cs, status := .running, dying := none } w') this
  · rename_i f args w' hr
    obtain ⟨e, w'', fr, hR, hsteps, _, hleave⟩ := h (b.atR a (.inRegion ops (i :: rest) :: k) :: cl :: cs)
    have henter : step c.P (lone (b.atR a (.inRegion ops (i :: rest) :: k)) (cl :: cs) w) =
        .next (lone (Frame.enter c.P f args .normal) (b.atR a (.inRegion ops (i :: rest) :: k) :: cl :: cs) w') :=
      step_lone_go (by rw [hg]; simp [stepG.apply, hr, Frame.atR])
    cases e with
    | returned v =>
      obtain ⟨v', p, w2, hR', hm, hst⟩ := hR b hb hkind hro cl cs
      refine ⟨v', p, w2, hR', hm, .head henter (hsteps.trans (.head ?_ hst))⟩
      rw [← hfin]; exact step_leave_returned hleave
    | panicked chain => exact hR.elim
    | outgrown => obtain ⟨_, _, hR⟩ := hR; exact hR.elim
  · rename_i row args w' hr
    obtain ⟨v, w'', hR, hsteps⟩ := h (b.atR a (.inRegion ops (i :: rest) :: k)) (cl :: cs)
    have henter : step c.P (lone (b.atR a (.inRegion ops (i :: rest) :: k)) (cl :: cs) w) =
        .next (lone (Frame.ofRow c.P row args .normal) (b.atR a (.inRegion ops (i :: rest) :: k) :: cl :: cs) w') :=
      step_lone_go (by rw [hg]; simp [stepG.apply, hr, Frame.atR])
    obtain ⟨v', p, w2, hR', hm, hst⟩ := hR b hb hkind hro cl cs
    refine ⟨v', p, w2, hR', hm, .head henter (hsteps.trans ?_)⟩
    rw [hfin]; exact hst
  · exact h.elim
  · exact h.elim
theorem GR_val {ops : Array Oper} {i : Nat} {rest : List Nat} {o : Oper} {d : Nat} {v : Value} (ho : ops[i]? = some o) (hd : o.dst = some d) (hn : Nat.blt d n = true) (hg : fguard ops env o = some true) (hnd : ∀ x, o.op ≠ .defer x)
    (hv : Val c n env L o v) (h : GR c l n ((d, v) :: env) L (.inRegion ops rest :: k)) : GR c l n env L (.inRegion ops (i :: rest) :: k) := by
  intro a w hk hm
  refine goesR_op ho hnd (wanted_of hk hg) ?_
  rw [hv a w hk hm, Oper.upon_value, hd]
  exact h _ w (hk.put hn v) hm
theorem GR_new {ops : Array Oper} {i : Nat} {rest : List Nat} {o : Oper} {d : Nat} {mk : Nat → Value} {ob : Obj} (ho : ops[i]? = some o) (hd : o.dst = some d) (hn : Nat.blt d n = true) (hg : fguard ops env o = some true) (hnd : ∀ x, o.op ≠ .defer x)
    (hv : New c n env L o mk ob) (h : ∀ b, GR c l n ((d, mk b) :: env) ((some b, ob) :: L) (.inRegion ops rest :: k)) : GR c l n env L (.inRegion ops (i :: rest) :: k) := by
  intro a w hk hm
  refine goesR_op ho hnd (wanted_of hk hg) ?_
  rw [hv a w hk hm, Oper.upon_value, hd]
  exact h w.heap.size _ _ (hk.put hn _) (hm.alloc ob)
theorem GR_put {ops : Array Oper} {i : Nat} {rest : List Nat} {o : Oper} {b : Nat} {old ob : Obj} {l1 l2 L' : List (Option Nat × Obj)} (ho : ops[i]? = some o) (hd : o.dst = none) (hg : fguard ops env o = some true) (hnd : ∀ x, o.op ≠ .defer x)
    (hL : L = l1 ++ (some b, old) :: l2) (hv : Put c n env L o b ob) (hL' : l1 ++ (some b, ob) :: l2 = L') (h : GR c l n env L' (.inRegion ops rest :: k)) : GR c l n env L (.inRegion ops (i :: rest) :: k) := by
  intro a w hk hm
  obtain ⟨w', hr, h1, h2, h3, h4, h5, h6⟩ := hv a w hk hm
  refine goesR_op ho hnd (wanted_of hk hg) ?_
  rw [hr, Oper.upon_skip, hd]
  subst hL'
  exact h _ w' (hk.putNone undef) (hm.put hL h1 h2 h3 h4 h5 h6)
theorem GR_append {ops : Array Oper} {i : Nat} {rest : List Nat} {o : Oper} {d m nn sz bt : Nat} {x y : Operand} {t u e ty : TypeId} {ds : TypeDesc} {ps : String} {es : Array Edge} {gd : Option (Nat × Bool)} {ti : TypeInfo} {z xv : Value} {s : Sl} {xs news : List Value} {l1 l2 : List (Option Nat × Obj)}
    (ho : ops[i]? = some o) (hop : o = ⟨some d, .call ⟨.builtin .append, #[x, y], #[t, u]⟩, ty, ps, es, gd⟩) (hn : Nat.blt d n = true) (hg : fguard ops env o = some true)
    (ht : c.P.underlying t = some (.slice e)) (hu : c.P.underlying u = some ds) (hds : ds = .string ∨ ∃ e', ds = .slice e') (hi : c.P.info? e = some ti) (hz : ti.zero = some z) (hsz : ti.size = sz) (hzs : z.cells.size = sz) (hbt : ti.bytes = bt)
    (hx : fev env x = some (s.v nn)) (hy : fev env y = some xv) (hown : Own sz s xs nn) (hL : L = l1 ++ (s.ob, .cells s.cs e s.fz) :: l2) (hS : ∀ w, Has w c.A L → Src c.P w sz xv m news)
    (h63 : nn + m ≤ 9223372036854775807) (hbytes : (nn + m) * bt ≤ 140737488355328)
    (h : ∀ s' : Sl, Own sz s' (xs ++ news) (nn + m) → More s s' → GR c l n ((d, s'.v (nn + m)) :: env) (l1 ++ (s'.ob, .cells s'.cs e s'.fz) :: l2) (.inRegion ops rest :: k)) : GR c l n env L (.inRegion ops (i :: rest) :: k) := by
  intro a w hk hm
  subst hop
  refine goesR_op ho (fun _ h => by cases h) (wanted_of hk hg) ?_
  obtain ⟨s', w', hr, h1, h2, h3, h4, h5⟩ := run_append_any (P := c.P) w t u ty e ds ti z sz ht hu hds hi hz hsz hzs s xs nn hown (fun b hb => hm.lies (by rw [hL, ← hb]; simp)) xv m news (hS w hm.has) h63 (by rw [hbt]; exact hbytes)
  have hrun : (execOp a.eval ⟨some d, .call ⟨.builtin .append, #[x, y], #[t, u]⟩, ty, ps, es, gd⟩).run c.P w = .ok (.value (s'.v (nn + m))) w' := by
    unfold execOp
    simp only [resolve, invoke, builtin, Sem.run_bind, Sem.run_pure, Result.andThen_ok, List.map_toArray, List.map_cons, List.map_nil, hk.eval hx, hk.eval hy, hr]
  rw [hrun, Oper.upon_value]
  subst hL
  exact h s' h1 h5 _ w' (hk.put hn _) (hm.grown h2 h3 h4)
theorem zip_one (t : Tmp) (v : Value) (T : Array Value) : ((#[t] : Array Tmp).zip #[v]).foldl (fun tmps (t, a) => tmps.setIfInBounds t a) T = T.setIfInBounds t v := by simp
/-- A round's contract, out of its walk. -/
theorem rd_of {P : Program} {f : FuncId} {tmps : Array Value} {assign body : Code} {A L : List (Option Nat × Obj)} {R : Value → List (Option Nat × Obj) → Prop} (hk : Knows [] n env ⟨tmps, []⟩)
    (h : ∀ w0, GR ⟨P, f, w0, A, hkeys L, R, []⟩ l n env L [.code assign, .beginRound, .code body]) : Rd P l f tmps assign body A L R := by
  intro w0 hw cl cs
  let b : Frame := { (default : Frame) with fn := f, kind := .normal, roundOf := some l }
  have hb0 : Frame.round l f tmps assign body .normal = b.atR { tmps := tmps, defers := [] } [.code assign, .beginRound, .code body] := by
    simp [Frame.round, Frame.atR, b]
  obtain ⟨v, post, w', hR, hm, hst⟩ := h w0 ⟨tmps, []⟩ w0 hk ⟨hw, fun b o hm => .inl (mem_hkeys.2 ⟨o, hm⟩), Chg.refl _ _⟩ b rfl rfl rfl cl cs
  rw [hb0]
  exact ⟨v, post, w', hR, hm, hst⟩

/-- A call of yield. -/
theorem G_yield {ops : Array Oper} {i : Nat} {rest : List Nat} {o : Oper} {d : Nat} {x : Operand} {xs : Array Operand} {ts : Array TypeId} {args : List Value} {r : Loop} {A' L' L2 : List (Option Nat × Obj)} {R' : Value → List (Option Nat × Obj) → Prop}
    (ho : ops[i]? = some o) (hd : o.dst = some d) (hn : Nat.blt d n = true) (hg : fguard ops env o = some true) (hop : o.op = .call ⟨.value x, xs, ts⟩) (hxs : fevs env xs.toList = some args)
    (hfn : fev env x = some (.func (.yield l) #[] #[])) (hl : (some l, .loop r) ∈ c.A ++ L) (hps : args.toArray.size = r.params.size)
    (hrd : Rd c.P l r.fn ((r.params.zip args.toArray).foldl (fun tmps (t, a) => tmps.setIfInBounds t a) r.tmps) r.assign r.body A' L' R') (is js : List Nat) (hL : tk is L = some (L', L2)) (hA : pk js (c.A ++ L2) = some A')
    (K : ∀ v post, R' v post → G c n ((d, v) :: env) (post ++ L2) (.inRegion ops rest :: k)) : G c n env L (.inRegion ops (i :: rest) :: k) := by
  intro a w hk hm b hb hkind cs
  have hgs := stepG_op (P := c.P) (b := b) (k := k) (cs := cs) (w := w) (rest := rest) ho (wanted_of hk hg)
  have hfin : ∀ v, (b.at a (.inRegion ops (i :: rest) :: k)).finish v = b.at (a.put o.dst v) (.inRegion ops rest :: k) := by
    intro v; rw [Frame.finish_at, ho]; rfl
  have hx : xs.map a.eval = args.toArray := by
    apply Array.toList_inj.1
    simpa using hk.evals hxs
  have hy := run_yield (P := c.P) (hm.has.both hl) hps
  have hr : (execOp a.eval o).run c.P w = .ok (.round l r.fn ((r.params.zip args.toArray).foldl (fun tmps (t, a) => tmps.setIfInBounds t a) r.tmps) r.assign r.body) w := by
    unfold execOp
    have hf := hk.eval hfn
    simp [hop, resolve, hf, Deferred.ofValue, hx, invoke, hy]
  obtain ⟨v, post, w', hR, hp, hst⟩ := hrd w (hm.has_call hL hA) (b.at a (.inRegion ops (i :: rest) :: k)) cs
  have hstep : step c.P (lone (b.at a (.inRegion ops (i :: rest) :: k)) cs w) = .next (lone (Frame.round l r.fn ((r.params.zip args.toArray).foldl (fun tmps (t, a) => tmps.setIfInBounds t a) r.tmps) r.assign r.body .normal) (b.at a (.inRegion ops (i :: rest) :: k) :: cs) w) :=
    step_lone_go (by rw [hgs]; simp [stepG.apply, hr, Frame.at])
  rw [hfin, hd] at hst
  obtain ⟨v', p, w2, fr, hR', hm', hst', e⟩ := K v post hR _ w' (hk.put hn v) (hm.call hL hA hp) b hb hkind cs
  exact ⟨v', p, w2, fr, hR', hm', .head hstep (hst.trans hst'), e⟩

theorem Mem.callP {w0 w w' : World} {A L L' L2 post : List (Option Nat × Obj)} {S : List Nat} (h : Mem w0 A S L w) (p1 : L.Perm (L' ++ L2))
    (hp : Mem w [] (hkeys L') post w') : Mem w0 A S (post ++ L2) w' := by
  have h' : Mem w0 A S (L' ++ L2) w := ⟨h.has.perm p1, fun b o hm => h.own b o (p1.mem_iff.2 hm), h.chg⟩
  have ht : tk (List.replicate L'.length 0) (L' ++ L2) = some (L', L2) := by
    clear h h' p1 hp
    induction L' with
    | nil => rfl
    | cons x L' ih => simp [List.replicate_succ, tk, ih]
  exact h'.call ht (js := []) (A' := []) rfl hp
theorem Mem.has_callP {w0 w : World} {A L A' L' L2 : List (Option Nat × Obj)} {S : List Nat} (h : Mem w0 A S L w) (p1 : L.Perm (L' ++ L2)) (hmem : ∀ x ∈ A', x ∈ A ++ L2) : Has w A' L' := by
  have hb : Has w A (L' ++ L2) := h.has.perm p1
  have pw2 := List.pairwise_append.1 hb.apart
  refine ⟨fun b o hm => ?_, pw2.1, fun b o hm => hb.lies b o (List.mem_append_left _ hm), fun x hx y hy => ?_⟩
  · rcases List.mem_append.1 (hmem _ hm) with hm | hm
    · exact hb.liesA b o hm
    · exact hb.lies b o (List.mem_append_right _ hm)
  · rcases List.mem_append.1 (hmem _ hx) with hx | hx
    · exact hb.cross x hx y (List.mem_append_left _ hy)
    · exact (pw2.2.2 y hy x hx).symm

/-- The record of a loop that begins. -/
def loop0 (f : FuncId) (T : Array Value) (ps : Array Tmp) (assign body : Code) (D : Nat) : Loop := { state := .ready, pending := none, fn := f, tmps := T, params := ps, assign, body, defers := D }
def markD (D : Nat) : List Deferred := [{ target := .collected D, args := #[] }]
def Cx.marked (c : Cx) (D : Nat) : Cx := { c with ds := markD D }
/-- THE STATEMENT: the iterator's contract, at this loop's record; behind it the frame bears the mark. -/
theorem G_rangeFunc {g : Operand} {ps : Array Tmp} {assign body : Code} {gf : FuncId} {vs : List Value} {A' L' L2 : List (Option Nat × Obj)} {R' : Nat → Nat → Array Value → Value → List (Option Nat × Obj) → Prop}
    (hds : c.ds = []) (hfn : fev env g = some (.func (.func gf) #[] vs.toArray)) (hcf : ∀ (az : Array Value) w, (callFunc gf az).run c.P w = .ok (.enter gf az) w)
    (hct : ∀ l D T, Knows [] n env ⟨T, []⟩ → Ct c.P gf (.func (.yield l) #[] #[] :: vs) A' ((some l, .loop (loop0 c.f T ps assign body D)) :: L') (R' l D T)) (is js : List Nat) (hL : tk is L = some (L', L2)) (hA : pk js (c.A ++ L2) = some A')
    (K : ∀ l D T v post, R' l D T v post → ∃ r post', post = (some l, .loop r) :: post' ∧ r.state ≠ .busy ∧ r.pending = none ∧ G (c.marked D) n env ((some D, .deferred (some [])) :: (post' ++ L2)) k) : G c n env L (.code (.rangeFunc g ps assign body) :: k) := by
  intro a w hk hm b hb hkind cs
  have hdf : a.defers = [] := hk.defers.trans hds
  let b' : Frame := { b with roundOf := none }
  have hat : ∀ (a : Act) todo, b'.atR a todo = b.at a todo := fun _ _ => rfl
  have he := run_enterLoop_outer (P := c.P) (w := w) b'.fn a.tmps ps assign body
  have hev := hk.eval hfn
  let W1 := (w.alloc (.deferred (some []))).alloc (.loop { state := .ready, pending := none, fn := b'.fn, tmps := a.tmps, params := ps, assign, body, defers := w.heap.size })
  have hres : (resolve a.eval (rangeCall g (w.heap.size + 1)) 0).run c.P W1 = .ok { target := .fn (.func gf) vs.toArray, args := #[.func (.yield (w.heap.size + 1)) #[] #[]] } W1 := by
    simp only [resolve, hev]
    simp [go_sem]
  have hinv : (invoke (Target.fn (.func gf) vs.toArray) #[.func (.yield (w.heap.size + 1)) #[] #[]]).run c.P W1 = .ok (.enter gf (Value.func (.yield (w.heap.size + 1)) #[] #[] :: vs).toArray) W1 := by
    simp [invoke, go_sem, hcf]
  have s1 := stepR_rangeFunc (P := c.P) (b := b') (a := a) (k := k) (cs := cs) (w := w) he hres hinv
  have m0 := hm.alloc (.deferred (some []))
  have m1 := m0.alloc (.loop (loop0 c.f a.tmps ps assign body w.heap.size))
  have hfb : b'.fn = c.f := hb
  have hW1 : (w.alloc (.deferred (some []))).alloc (.loop (loop0 c.f a.tmps ps assign body w.heap.size)) = W1 := by show _ = (w.alloc _).alloc (.loop { state := .ready, pending := none, fn := b'.fn, tmps := a.tmps, params := ps, assign, body, defers := w.heap.size }); rw [hfb]; rfl
  rw [hW1, show (w.alloc (.deferred (some []))).heap.size = w.heap.size + 1 by simp] at m1
  have p1 := tk_perm hL
  have p2 : ((some (w.heap.size + 1), Obj.loop (loop0 c.f a.tmps ps assign body w.heap.size)) :: (some w.heap.size, Obj.deferred (some [])) :: L).Perm (((some (w.heap.size + 1), Obj.loop (loop0 c.f a.tmps ps assign body w.heap.size)) :: L') ++ ((some w.heap.size, Obj.deferred (some [])) :: L2)) := by
    rw [List.cons_append]
    refine List.Perm.cons _ ?_
    exact (List.Perm.cons _ p1).trans List.perm_middle.symm
  have hkT : Knows [] n env ⟨a.tmps, []⟩ := ⟨hk.size, rfl, hk.get⟩
  obtain ⟨e, w3, fr, ⟨v, post, rfl, hR, hp⟩, hsteps, hfn', hleave⟩ := hct (w.heap.size + 1) w.heap.size a.tmps hkT W1 (m1.has_callP p2 (fun x hx => by
    rcases List.mem_append.1 (pk_mem hA x hx) with h | h
    · exact List.mem_append_left _ h
    · exact List.mem_append_right _ (List.mem_cons_of_mem _ h))) (b'.atR { a with defers := [{ target := .collected w.heap.size, args := #[] }] ++ a.defers } (.inRangeFunc (w.heap.size + 1) :: k) :: cs)
  have m3 := m1.callP p2 hp
  obtain ⟨r, post', rfl, hbusy, hpend, hG⟩ := K _ _ _ v post hR
  have hl : w3.heap[w.heap.size + 1]? = some (.loop r) := m3.lies (by simp)
  have m4 : Mem c.w0 c.A c.S ([] ++ (some (w.heap.size + 1), Obj.loop { r with state := .exhausted }) :: (post' ++ ((some w.heap.size, Obj.deferred (some [])) :: L2))) (w3.putObj (w.heap.size + 1) (.loop { r with state := .exhausted })) := Mem.putObj (l1 := []) (o := .loop r) m3 _
  have m5 : Mem c.w0 c.A c.S ((some w.heap.size, Obj.deferred (some [])) :: (post' ++ L2)) (w3.putObj (w.heap.size + 1) (.loop { r with state := .exhausted })) := m4.sub (R := [(some (w.heap.size + 1), Obj.loop { r with state := .exhausted })]) (by
    rw [List.nil_append]
    exact (List.Perm.cons _ List.perm_middle).trans (List.perm_append_singleton _ _).symm)
  have hend : (Instr.endLoop (w.heap.size + 1)).run c.P w3 = .ok none (w3.putObj (w.heap.size + 1) (.loop { r with state := .exhausted })) := (run_endLoop (P := c.P) hl hbusy).trans (by rw [hpend])
  obtain ⟨v', p, w2, fr2, hR2, hm2, hst2, e2⟩ := hG { a with defers := [{ target := .collected w.heap.size, args := #[] }] ++ a.defers } _ ⟨hk.size, by rw [hdf]; rfl, hk.get⟩ m5 b hb hkind cs
  refine ⟨v', p, w2, fr2, hR2, hm2, ?_, e2⟩
  have s2 : Steps c.P (lone (b.at a (.code (.rangeFunc g ps assign body) :: k)) cs w) (lone (b.at { a with defers := [{ target := .collected w.heap.size, args := #[] }] ++ a.defers } k) cs (w3.putObj (w.heap.size + 1) (.loop { r with state := .exhausted }))) := by
    have s3 : step c.P (lone (b.at { a with defers := [{ target := .collected w.heap.size, args := #[] }] ++ a.defers } (.endRangeFunc (w.heap.size + 1) :: k)) cs w3) = .next (lone (b.at { a with defers := [{ target := .collected w.heap.size, args := #[] }] ++ a.defers } k) cs (w3.putObj (w.heap.size + 1) (.loop { r with state := .exhausted }))) := by
      have s4 := stepR_endRangeFunc (b := b') (a := { a with defers := [{ target := .collected w.heap.size, args := #[] }] ++ a.defers }) (k := k) (cs := cs) hend
      rw [hat, hat] at s4
      exact s4
    rw [hat, hat] at s1
    refine .head s1 (hsteps.trans (.head ?_ (.one s3)))
    have hf := finish_atR_inRangeFunc (b := b') (a := { a with defers := [{ target := .collected w.heap.size, args := #[] }] ++ a.defers }) (k := k) (w.heap.size + 1) v
    rw [hat, hat] at hf
    rw [← hf]; exact step_leave_returned hleave
  exact s2.trans hst2

/-- A return past the mark. -/
theorem G_retD {D : Nat} {fn : Func} {rs : List ResultVar} {vs : List Value} {l1 l2 L' post M : List (Option Nat × Obj)} (hds : c.ds = markD D) (hL : L = l1 ++ (some D, .deferred (some [])) :: l2) (hL' : l1 ++ (some D, .deferred none) :: l2 = L')
    (hf : c.P.funcs[c.f]? = some fn) (hr : fn.results = rs.toArray)
    (hv : RVs c n env L' rs vs) (is : List Nat) (hl : tk is L' = some (post, M)) (hR : c.R (packed vs) post) : G c n env L (.code .ret :: k) := by
  intro a w hk hm b hb hkind cs
  subst hL hL'
  have hD : w.heap[D]? = some (.deferred (some [])) := hm.lies (by simp)
  have h1 := hm.putObj (.deferred none)
  have h3 := goes_ret (post := post) hr hv hk h1
  have hdf := hk.defers.trans hds
  let fr0 : Frame := { b.at a (.code .ret :: k) with mode := .returning }
  have s1 : step c.P (lone (b.at a (.code .ret :: k)) cs w) = .next (lone fr0 cs w) := step_ret
  have s2 := step_collected (P := c.P) (fr := fr0) (cs := cs) (w := w) (d := { target := .collected D, args := #[] }) (ds := []) (by show FrameMode.returning ≠ .run; simp) hdf rfl (run_takeDeferred hD)
  exact ⟨packed vs, post, _, { fr0 with defers := [] ++ [] }, hR, (h1.sub (tk_perm hl)).dropA, .head s1 (.one s2), hb, rfl, rfl, hkind, fn, by rw [← hf, ← hb]; rfl, h3⟩
end
end Go.Proofs.YtjnaeoelnmhjfaaDoor

/- strings.Builder's text, and operations in drawn regions that write and tell. No program in sight. -/
set_option linter.unusedSimpArgs false
set_option linter.unusedVariables false
namespace Go.Proofs.YtjnaeoelnmhjfaaDoor
open Go Go.RowKit

section
variable {c : Cx} {n : Nat} {env : List (Nat × Value)} {L : List (Option Nat × Obj)} {k : List Item} {o : Oper}

theorem V_sliceDataN {x : Operand} {d : Option Tmp} {ts : Array TypeId} {ty : TypeId} {ps : String} {es : Array Edge} {gd : Option (Nat × Bool)} {i j : Nat} (hop : o = ⟨d, .call ⟨.builtin .unsafeSliceData, #[x], ts⟩, ty, ps, es, gd⟩) (hx : fev env x = some (.slice none i j)) :
    Val c n env L o (.pointer none) := fun a w hk _ => by
  subst hop
  unfold execOp
  simp only [resolve, invoke, builtin, Sem.run_bind, Sem.run_pure, Result.andThen_ok, List.map_toArray, List.map_cons, List.map_nil, hk.eval hx, Lib.run_unsafeSliceData_nil]
theorem V_sliceDataS {x : Operand} {d : Option Tmp} {ts : Array TypeId} {ty : TypeId} {ps : String} {es : Array Edge} {gd : Option (Nat × Bool)} {b : Addr} {i j : Nat} (hop : o = ⟨d, .call ⟨.builtin .unsafeSliceData, #[x], ts⟩, ty, ps, es, gd⟩) (hx : fev env x = some (.slice (some b) i j)) (hj : 0 < j) :
    Val c n env L o (.pointer (some b)) := fun a w hk _ => by
  subst hop
  unfold execOp
  simp only [resolve, invoke, builtin, Sem.run_bind, Sem.run_pure, Result.andThen_ok, List.map_toArray, List.map_cons, List.map_nil, hk.eval hx, Lib.run_unsafeSliceData_row _ _ _ b i j (by omega)]
theorem V_unsafeString0 {x y : Operand} {d : Option Tmp} {t u : TypeId} {ty : TypeId} {ps : String} {es : Array Edge} {gd : Option (Nat × Bool)} {b : Option Addr} {z : Int} (hop : o = ⟨d, .call ⟨.builtin .unsafeString, #[x, y], #[t, u]⟩, ty, ps, es, gd⟩) (hx : fev env x = some (.pointer b)) (hy : fev env y = some (.int .i64 z)) (hz : z = 0) :
    Val c n env L o (.string (bs [])) := fun a w hk _ => by
  subst hop hz
  unfold execOp
  simp only [resolve, invoke, builtin, Sem.run_bind, Sem.run_pure, Result.andThen_ok, List.map_toArray, List.map_cons, List.map_nil, hk.eval hx, hk.eval hy, Lib.run_unsafeString_none]
  rfl

/-- What is frozen behind a text was told. -/
def frz (fz : Nat × Nat) (k : Nat) : Nat × Nat := if fz.1 == fz.2 then (0, 0 + k) else (min fz.1 0, max fz.2 (0 + k))
def Sl.froze (u : Sl) (k : Nat) : Sl := ⟨u.ob, u.cs, frz u.fz k, u.cap⟩
theorem Own.froze {sz : Nat} {u : Sl} {xs : List Value} {k : Nat} (h : Own sz u xs k) (hs : 0 < sz) : Own sz (u.froze k) xs k := by
  refine ⟨h.len, h.le, h.max, h.size, h.pre, ?_, h.isNil⟩
  have h1 := h.fz
  have : k ≤ k * sz := Nat.le_mul_of_pos_right _ hs
  unfold Sl.froze frz
  simp only
  split <;> simp <;> omega

theorem P_unsafeString {x y : Operand} {d : Option Tmp} {t u e : TypeId} {ty : TypeId} {ps : String} {es : Array Edge} {gd : Option (Nat × Bool)} {g : Nat} {z : Int} {l : List UInt8} {cs : Array Value} {fz : Nat × Nat} (hop : o = ⟨d, .call ⟨.builtin .unsafeString, #[x, y], #[t, u]⟩, ty, ps, es, gd⟩)
    (hp : c.P.underlying t = some (.pointer e)) (hc : c.P.cellsOf e = 1) (hx : fev env x = some (.pointer (some ⟨g, 0, none⟩))) (hy : fev env y = some (.int .i64 z)) (hz : z = (l.length : Int)) (hm : (some g, Obj.cells cs e fz) ∈ L) (hl : l ≠ []) (hn : l.length ≤ cs.size) (h63 : l.length ≤ 9223372036854775807)
    (hcs : cs.toList.take l.length = bcells l) :
    PutV c n env L o g (.cells cs e (frz fz l.length)) (.string (bs l)) := fun a w hk hmm => by
  subst hop hz
  have hw := hmm.lies hm
  have hr := Lib.run_unsafeString_row (P := c.P) w t u ty e hp hc g cs.size (by simp [World.shape?, hw]) l hl hn h63 (fun j x hj => by
    rw [addr_add, cell_of_row w g (0 + j) cs e fz hw]
    have hjl : j < l.length := (List.getElem?_eq_some_iff.1 hj).1
    have h1 : (cs.toList.take l.length)[j]? = some (.int .u8 x.toNat) := by rw [hcs]; simp [bcells, hj]
    rw [List.getElem?_take, if_pos hjl] at h1
    simpa using h1)
  refine ⟨w.freeze ⟨g, 0, none⟩ l.length, ?_, ?_, ?_, ?_, ?_, ?_, fun k hk => ?_⟩
  · unfold execOp
    simp only [resolve, invoke, builtin, Sem.run_bind, Sem.run_pure, Result.andThen_ok, List.map_toArray, List.map_cons, List.map_nil, hk.eval hx, hk.eval hy, hr]
    rfl
  all_goals unfold World.freeze
  all_goals have hl0 : ¬ l.length = 0 := by simpa using hl
  all_goals rw [if_neg hl0]
  · simp
  · obtain ⟨lo, hi⟩ := fz
    simp [Array.getElem?_modify, hw, frz]
  · have : ¬ g = k := fun e => hk e.symm
    simp [Array.getElem?_modify, this]

theorem V_pneqSame {x y : Operand} {t e yt : TypeId} {p : Addr} {j : TypeInfo} (hop : o.op = .binOp .neq t x y yt) (hu : c.P.underlying t = some (.pointer e)) (he : c.P.info? e = some j) (hx : fev env x = some (.pointer (some p))) (hy : fev env y = some (.pointer (some p))) : Val c n env L o (.bool false) := fun a w hk _ => by
  have h := Lib.run_neq_ptr_same (P := c.P) w p hu he
  have hq : c.P.pointee t = e := by simp [Program.pointee, hu]
  simp [execOp, hop, hk.eval hx, hk.eval hy, eqGuard, hu, h]
theorem V_toUnsafe {x : Operand} {t u e T : TypeId} {b off : Nat} {j : TypeInfo} {cs : Array Value} {fr : Nat × Nat} (hop : o.op = .convert t u x) (hx : fev env x = some (.pointer (some ⟨b, off, none⟩))) (ht : c.P.underlying t = some (.pointer e)) (hu : c.P.underlying u = some .unsafePointer) (hi : c.P.info? e = some j) (hj : Nat.beq j.size 0 = false)
    (hm : (some b, Obj.cells cs T fr) ∈ c.A ++ L) (hoff : off < cs.size) : Val c n env L o (.pointer (some ⟨b, off, none⟩)) := fun a w hk hmm => by
  have hj' : j.size ≠ 0 := fun e => by rw [e] at hj; simp at hj
  have h := Lib.run_to_unsafe (P := c.P) w ⟨b, off, none⟩ ht hu hi hj' (e := T) (cells := cs.size) (by simp [World.shape?, hmm.has.both hm]) hoff
  unfold execOp
  simp only [hop, hk.eval hx, Sem.run_bind, h, Result.andThen_ok, Sem.run_pure]
theorem V_fromUnsafe {x : Operand} {t u e T : TypeId} {b off : Nat} {j : TypeInfo} {cs : Array Value} {fr : Nat × Nat} (hop : o.op = .convert u t x) (hx : fev env x = some (.pointer (some ⟨b, off, none⟩))) (ht : c.P.underlying t = some (.pointer e)) (hu : c.P.underlying u = some .unsafePointer) (hi : c.P.info? e = some j)
    (hm : (some b, Obj.cells cs T fr) ∈ c.A ++ L) (hl : liesAt c.P c.P.depth T (cs.size / c.P.cellsOf T) off e 1 = true) : Val c n env L o (.pointer (some ⟨b, off, none⟩)) := fun a w hk hmm => by
  have h := Lib.run_from_unsafe (P := c.P) w ⟨b, off, none⟩ hu ht hi (e := T) (cells := cs.size) (by simp [World.shape?, hmm.has.both hm]) hl
  unfold execOp
  simp only [hop, hk.eval hx, Sem.run_bind, h, Result.andThen_ok, Sem.run_pure]
/-- A call of a function of the model's own that only tells a value. -/
theorem V_extern {f : FuncId} {fn : Func} {ev : Array Value → Sem Value} {xs : Array Operand} {ts : Array TypeId} {args : List Value} {v : Value} (hop : o.op = .call ⟨.value (.func f), xs, ts⟩) (hxs : fevs env xs.toList = some args) (hf : c.P.funcs[f]? = some fn) (hname : (fn.name == "runtime.NumGoroutine") = false)
    (hb : fn.body.isNone = true) (hn : Extern.findNext fn = none) (he : Extern.find fn = some ev) (hv : ∀ w, (ev args.toArray).run c.P w = .ok v w) : Val c n env L o v := fun a w hk _ => by
  have hx : xs.map a.eval = args.toArray := by
    apply Array.toList_inj.1
    simpa using hk.evals hxs
  have hr := run_callFunc_extern hf hname hb hn he args.toArray w
  rw [hv w] at hr
  unfold execOp
  simp [hop, resolve, Act.eval, Deferred.ofValue, hx, invoke, hr]

variable {ops : Array Oper} {Lq : List (Option Nat × Obj)} {fuel : Nat} {listed : Array Bool}
theorem GHop_putV {i b d : Nat} {old ob : Obj} {v : Value} {l1 l2 L' M : List (Option Nat × Obj)} (ho : ops[i]? = some o) (hd : o.dst = some d) (hn : Nat.blt d n = true) (hg : fguard ops env o = some true)
    (hL : L = l1 ++ (some b, old) :: l2) (hv : PutV c n env L o b ob v) (hL' : l1 ++ (some b, ob) :: l2 = L') (isq : List Nat) (hq : tk isq L' = some (Lq, M)) (h : GH c n ops Lq fuel (listed.setIfInBounds i true) ((d, v) :: env) L' k) : GHop c n ops Lq fuel listed env L k i := by
  intro a w hk hm hw
  obtain ⟨w', hr, h1, h2, h3, h4, h5, h6⟩ := hv a w hk hm
  refine ghop_of ho (wanted_of hk hg) ?_
  rw [hr, Oper.upon_value, hd]
  subst hL'
  have hm' := hm.put hL h1 h2 h3 h4 h5 h6
  exact ⟨hs_of hm' hq, h _ w' (hk.put hn v) hm' (hs_of hm' hq)⟩
theorem GHop_callC {i d : Nat} {g : FuncId} {x : Operand} {xs : Array Operand} {ts : Array TypeId} {args vs : List Value} {A' L' L2 : List (Option Nat × Obj)} {R' : Value → List (Option Nat × Obj) → Prop}
    (ho : ops[i]? = some o) (hd : o.dst = some d) (hn : Nat.blt d n = true) (hg : fguard ops env o = some true) (hop : o.op = .call ⟨.value x, xs, ts⟩) (hxs : fevs env xs.toList = some args)
    (hcf : ∀ (az : Array Value) w, (callFunc g az).run c.P w = .ok (.enter g az) w) (hfn : fev env x = some (.func (.func g) #[] vs.toArray)) (hct : Ct c.P g (args ++ vs) A' L' R') (is js : List Nat) (hL : tk is L = some (L', L2)) (hA : pk js (c.A ++ L2) = some A')
    (isq : List Nat) (hq : ∀ v post, R' v post → ∃ M, tk isq (post ++ L2) = some (Lq, M)) (K : ∀ v post, R' v post → GH c n ops Lq fuel (listed.setIfInBounds i true) ((d, v) :: env) (post ++ L2) k) : GHop c n ops Lq fuel listed env L k i := by
  intro a w hk hm hw
  refine ghop_of ho (wanted_of hk hg) ?_
  have hx : xs.map a.eval = args.toArray := by
    apply Array.toList_inj.1
    simpa using hk.evals hxs
  have hr : (execOp a.eval o).run c.P w = .ok (.enter g (args ++ vs).toArray) w := by
    unfold execOp
    simp only [hop, resolve, hk.eval hfn, hx]
    simp [Deferred.ofValue, invoke, hcf]
  rw [hr, Oper.upon_enter]
  refine (hct w (hm.has_call hL hA)).mono fun e w' ⟨v, post, he, hR, hp⟩ => ?_
  subst he
  simp only [hd]
  have hm' := hm.call hL hA hp
  obtain ⟨M', hM⟩ := hq v post hR
  exact ⟨hs_of hm' hM, K v post hR _ w' (hk.put hn v) hm' (hs_of hm' hM)⟩
end
end Go.Proofs.YtjnaeoelnmhjfaaDoor

/- Slices that are read: what their cells are, element by element; keys of structs of plain fields. No program in sight. -/
set_option linter.unusedSimpArgs false
set_option linter.unusedVariables false
namespace Go.Proofs.YtjnaeoelnmhjfaaDoor
open Go Go.RowKit

-- literals
/-- Single cells of plain types, one behind the other. -/
def Fits (P : Program) : Nat → List Field → List Value → List Lit → Prop
  | _, [], [], [] => True
  | j, f :: fs, v :: vs, l :: ls => f.offset = j ∧ P.cellsOf f.type = 1 ∧ P.keyLits 1 f.type [v] = some [l] ∧ Fits P (j + 1) fs vs ls
  | _, _, _, _ => False
theorem fits_mapM {P : Program} : ∀ (fs : List Field) (vs : List Value) (ls : List Lit) (pre : List Value), Fits P pre.length fs vs ls →
    fs.mapM (fun f => P.keyLits 1 f.type (((pre ++ vs).drop f.offset).take (P.cellsOf f.type))) = some (ls.map fun l => [l])
  | [], [], [], _, _ => rfl
  | f :: fs, v :: vs, l :: ls, pre, h => by
    obtain ⟨h1, h2, h3, h4⟩ := h
    have ih := fits_mapM fs vs ls (pre ++ [v]) (by simpa using h4)
    rw [List.mapM_cons, h1, h2, List.drop_left]
    simp only [List.take_succ_cons, List.take_zero, h3]
    simp only [List.append_assoc, List.singleton_append] at ih
    rw [ih]
    rfl
  | [], _ :: _, _, _, h => h.elim
  | [], [], _ :: _, _, h => h.elim
  | _ :: _, [], _, _, h => h.elim
  | _ :: _, _ :: _, [], _, h => h.elim
theorem fits_keys {P : Program} {t : TypeId} {fs : Array Field} {cs : List Value} {ls : List Lit} (hu : P.underlying t = some (.struct fs)) (hn : cs.length = P.cellsOf t) (hb : fs.all (·.name != "_") = true) (h : Fits P 0 fs.toList cs ls) : P.keyLits 2 t cs.toArray.toList = some ls := by
  unfold Program.keyLits
  simp only [hu]
  rw [if_pos ⟨hn, hb⟩]
  have := fits_mapM fs.toList cs ls [] h
  simp only [List.nil_append] at this
  rw [this]
  have e : (ls.map fun l => [l]).flatten = ls := by
    have := flatten_ones (fun l : Lit => l) ls
    simpa using this
  simp [e]
theorem key_int {P : Program} {t : TypeId} {q : IntKind} {n : Int} (hu : P.underlying t = some (.int q)) (h0 : q.min ≤ n) (h1 : n ≤ q.max) : P.keyLits 1 t [.int q n] = some [.int q n] := by
  unfold Program.keyLits
  simp only [hu]
  rw [if_pos]
  simp [Lit.wf, h0, h1]
theorem key_str {P : Program} {t : TypeId} {l : List UInt8} (hu : P.underlying t = some .string) (h : l.length ≤ 9223372036854775807) : P.keyLits 1 t [.string (bs l)] = some [.string l] := by
  unfold Program.keyLits
  simp only [hu]
  rw [if_pos (by rw [bs_size]; unfold maxLen; omega)]
  rfl
theorem key_bool {P : Program} {t : TypeId} {b : Bool} (hu : P.underlying t = some .bool) : P.keyLits 1 t [.bool b] = some [.bool b] := by
  unfold Program.keyLits
  simp only [hu]

/-- A slice's value. -/
def sv (ob : Option Nat) (off n cap : Nat) : Value := .slice (ob.map fun b => ⟨b, off, none⟩) n cap
/-- What a slice shows. -/
structure Sees (sz : Nat) (ob : Option Nat) (off cap : Nat) (cs : Array Value) (xs : List Value) (n : Nat) : Prop where
  len : xs.length = n * sz
  le : n ≤ cap
  max : cap ≤ 9223372036854775807
  part : (cs.toList.drop off).take (n * sz) = xs
  isNil : ob = none → cap = 0
theorem Own.sees {sz : Nat} {u : Sl} {xs : List Value} {n : Nat} (h : Own sz u xs n) : Sees sz u.ob 0 u.cap u.cs xs n := ⟨h.len, h.le, h.max, by simpa using h.pre, h.isNil⟩
theorem sees_nil {sz off : Nat} {cs : Array Value} : Sees sz none off 0 cs [] 0 := ⟨by simp, Nat.le_refl _, by omega, by simp, fun _ => rfl⟩
theorem Sees.isSome {sz : Nat} {ob : Option Nat} {off cap : Nat} {cs : Array Value} {xs : List Value} {n : Nat} (h : Sees sz ob off cap cs xs n) (hn : 0 < n) : ∃ b, ob = some b := by
  cases hu : ob with
  | some b => exact ⟨b, rfl⟩
  | none => have := h.isNil hu; have := h.le; omega
theorem Sees.at {sz : Nat} {ob : Option Nat} {off cap : Nat} {cs : Array Value} {xs : List Value} {n : Nat} (h : Sees sz ob off cap cs xs n) {i : Nat} {v : Value} (hv : xs[i]? = some v) : cs[off + i]? = some v := by
  have h1 : i < n * sz := by rw [← h.len]; exact (List.getElem?_eq_some_iff.1 hv).1
  rw [← h.part, List.getElem?_take, if_pos h1, List.getElem?_drop] at hv
  simpa using hv
theorem flat_len {α : Type} (f : α → List Value) {sz : Nat} (hf : ∀ a, (f a).length = sz) : ∀ l : List α, (l.flatMap f).length = l.length * sz
  | [] => by simp
  | a :: l => by simp [hf, flat_len f hf l, Nat.add_mul]; omega
theorem flat_at {α : Type} (f : α → List Value) {sz : Nat} (hf : ∀ a, (f a).length = sz) : ∀ (l : List α) (i : Nat) (a : α), l[i]? = some a → ((l.flatMap f).drop (i * sz)).take sz = f a
  | [], i, a, h => by simp at h
  | x :: l, 0, a, h => by
    simp at h
    subst h
    simp only [List.flatMap_cons, Nat.zero_mul, List.drop_zero]
    rw [← hf x]
    exact List.take_left
  | x :: l, i + 1, a, h => by
    have ih := flat_at f hf l i a (by simpa using h)
    have e : (i + 1) * sz = (f x).length + i * sz := by rw [hf, Nat.add_mul]; omega
    rw [List.flatMap_cons, e, ← List.drop_drop, List.drop_left]
    exact ih
theorem flat_part {α : Type} (f : α → List Value) {sz : Nat} (hf : ∀ a, (f a).length = sz) (l : List α) {i : Nat} {a : α} (ha : l[i]? = some a) (k : Nat) : (l.flatMap f)[i * sz + k]? = if k < sz then (f a)[k]? else (l.flatMap f)[i * sz + k]? := by
  split
  · rename_i hk
    rw [← flat_at f hf l i a ha, List.getElem?_take, if_pos hk, List.getElem?_drop]
  · rfl
/-- An element, whole. -/
theorem Sees.elem {α : Type} {f : α → List Value} {sz : Nat} {ob : Option Nat} {off cap : Nat} {cs : Array Value} {l : List α} (h : Sees sz ob off cap cs (l.flatMap f) l.length) (hf : ∀ a, (f a).length = sz) {i : Nat} {a : α} (ha : l[i]? = some a) :
    cs.extract (off + i * sz) (off + i * sz + sz) = (f a).toArray := by
  apply Array.toList_inj.1
  have hi : i < l.length := (List.getElem?_eq_some_iff.1 ha).1
  have e1 : (i + 1) * sz ≤ l.length * sz := Nat.mul_le_mul_right _ hi
  rw [Nat.add_mul, Nat.one_mul] at e1
  have h1 := flat_at f hf l i a ha
  rw [← h.part, List.drop_take, List.take_take, List.drop_drop, Nat.min_eq_left (by omega)] at h1
  rw [Array.toList_extract, List.extract_eq_take_drop, ← h1]
  congr 1
  omega
theorem Sees.cell {α : Type} {f : α → Value} {ob : Option Nat} {off cap : Nat} {cs : Array Value} {l : List α} (h : Sees 1 ob off cap cs (l.map f) l.length) {i : Nat} {a : α} (ha : l[i]? = some a) : cs[off + i * 1]? = some (f a) := by
  rw [Nat.mul_one]
  exact h.at (by simp [ha])
theorem getI {α : Type} {l : List α} {i : Nat} (h : i < l.length) : ∃ a, l[i]? = some a := ⟨_, List.getElem?_eq_getElem h⟩

/-- Pointers to one cell after the other. -/
def ptrs (b k n : Nat) : List Value := (List.range n).map fun i => .pointer (some ⟨b, k + i, none⟩)
theorem ptrs_at (b k n i : Nat) (h : i < n) : (ptrs b k n)[i]? = some (.pointer (some ⟨b, k + i, none⟩)) := by simp [ptrs, h]
theorem ptrs_nth (b k n i : Nat) (h : i < n) : nth (ptrs b k n).toArray.toList (0 + i * 1) = some (.pointer (some ⟨b, k + i, none⟩)) := by
  rw [nth_eq]
  simp [ptrs, h]

theorem take_succ_of {α : Type} {l : List α} {i : Nat} {a : α} (h : l[i]? = some a) : l.take (i + 1) = l.take i ++ [a] := by
  rw [List.take_add_one, h]
  rfl
/-- Two lists of one length, held against each other one by one. -/
theorem eq_next {α : Type} {l m : List α} {i : Nat} {a b : α} (h : l.take i = m.take i) (ha : l[i]? = some a) (hb : m[i]? = some b) (hab : a = b) : l.take (i + 1) = m.take (i + 1) := by
  rw [take_succ_of ha, take_succ_of hb, h, hab]
theorem eq_end {α : Type} {l m : List α} {i : Nat} (h : l.take i = m.take i) (hi : l.length ≤ i) (hl : l.length = m.length) : l = m := by
  rw [List.take_of_length_le hi, List.take_of_length_le (by omega)] at h
  exact h
theorem ne_at {α : Type} {l m : List α} {i : Nat} {a b : α} (ha : l[i]? = some a) (hb : m[i]? = some b) (hab : ¬ a = b) : ¬ l = m := fun e => by
  subst e
  rw [ha] at hb
  exact hab (by injection hb)
theorem ne_len {α : Type} {l m : List α} (h : ¬ l.length = m.length) : ¬ l = m := fun e => h (by rw [e])
theorem all_next {α : Type} {l : List α} {p : α → Bool} {i : Nat} {a : α} (h : (l.take i).all p = true) (ha : l[i]? = some a) (hp : p a = true) : (l.take (i + 1)).all p = true := by
  rw [take_succ_of ha, List.all_append, h]
  simp [hp]
theorem all_end {α : Type} {l : List α} {p : α → Bool} {i : Nat} (h : (l.take i).all p = true) (hi : l.length ≤ i) : l.all p = true := by
  rwa [List.take_of_length_le hi] at h
theorem all_not {α : Type} {l : List α} {p : α → Bool} {i : Nat} {a : α} (ha : l[i]? = some a) (hp : p a = false) : l.all p = false := by
  rw [← Bool.not_eq_true, List.all_eq_true]
  intro h
  have := h a (List.mem_of_getElem? ha)
  rw [hp] at this
  cases this
theorem any_next {α : Type} {l : List α} {p : α → Bool} {i : Nat} {a : α} (h : (l.take i).any p = false) (ha : l[i]? = some a) (hp : p a = false) : (l.take (i + 1)).any p = false := by
  rw [take_succ_of ha, List.any_append, h]
  simp [hp]
theorem any_end {α : Type} {l : List α} {p : α → Bool} {i : Nat} (h : (l.take i).any p = false) (hi : l.length ≤ i) : l.any p = false := by
  rwa [List.take_of_length_le hi] at h
theorem any_yes {α : Type} {l : List α} {p : α → Bool} {i : Nat} {a : α} (ha : l[i]? = some a) (hp : p a = true) : l.any p = true := by
  rw [List.any_eq_true]
  exact ⟨a, List.mem_of_getElem? ha, hp⟩
end Go.Proofs.YtjnaeoelnmhjfaaDoor

/- More operations: an empty slice that is not nil. No program in sight. -/
set_option linter.unusedSimpArgs false
set_option linter.unusedVariables false
namespace Go.Proofs.YtjnaeoelnmhjfaaDoor
open Go Go.RowKit

section
variable {c : Cx} {n : Nat} {env : List (Nat × Value)} {L : List (Option Nat × Obj)} {k : List Item} {o : Oper}
theorem N_build0 {t e : TypeId} {ti : TypeInfo} (hop : o.op = .buildSlice t 0 #[]) (hu : c.P.underlying t = some (.slice e)) (hi : c.P.info? e = some ti) :
    New c n env L o (fun b => .slice (some ⟨b, 0, none⟩) 0 0) (.cells #[] e (0, 0)) := fun a w hk _ => by
  simp only [execOp, hop]
  simp [Instr.buildSlice, run_underlying hu, sizeOf, typeInfo, hi, newRow, Instr.fill]
  exact congrArg (fun x => w.alloc (Obj.cells x e)) (by simp)
/-- A call of a function value that has its first arguments. -/
theorem G_callB {ops : Array Oper} {i : Nat} {rest : List Nat} {d : Nat} {g : FuncId} {x : Operand} {xs : Array Operand} {ts : Array TypeId} {us args vs : List Value} {A' L' L2 : List (Option Nat × Obj)} {R' : Value → List (Option Nat × Obj) → Prop}
    (ho : ops[i]? = some o) (hd : o.dst = some d) (hn : Nat.blt d n = true) (hg : fguard ops env o = some true) (hop : o.op = .call ⟨.value x, xs, ts⟩) (hxs : fevs env xs.toList = some args)
    (hcf : ∀ (az : Array Value) w, (callFunc g az).run c.P w = .ok (.enter g az) w) (hfn : fev env x = some (.func (.func g) us.toArray vs.toArray)) (hct : Ct c.P g (us ++ args ++ vs) A' L' R') (is js : List Nat) (hL : tk is L = some (L', L2)) (hA : pk js (c.A ++ L2) = some A')
    (K : ∀ v post, R' v post → G c n ((d, v) :: env) (post ++ L2) (.inRegion ops rest :: k)) : G c n env L (.inRegion ops (i :: rest) :: k) := by
  intro a w hk hm
  refine goes_op ho (wanted_of hk hg) ?_
  have hx : xs.map a.eval = args.toArray := by
    apply Array.toList_inj.1
    simpa using hk.evals hxs
  have hr : (execOp a.eval o).run c.P w = .ok (.enter g (us ++ args ++ vs).toArray) w := by
    unfold execOp
    simp only [hop, resolve, hk.eval hfn, hx]
    simp [Deferred.ofValue, invoke, hcf]
  rw [hr, Oper.upon_enter]
  refine (hct w (hm.has_call hL hA)).mono fun e w' ⟨v, post, he, hR, hp⟩ => ?_
  subst he
  simp only [hd]
  exact K v post hR _ w' (hk.put hn v) (hm.call hL hA hp)

theorem V_cap {x : Operand} {t e : TypeId} {ts : Array TypeId} {ty : TypeId} {p : String} {es : Array Edge} {gd : Option (Nat × Bool)} {d : Option Tmp} {b : Option Addr} {i j : Nat} (hop : o = ⟨d, .call ⟨.builtin .cap, #[x], ts⟩, ty, p, es, gd⟩) (ht : ts[0]? = some t) (hu : c.P.underlying t = some (.slice e)) (hx : fev env x = some (.slice b i j)) : Val c n env L o (.int .i64 (j : Int)) := fun a w hk _ => by
  subst hop
  have h1 := hk.eval hx
  simp [execOp, h1, resolve, invoke, builtin, Builtin.cap_, ht, run_underlying hu, goInt]
theorem V_copy0 {x y : Operand} {t e off b dc sc : Nat} {ts : Array TypeId} {ty : TypeId} {p : String} {es : Array Edge} {gd : Option (Nat × Bool)} {d : Option Tmp} {ti : TypeInfo}
    (hop : o = ⟨d, .call ⟨.builtin .copy, #[x, y], ts⟩, ty, p, es, gd⟩) (ht : ts[0]? = some t) (hu : c.P.underlying t = some (.slice e)) (hs : c.P.info? e = some ti) (hx : fev env x = some (.slice (some ⟨b, off, none⟩) 0 dc)) (hy : fev env y = some (.slice none 0 sc)) : Val c n env L o (.int .i64 0) := fun a w hk _ => by
  subst hop
  have h0 := run_firstCells_none (P := c.P) w ti.size 0 0 sc
  simp [execOp, hk.eval hx, hk.eval hy, resolve, invoke, builtin, Builtin.copy_, ht, run_underlying hu, Builtin.lenOf, sizeOf, typeInfo, hs, goInt, h0]
  rfl
theorem V_min3 {x y z : Operand} {q : IntKind} {p r s : Int} {xs : Array TypeId} {ty : TypeId} {ps : String} {es : Array Edge} {gd : Option (Nat × Bool)} {d : Option Tmp} (hop : o = ⟨d, .call ⟨.builtin .min, #[x, y, z], xs⟩, ty, ps, es, gd⟩) (hx : fev env x = some (.int q p)) (hy : fev env y = some (.int q r)) (hz : fev env z = some (.int q s)) : Val c n env L o (.int q (min (min p r) s)) := fun a w hk _ => by
  subst hop
  simp only [execOp, resolve, invoke, builtin, Sem.run_bind, Sem.run_pure, Result.andThen_ok, List.map_toArray, List.map_cons, List.map_nil, hk.eval hx, hk.eval hy, hk.eval hz]
  have e : ∀ a b : Int, (if b < a then b else a) = min a b := fun a b => by split <;> omega
  simp [Builtin.min_, Builtin.min2, e]

-- maps
theorem run_getObj1 {P : Program} {w : World} {r : Nat} {es : Array MapEntry} {ck : Nat} (h : w.heap[r]? = some (.map es ck)) : (getObj r).run P w = .ok (.map es ck) w := by
  unfold getObj
  simp only [Sem.run, h]
theorem run_setObj1 {P : Program} {w : World} {r : Nat} {es : Array MapEntry} {ck : Nat} {ob' : Obj} (h : w.heap[r]? = some (.map es ck)) : (setObj r ob').run P w = .ok () { w with heap := w.heap.setIfInBounds r ob' } := by
  unfold setObj
  simp only [Sem.run, h]
/-- A map is made. -/
theorem N_map {t : TypeId} (hop : o.op = .makeMap t none) : New c n env L o (fun b => .map (some b)) (.map #[] 0) := fun a w hk _ => by
  simp only [execOp, hop]
  simp [Instr.makeMap, newObj]
  rfl
def plainKey : TypeDesc → Bool
  | .interface _ | .array _ _ | .struct _ => false
  | _ => true
theorem run_checkKey {P : Program} {w : World} {b : Bool} {t : TypeId} {d : TypeDesc} {v : Value} (ht : P.underlying t = some d) (hp : plainKey d = true) : (Instr.checkKey b 10000 t v).run P w = .ok () w := by
  unfold Instr.checkKey
  cases d <;> first | (cases hp; done) | simp [run_underlying ht]
theorem P_insert {x y z : Operand} {t kt et : TypeId} {kd : TypeDesc} {b clock : Nat} {es : List MapEntry} {kv v : Value} (hop : o.op = .insert t x y z) (ht : c.P.underlying t = some (.map kt et)) (hkt : c.P.underlying kt = some kd) (hp : plainKey kd = true)
    (hx : fev env x = some (.map (some b))) (hy : fev env y = some kv) (hz : fev env z = some v) (hm : (some b, Obj.map es.toArray clock) ∈ L) (hf : Instr.findNow kd kv es 0 = some none) :
    Put c n env L o b (.map (es ++ [(⟨kv, v, clock⟩ : MapEntry)]).toArray (clock + 1)) := fun a w hk hmm => by
  have h1 := hmm.lies hm
  refine ⟨{ w with heap := w.heap.setIfInBounds b (.map (es ++ [(⟨kv, v, clock⟩ : MapEntry)]).toArray (clock + 1)) }, ?_, rfl, rfl, rfl, by simp, ?_, fun k hk => ?_⟩
  · simp only [execOp, hop, hk.eval hx, hk.eval hy, hk.eval hz]
    simp [Instr.mapUpdate, run_underlying ht, run_getObj1 h1, run_setObj1 h1, run_checkKey hkt hp, Instr.findKey, run_underlying hkt, hf]
  · have := lt_of_lies h1
    simp [this]
  · simp only [Array.getElem?_setIfInBounds]
    rw [if_neg (fun e => hk e.symm)]
theorem V_lookup {x y : Operand} {t kt et : TypeId} {kd : TypeDesc} {b clock : Nat} {es : List MapEntry} {kv v : Value} {j : Nat} (hop : o.op = .lookup t x y false) (ht : c.P.underlying t = some (.map kt et)) (hkt : c.P.underlying kt = some kd) (hp : plainKey kd = true)
    (hx : fev env x = some (.map (some b))) (hy : fev env y = some kv) (hm : (some b, Obj.map es.toArray clock) ∈ c.A ++ L) (hf : Instr.findNow kd kv es 0 = some (some (j, v))) : Val c n env L o v := fun a w hk hmm => by
  have h1 := hmm.has.both hm
  simp only [execOp, hop, hk.eval hx, hk.eval hy]
  simp [Instr.lookup, run_underlying ht, run_getObj1 h1, run_checkKey hkt hp, Instr.findKey, run_underlying hkt, hf]
theorem V_lookupN {x y : Operand} {t kt et : TypeId} {kd : TypeDesc} {b clock : Nat} {es : List MapEntry} {kv zv : Value} {ti : TypeInfo} (hop : o.op = .lookup t x y false) (ht : c.P.underlying t = some (.map kt et)) (hkt : c.P.underlying kt = some kd) (hp : plainKey kd = true)
    (hi : c.P.info? et = some ti) (hzv : ti.zero = some zv)
    (hx : fev env x = some (.map (some b))) (hy : fev env y = some kv) (hm : (some b, Obj.map es.toArray clock) ∈ c.A ++ L) (hf : Instr.findNow kd kv es 0 = some none) : Val c n env L o zv := fun a w hk hmm => by
  have h1 := hmm.has.both hm
  simp only [execOp, hop, hk.eval hx, hk.eval hy]
  simp [Instr.lookup, run_underlying ht, run_getObj1 h1, run_checkKey hkt hp, Instr.findKey, run_underlying hkt, hf, zeroValue, typeInfo, hi, hzv]
/-- A map's entries, as they were laid. -/
def entries (q : IntKind) : List (Int × Value) → Nat → List MapEntry
  | [], _ => []
  | (k, v) :: r, i => ⟨.int q k, v, i⟩ :: entries q r (i + 1)
theorem entries_snoc (q : IntKind) (k : Int) (v : Value) : ∀ (d : List (Int × Value)) (i : Nat), entries q (d ++ [(k, v)]) i = entries q d i ++ [(⟨.int q k, v, i + d.length⟩ : MapEntry)]
  | [], i => rfl
  | p :: d, i => by
    simp only [List.cons_append, entries, entries_snoc q k v d (i + 1), List.length_cons]
    rw [show i + 1 + d.length = i + (d.length + 1) by omega]
theorem find_none {q q' : IntKind} {k : Int} : ∀ (d : List (Int × Value)) (i j : Nat), (∀ p ∈ d, p.1 ≠ k) → Instr.findNow (.int q') (.int q k) (entries q d i) j = some none
  | [], i, j, _ => rfl
  | p :: d, i, j, h => by
    have h1 : ¬ k = p.1 := fun e => h p (by simp) e.symm
    simp only [entries, Instr.findNow, Instr.sameNow, if_true]
    have h2 : (k == p.1) = false := by simpa using h1
    rw [h2]
    exact find_none d (i + 1) (j + 1) (fun x hx => h x (by simp [hx]))
theorem find_some {q q' : IntKind} {k : Int} {v : Value} : ∀ (d : List (Int × Value)) (i j : Nat), (d.map (·.1)).Nodup → (k, v) ∈ d → ∃ m, Instr.findNow (.int q') (.int q k) (entries q d i) j = some (some (m, v))
  | [], _, _, _, h => by cases h
  | p :: d, i, j, hn, h => by
    simp only [List.map_cons, List.nodup_cons] at hn
    simp only [entries, Instr.findNow, Instr.sameNow, if_true]
    rcases List.mem_cons.1 h with rfl | h
    · simp
    · have h1 : ¬ k = p.1 := fun e => hn.1 (by rw [← e]; exact List.mem_map.2 ⟨_, h, rfl⟩)
      have h2 : (k == p.1) = false := by simpa using h1
      rw [h2]
      exact find_some d (i + 1) (j + 1) hn.2 h
theorem find_perm {q q' : IntKind} {k : Int} {v : Value} {d l : List (Int × Value)} (hd : d.Perm l) (hn : (l.map (·.1)).Nodup) (h : (k, v) ∈ l) : ∃ m, Instr.findNow (.int q') (.int q k) (entries q d 0) 0 = some (some (m, v)) :=
  find_some d 0 0 ((hd.map _).nodup_iff.2 hn) (hd.mem_iff.2 h)
theorem find_permN {q q' : IntKind} {k : Int} {d l : List (Int × Value)} (hd : d.Perm l) (h : ∀ p ∈ l, p.1 ≠ k) : Instr.findNow (.int q') (.int q k) (entries q d 0) 0 = some none :=
  find_none d 0 0 (fun p hp => h p (hd.mem_iff.1 hp))

/-- Operations that lay entries into one map. -/
def InsAll (ops : Array Oper) (env : List (Nat × Value)) (t : TypeId) (b : Nat) (q : IntKind) : List (Nat × Int × Value) → Prop
  | [] => True
  | (i, k, v) :: r => (∃ (o : Oper) (x y z : Operand), ops[i]? = some o ∧ o.dst = none ∧ fguard ops env o = some true ∧ o.op = .insert t x y z ∧ fev env x = some (.map (some b)) ∧ fev env y = some (.int q k) ∧ fev env z = some v) ∧ InsAll ops env t b q r
theorem InsAll_nil {ops : Array Oper} {env : List (Nat × Value)} {t : TypeId} {b : Nat} {q : IntKind} : InsAll ops env t b q [] := trivial
theorem InsAll_cons {ops : Array Oper} {env : List (Nat × Value)} {t : TypeId} {b : Nat} {q : IntKind} (i : Nat) {k : Int} {v : Value} {r : List (Nat × Int × Value)} {o : Oper} {x y z : Operand} (ho : ops[i]? = some o) (hd : o.dst = none) (hg : fguard ops env o = some true) (hop : o.op = .insert t x y z)
    (hx : fev env x = some (.map (some b))) (hy : fev env y = some (.int q k)) (hz : fev env z = some v) (h : InsAll ops env t b q r) : InsAll ops env t b q ((i, k, v) :: r) := ⟨⟨o, x, y, z, ho, hd, hg, hop, hx, hy, hz⟩, h⟩
theorem InsAll.mem {ops : Array Oper} {env : List (Nat × Value)} {t : TypeId} {b : Nat} {q : IntKind} : ∀ {l : List (Nat × Int × Value)}, InsAll ops env t b q l → ∀ p ∈ l, ∃ (o : Oper) (x y z : Operand), ops[p.1]? = some o ∧ o.dst = none ∧ fguard ops env o = some true ∧ o.op = .insert t x y z ∧ fev env x = some (.map (some b)) ∧ fev env y = some (.int q p.2.1) ∧ fev env z = some p.2.2
  | [], _, p, hp => by cases hp
  | (i, k, v) :: r, h, p, hp => by
    rcases List.mem_cons.1 hp with rfl | hp
    · exact h.1
    · exact InsAll.mem h.2 p hp
def insCheck (ops : Array Oper) (listed F : Array Bool) (is : List Nat) : Bool :=
  listed.size == F.size && is.all (fun i => (Region.ready .any ops listed).contains i) &&
  (List.range F.size).all (fun j => is.contains j || listed.getD j true == F.getD j true) && is.all (fun i => F.getD i false) &&
  (List.range F.size).all (fun j => listed.getD j true || is.contains j || is.all fun i => ((ops[j]?).map fun o => o.after.any fun e => Region.binds .any e && e.on == i).getD false)
theorem own_empty (sz b : Nat) : Own sz ⟨some b, #[], (0, 0), 0⟩ [] 0 := ⟨by simp, Nat.le_refl _, by simp, by simp, by simp, by simp, fun h => by cases h⟩

variable {ops : Array Oper} {Lq : List (Option Nat × Obj)} {fuel : Nat} {listed : Array Bool}
theorem GH_inserts_aux {t kt et : TypeId} {q : IntKind} {b : Nat} {l1 l2 : List (Option Nat × Obj)} {F listed0 : Array Bool} {fuel : Nat} {ins : List (Nat × Int × Value)}
    (ht : c.P.underlying t = some (.map kt et)) (hkt : c.P.underlying kt = some (.int q)) (hin : InsAll ops env t b q ins) (hnd : (ins.map (·.2.1)).Nodup)
    (hT : ∀ j, listed0.getD j true = false → j ∉ ins.map (·.1) → ∀ i ∈ ins.map (·.1), ∃ o, ops[j]? = some o ∧ ∃ e ∈ o.after, Region.binds .any e = true ∧ e.on = i)
    (hF : ∀ i ∈ ins.map (·.1), F.getD i true = true) (hF0 : ∀ j, j ∉ ins.map (·.1) → listed0.getD j true = F.getD j true)
    (h : ∀ done : List (Int × Value), done.Perm (ins.map (·.2)) → GH c n ops [] fuel F env (l1 ++ (some b, .map (entries q done 0).toArray done.length) :: l2) k) :
    ∀ (m : Nat) (R : List (Nat × Int × Value)) (D : List (Nat × Int × Value)) (listed : Array Bool), R.length = m → (D ++ R).Perm ins → (∀ i ∈ R.map (·.1), i ∈ Region.ready .any ops listed) → listed.size = F.size →
      (∀ j, j ∉ R.map (·.1) → listed.getD j true = F.getD j true) → (ins.map (·.1)).Nodup →
      GH c n ops [] (fuel + m) listed env (l1 ++ (some b, .map (entries q (D.map (·.2)) 0).toArray D.length) :: l2) k
  | 0, R, D, listed, hm, hp, _, hs, hl, _ => by
    have hR : R = [] := List.eq_nil_of_length_eq_zero hm
    subst hR
    rw [List.append_nil] at hp
    have e : listed = F := by
      apply Array.ext hs
      intro j h1 h2
      have := hl j (by simp)
      simpa [h1, h2] using this
    subst e
    have := h (D.map (·.2)) (hp.map _)
    rw [List.length_map] at this
    exact this
  | m + 1, R, D, listed, hm, hp, hr, hs, hl, hni => by
    intro a w hk hmm hw
    have hRne : R ≠ [] := fun e => by rw [e] at hm; cases hm
    obtain ⟨r0, R0, hR0⟩ := List.exists_cons_of_ne_nil hRne
    refine ⟨fun h0 => ?_, fun i hi => ?_⟩
    · have := hr r0.1 (by rw [hR0]; simp)
      rw [h0] at this
      cases this
    · have hiR : i ∈ R.map (·.1) := by
        refine Classical.byContradiction fun hn => ?_
        obtain ⟨hun, o, ho, hall⟩ := mem_ready.1 hi
        have hun' : F.getD i true = false := by rw [← hl i hn]; exact hun
        have hni' : i ∉ ins.map (·.1) := fun hm => by rw [hF i hm] at hun'; cases hun'
        have hr0 : r0.1 ∈ ins.map (·.1) := (hp.map (·.1)).mem_iff.1 (by rw [hR0]; simp)
        obtain ⟨o', ho', e, he, hb, hon⟩ := hT i (by rw [hF0 i hni']; exact hun') hni' r0.1 hr0
        rw [ho] at ho'
        cases ho'
        have h1 := hall e he hb
        rw [hon] at h1
        obtain ⟨h2, _⟩ := mem_ready.1 (hr r0.1 (by rw [hR0]; simp))
        rcases hx : listed[r0.1]? with _ | x
        · simp [hx] at h2
        · simp [hx] at h1 h2
          rw [h1] at h2
          cases h2
      obtain ⟨p, hpR, rfl⟩ := List.mem_map.1 hiR
      obtain ⟨R1, R2, rfl⟩ := List.append_of_mem hpR
      have hpin : p ∈ ins := hp.mem_iff.1 (by simp)
      obtain ⟨o, x, y, z, ho, hd, hg, hop, hx, hy, hz⟩ := hin.mem p hpin
      have hnR : ((D ++ (R1 ++ p :: R2)).map (·.1)).Nodup := (hp.map _).nodup_iff.2 hni
      have hnK : ((D ++ (R1 ++ p :: R2)).map (·.2.1)).Nodup := (hp.map _).nodup_iff.2 hnd
      have hkD : ∀ s ∈ D.map (·.2), s.1 ≠ p.2.1 := by
        intro s hs e
        obtain ⟨d, hd, rfl⟩ := List.mem_map.1 hs
        rw [List.map_append, List.nodup_append] at hnK
        exact hnK.2.2 d.2.1 (List.mem_map.2 ⟨d, hd, rfl⟩) p.2.1 (List.mem_map.2 ⟨p, by simp, rfl⟩) e
      have hpR12 : p.1 ∉ (R1 ++ R2).map (·.1) := by
        rw [List.map_append, List.nodup_append] at hnR
        have h2 := hnR.2.1
        rw [List.map_append, List.map_cons, List.nodup_append] at h2
        obtain ⟨_, h3, h4⟩ := h2
        intro hm
        rw [List.map_append, List.mem_append] at hm
        rcases hm with hm | hm
        · exact h4 _ hm _ (by simp) rfl
        · exact (List.nodup_cons.1 h3).1 hm
      have hput : Put c n env (l1 ++ (some b, .map (entries q (D.map (·.2)) 0).toArray D.length) :: l2) o b (.map (entries q (D.map (·.2)) 0 ++ [(⟨.int q p.2.1, p.2.2, D.length⟩ : MapEntry)]).toArray (D.length + 1)) :=
        P_insert hop ht hkt rfl hx hy hz (by simp) (find_none _ 0 0 hkD)
      refine GHop_put (l1 := l1) (l2 := l2) (M := l1 ++ (some b, .map (entries q (D.map (·.2)) 0 ++ [(⟨.int q p.2.1, p.2.2, D.length⟩ : MapEntry)]).toArray (D.length + 1)) :: l2) ho hd hg rfl hput rfl [] rfl ?_ a w hk hmm hw
      have ih := GH_inserts_aux ht hkt hin hnd hT hF hF0 h m (R1 ++ R2) (D ++ [p]) (listed.setIfInBounds p.1 true) (by simp at hm ⊢; omega)
        (List.Perm.trans (by simp [List.append_assoc]; exact List.Perm.append_left _ List.perm_middle.symm) hp)
        (fun j hj => ready_mono (hr j (by
          rw [List.map_append, List.mem_append] at hj
          rw [List.map_append, List.map_cons, List.mem_append, List.mem_cons]
          rcases hj with hj | hj
          · exact .inl hj
          · exact .inr (.inr hj))) (fun e => hpR12 (e ▸ hj)))
        (by simpa using hs)
        (fun j hj => by
          by_cases e : p.1 = j
          · subst e
            rw [hF p.1 ((hp.map (·.1)).mem_iff.1 (by simp))]
            rcases Nat.lt_or_ge p.1 listed.size with hlt | hge
            · simp [hlt]
            · simp [hge]
          · rw [getD_set_ne true e]
            apply hl
            rw [List.map_append, List.map_cons, List.mem_append, List.mem_cons]
            rw [List.map_append, List.mem_append] at hj
            rintro (h1 | h1 | h1)
            · exact hj (.inl h1)
            · exact e h1.symm
            · exact hj (.inr h1)) hni
      rw [List.map_append, List.length_append] at ih
      have e : entries q (D.map (·.2) ++ [p].map (·.2)) 0 = entries q (D.map (·.2)) 0 ++ [(⟨.int q p.2.1, p.2.2, D.length⟩ : MapEntry)] := by
        have := entries_snoc q p.2.1 p.2.2 (D.map (·.2)) 0
        rw [List.length_map, Nat.zero_add] at this
        exact this
      rw [e] at ih
      exact ih
theorem GH_inserts {t kt et : TypeId} {q : IntKind} {b : Nat} {l1 l2 : List (Option Nat × Obj)} {F : Array Bool} {fuel m : Nat} {ins : List (Nat × Int × Value)}
    (ht : c.P.underlying t = some (.map kt et)) (hkt : c.P.underlying kt = some (.int q)) (hin : InsAll ops env t b q ins) (hm : ins.length = m) (hnd : (ins.map (·.2.1)).Nodup) (hni : (ins.map (·.1)).Nodup) (hc : insCheck ops listed F (ins.map (·.1)) = true)
    (h : ∀ done : List (Int × Value), done.Perm (ins.map (·.2)) → GH c n ops [] fuel F env (l1 ++ (some b, .map (entries q done 0).toArray done.length) :: l2) k) :
    GH c n ops [] (fuel + m) listed env (l1 ++ (some b, .map #[] 0) :: l2) k := by
  unfold insCheck at hc
  simp only [Bool.and_eq_true, List.all_eq_true, List.mem_range, beq_iff_eq, Bool.or_eq_true, List.contains_iff_mem] at hc
  obtain ⟨⟨⟨⟨c1, c2⟩, c3⟩, c4⟩, c5⟩ := hc
  have hout : ∀ (A : Array Bool) j, ¬ j < A.size → A.getD j true = true := fun A j hj => by simp [Nat.le_of_not_lt hj]
  refine GH_inserts_aux (listed0 := listed) ht hkt hin hnd ?_ ?_ ?_ h m ins [] listed hm (by simp) (fun i hi => c2 i hi) c1 ?_ hni
  · intro j hj hn i hi
    have hlt : j < F.size := Classical.byContradiction fun hge => by rw [hout listed j (by omega)] at hj; cases hj
    rcases c5 j hlt with (h1 | h1) | h1
    · rw [hj] at h1; cases h1
    · exact absurd h1 hn
    · have := h1 i hi
      rcases ho : ops[j]? with _ | o
      · rw [ho] at this; cases this
      · rw [ho] at this
        simp only [Option.map_some, Option.getD_some, Array.any_eq_true'] at this
        obtain ⟨e, he, h2⟩ := this
        simp only [Bool.and_eq_true, beq_iff_eq] at h2
        exact ⟨o, rfl, e, he, h2.1, h2.2⟩
  · intro i hi
    have := c4 i hi
    rcases hx : F[i]? with _ | x
    · simp [hx]
    · simpa [hx] using this
  · intro j hj
    by_cases hlt : j < F.size
    · rcases c3 j hlt with h1 | h1
      · exact absurd h1 hj
      · exact h1
    · rw [hout F j hlt, hout listed j (by omega)]
  · intro j hj
    by_cases hlt : j < F.size
    · rcases c3 j hlt with h1 | h1
      · exact absurd h1 hj
      · exact h1
    · rw [hout F j hlt, hout listed j (by omega)]
theorem GHop_mnz {i d m : Nat} {f : FuncId} {fn : Func} {xs : Array Operand} {ts ps : Array TypeId} {t e : TypeId} (ho : ops[i]? = some o) (hd : o.dst = some d) (hn : Nat.blt d n = true) (hg : fguard ops env o = some true) (hop : o.op = .call ⟨.value (.func f), xs, ts⟩) (hxs : fevs env xs.toList = some [.int .i64 (m : Int)])
    (hf : c.P.funcs[f]? = some fn) (hname : (fn.name == "runtime.NumGoroutine") = false) (hb : fn.body.isNone = true) (hne : Extern.findNext fn = none) (he : Extern.find fn = some (Extern.BytealgMakeNoZero.makeNoZero ps #[t])) (ht : c.P.underlying t = some (.slice e)) (hm : m ≤ 281474976710656)
    (isq : List Nat) (hq : ∀ b (cs : Array Value), ∃ M, tk isq ((some b, Obj.cells cs e (0, 0)) :: L) = some (Lq, M))
    (h : ∀ b (cs : Array Value), m ≤ cs.size → cs.size ≤ 9223372036854775807 → GH c n ops Lq fuel (listed.setIfInBounds i true) ((d, .slice (some ⟨b, 0, none⟩) m cs.size) :: env) ((some b, .cells cs e (0, 0)) :: L) k) : GHop c n ops Lq fuel listed env L k i := by
  intro a w hk hmm hw
  refine ghop_of ho (wanted_of hk hg) ?_
  obtain ⟨cs, hr, h1, h2⟩ := Lib.run_makeNoZero (P := c.P) w ps t e ht m hm
  have hx : xs.map a.eval = #[.int .i64 (m : Int)] := by
    apply Array.toList_inj.1
    simpa using hk.evals hxs
  have hrun : (execOp a.eval o).run c.P w = .ok (.value (.slice (some ⟨w.heap.size, 0, none⟩) m cs.size)) (w.drew.drew.alloc (.cells cs e)) := by
    have hr' := run_callFunc_extern hf hname hb hne he #[.int .i64 (m : Int)] w
    rw [hr] at hr'
    unfold execOp
    simp [hop, resolve, Act.eval, Deferred.ofValue, hx, invoke, hr']
  rw [hrun, Oper.upon_value, hd]
  have hm' := ((hmm.drew (w.drawn + 1)).drew (w.drawn + 1 + 1)).alloc (.cells cs e)
  obtain ⟨M, hM⟩ := hq w.heap.size cs
  have hs := hs_of hm' hM
  exact ⟨hs, h w.heap.size cs h1 (by have := h2 (by unfold maxLen; omega); unfold maxLen at this; omega) _ _ (hk.put hn _) hm' hs⟩
theorem GHop_append {i : Nat} {d m nn sz bt : Nat} {x y : Operand} {t u e ty : TypeId} {ds : TypeDesc} {ps : String} {es : Array Edge} {gd : Option (Nat × Bool)} {ti : TypeInfo} {z xv : Value} {s : Sl} {xs news : List Value} {l1 l2 : List (Option Nat × Obj)}
    (ho : ops[i]? = some o) (hop : o = ⟨some d, .call ⟨.builtin .append, #[x, y], #[t, u]⟩, ty, ps, es, gd⟩) (hn : Nat.blt d n = true) (hg : fguard ops env o = some true)
    (ht : c.P.underlying t = some (.slice e)) (hu : c.P.underlying u = some ds) (hds : ds = .string ∨ ∃ e', ds = .slice e') (hi : c.P.info? e = some ti) (hz : ti.zero = some z) (hsz : ti.size = sz) (hzs : z.cells.size = sz) (hbt : ti.bytes = bt)
    (hx : fev env x = some (s.v nn)) (hy : fev env y = some xv) (hown : Own sz s xs nn) (hL : L = l1 ++ (s.ob, .cells s.cs e s.fz) :: l2) (hS : ∀ w, Has w c.A L → Src c.P w sz xv m news)
    (h63 : nn + m ≤ 9223372036854775807) (hbytes : (nn + m) * bt ≤ 140737488355328)
    (isq : List Nat) (hq : ∀ s' : Sl, ∃ M, tk isq (l1 ++ (s'.ob, .cells s'.cs e s'.fz) :: l2) = some (Lq, M))
    (h : ∀ s' : Sl, Own sz s' (xs ++ news) (nn + m) → More s s' → GH c n ops Lq fuel (listed.setIfInBounds i true) ((d, s'.v (nn + m)) :: env) (l1 ++ (s'.ob, .cells s'.cs e s'.fz) :: l2) k) : GHop c n ops Lq fuel listed env L k i := by
  intro a w hk hm hw
  subst hop
  refine ghop_of ho (wanted_of hk hg) ?_
  obtain ⟨s', w', hr, h1, h2, h3, h4, h5⟩ := run_append_any (P := c.P) w t u ty e ds ti z sz ht hu hds hi hz hsz hzs s xs nn hown (fun b hb => hm.lies (by rw [hL, ← hb]; simp)) xv m news (hS w hm.has) h63 (by rw [hbt]; exact hbytes)
  have hrun : (execOp a.eval ⟨some d, .call ⟨.builtin .append, #[x, y], #[t, u]⟩, ty, ps, es, gd⟩).run c.P w = .ok (.value (s'.v (nn + m))) w' := by
    unfold execOp
    simp only [resolve, invoke, builtin, Sem.run_bind, Sem.run_pure, Result.andThen_ok, List.map_toArray, List.map_cons, List.map_nil, hk.eval hx, hk.eval hy, hr]
  rw [hrun, Oper.upon_value]
  subst hL
  have hm' := hm.grown h2 h3 h4
  obtain ⟨M', hM⟩ := hq s'
  exact ⟨hs_of hm' hM, h s' h1 h5 _ w' (hk.put hn _) hm' (hs_of hm' hM)⟩
end

-- lists of texts
def strC (l : List UInt8) : Value := .string (bs l)
theorem sees_strs (b n : Nat) (ls : List (List UInt8)) (hn : ls.length = n) (h : n < 1000) : Sees 1 (some b) 0 n (ls.map strC).toArray (ls.map strC) ls.length :=
  ⟨by simp, by omega, by omega, by rw [List.drop_zero, List.take_of_length_le (by simp)], fun h => by cases h⟩
theorem cell_at {α : Type} {f : α → List Value} {sz : Nat} {ob : Option Nat} {off cap : Nat} {cs : Array Value} {l : List α} (h : Sees sz ob off cap cs (l.flatMap f) l.length) (hf : ∀ a, (f a).length = sz) {i : Nat} {a : α} (ha : l[i]? = some a) (k : Nat) (hk : k < sz) {v : Value} (hv : (f a)[k]? = some v) :
    cs[off + i * sz + k]? = some v := by
  have h1 := flat_part f hf l ha k
  rw [if_pos hk, hv] at h1
  have h2 := h.at h1
  rwa [← Nat.add_assoc] at h2
end Go.Proofs.YtjnaeoelnmhjfaaDoor

/- Calls of contracts that read blocks of which not all are listed one by one. No program in sight. -/
set_option linter.unusedSimpArgs false
set_option linter.unusedVariables false
namespace Go.Proofs.YtjnaeoelnmhjfaaDoor
open Go Go.RowKit

theorem subA_nil {M : List (Option Nat × Obj)} : ∀ x ∈ ([] : List (Option Nat × Obj)), x ∈ M := fun _ h => by cases h
theorem subA_cons {M A : List (Option Nat × Obj)} {x : Option Nat × Obj} (hx : x ∈ M) (h : ∀ y ∈ A, y ∈ M) : ∀ y ∈ x :: A, y ∈ M := fun y hy => by
  rcases List.mem_cons.1 hy with e | hy
  · subst e; exact hx
  · exact h y hy
section
variable {c : Cx} {n : Nat} {env : List (Nat × Value)} {L : List (Option Nat × Obj)} {k : List Item}
theorem G_callM {ops : Array Oper} {i : Nat} {rest : List Nat} {o : Oper} {d : Nat} {g : FuncId} {xs : Array Operand} {ts : Array TypeId} {args : List Value} {A' L' L2 : List (Option Nat × Obj)} {R' : Value → List (Option Nat × Obj) → Prop}
    (ho : ops[i]? = some o) (hd : o.dst = some d) (hn : Nat.blt d n = true) (hg : fguard ops env o = some true) (hop : o.op = .call ⟨.value (.func g), xs, ts⟩) (hxs : fevs env xs.toList = some args)
    (hcf : ∀ (az : Array Value) w, (callFunc g az).run c.P w = .ok (.enter g az) w) (hct : Ct c.P g args A' L' R') (is : List Nat) (hL : tk is L = some (L', L2)) (hA : ∀ x ∈ A', x ∈ c.A ++ L2)
    (K : ∀ v post, R' v post → G c n ((d, v) :: env) (post ++ L2) (.inRegion ops rest :: k)) : G c n env L (.inRegion ops (i :: rest) :: k) := by
  intro a w hk hm
  refine goes_op ho (wanted_of hk hg) ?_
  have hx : xs.map a.eval = args.toArray := by
    apply Array.toList_inj.1
    simpa using hk.evals hxs
  have hr : (execOp a.eval o).run c.P w = .ok (.enter g args.toArray) w := by
    unfold execOp
    simp [hop, resolve, Act.eval, Deferred.ofValue, hx, invoke, hcf]
  rw [hr, Oper.upon_enter]
  refine (hct w (hm.has_callP (tk_perm hL) hA)).mono fun e w' ⟨v, post, he, hR, hp⟩ => ?_
  subst he
  simp only [hd]
  exact K v post hR _ w' (hk.put hn v) (hm.callP (tk_perm hL) hp)
theorem G_callMN {ops : Array Oper} {i : Nat} {rest : List Nat} {o : Oper} {g : FuncId} {xs : Array Operand} {ts : Array TypeId} {args : List Value} {A' L' L2 : List (Option Nat × Obj)} {R' : Value → List (Option Nat × Obj) → Prop}
    (ho : ops[i]? = some o) (hd : o.dst = none) (hg : fguard ops env o = some true) (hop : o.op = .call ⟨.value (.func g), xs, ts⟩) (hxs : fevs env xs.toList = some args)
    (hcf : ∀ (az : Array Value) w, (callFunc g az).run c.P w = .ok (.enter g az) w) (hct : Ct c.P g args A' L' R') (is : List Nat) (hL : tk is L = some (L', L2)) (hA : ∀ x ∈ A', x ∈ c.A ++ L2)
    (K : ∀ v post, R' v post → G c n env (post ++ L2) (.inRegion ops rest :: k)) : G c n env L (.inRegion ops (i :: rest) :: k) := by
  intro a w hk hm
  refine goes_op ho (wanted_of hk hg) ?_
  have hx : xs.map a.eval = args.toArray := by
    apply Array.toList_inj.1
    simpa using hk.evals hxs
  have hr : (execOp a.eval o).run c.P w = .ok (.enter g args.toArray) w := by
    unfold execOp
    simp [hop, resolve, Act.eval, Deferred.ofValue, hx, invoke, hcf]
  rw [hr, Oper.upon_enter]
  refine (hct w (hm.has_callP (tk_perm hL) hA)).mono fun e w' ⟨v, post, he, hR, hp⟩ => ?_
  subst he
  simp only [hd]
  exact K v post hR _ w' (hk.putNone v) (hm.callP (tk_perm hL) hp)
end
/-- A slice that the call has is appended to another one. -/
theorem src_own {c : Cx} {L : List (Option Nat × Obj)} {u : Sl} {m : Nat} {T : TypeId} {news : List Value} (hu : Own 1 u news m) (hm : (u.ob, Obj.cells u.cs T u.fz) ∈ c.A ++ L) (h1 : ∀ x ∈ news, x.oneCell' = true) (w : World) (hw : Has w c.A L) :
    Src c.P w 1 (u.v m) m news := by
  obtain ⟨ob, cs, fz, cap⟩ := u
  have hs := hu.sees
  cases ob with
  | none =>
    have h0 := hs.isNil rfl
    have h2 := hs.le
    simp only at h0 h2
    have hm0 : m = 0 := by omega
    have hl := hs.len
    rw [hm0, Nat.zero_mul] at hl
    rw [List.length_eq_zero_iff.1 hl, hm0]
    show Src c.P w 1 (.slice none 0 cap) 0 []
    rw [h0]
    exact src_nil
  | some b => exact src_mem hm hs.len (by rw [hs.len]; exact hs.part) h1 w hw
theorem strs_all (ls : List (List UInt8)) : ∀ u ∈ ls.map strC, u.oneCell' = true := by
  intro u hu
  obtain ⟨l, _, rfl⟩ := List.mem_map.1 hu
  simp [strC, Value.oneCell']
theorem sees_nil0 (sz : Nat) : Sees sz none 0 0 #[] [] 0 := ⟨by simp, Nat.le_refl _, by omega, by simp, fun _ => rfl⟩
end Go.Proofs.YtjnaeoelnmhjfaaDoor

/- Blocks of unknown number that a call owns. No program in sight. -/
set_option linter.unusedSimpArgs false
set_option linter.unusedVariables false
namespace Go.Proofs.YtjnaeoelnmhjfaaDoor
open Go Go.RowKit

section
variable {c : Cx} {n : Nat} {env : List (Nat × Value)} {L : List (Option Nat × Obj)} {k : List Item}
theorem G_perm {todo : List Item} {L' : List (Option Nat × Obj)} (hp : L.Perm L') (h : G c n env L' todo) : G c n env L todo :=
  fun a w hk hm => h a w hk (hm.sub (L' := L') (R := []) (by simpa using hp))
/-- What is kept: some blocks by their places, and of the others those of a list. -/
theorem G_subT {todo : List Item} {e : List (Nat × Value)} {L1 T : List (Option Nat × Obj)} (he : FSub e env) (is : List Nat) (hl : ∃ M R, tk is L = some (L1, M) ∧ M.Perm (T ++ R)) (h : G c n e (L1 ++ T) todo) : G c n env L todo :=
  let ⟨_, _, hl, hp⟩ := hl
  fun a w hk hm => h a w (hk.sub he) (hm.sub (R := _) ((tk_perm hl).trans (by
    rw [List.append_assoc]
    exact hp.append_left _)))
theorem G_loop1 {body : Code} (h : G c n env L (.code body :: .inLoop body :: k)) : G c n env L (.code (.loop body) :: k) := fun a w hk hm => goes_of (fun _ _ => step_loop) (h a w hk hm)
theorem G_again {body : Code} (h : G c n env L (.code body :: .inLoop body :: k)) : G c n env L (.inLoop body :: k) := fun a w hk hm => goes_of (fun _ _ => step_inLoop) (h a w hk hm)
theorem G_retT {fn : Func} {rs : List ResultVar} {vs : List Value} {p1 T : List (Option Nat × Obj)} (hf : c.P.funcs[c.f]? = some fn) (hr : fn.results = rs.toArray)
    (hv : RVs c n env L rs vs) (is : List Nat) (hl : ∃ M R, tk is L = some (p1, M) ∧ M.Perm (T ++ R)) (hR : c.R (packed vs) (p1 ++ T)) (hds : c.ds = [] := by rfl) : G c n env L (.code .ret :: k) := by
  obtain ⟨M, R, hl, hp⟩ := hl
  intro a w hk hm b hb hkind cs
  have h3 := goes_ret (post := p1 ++ T) hr hv hk hm
  have hm' : Mem c.w0 c.A c.S (p1 ++ T) w := hm.sub (R := R) ((tk_perm hl).trans (by rw [List.append_assoc]; exact hp.append_left _))
  exact ⟨packed vs, p1 ++ T, w, _, hR, hm'.dropA, .one step_ret, hb, rfl, hk.defers.trans hds, hkind, fn, by rw [← hf, ← hb]; rfl, h3⟩
theorem G_callMC {ops : Array Oper} {i : Nat} {rest : List Nat} {o : Oper} {d : Nat} {g : FuncId} {x : Operand} {xs : Array Operand} {ts : Array TypeId} {args vs : List Value} {A' L' L2 : List (Option Nat × Obj)} {R' : Value → List (Option Nat × Obj) → Prop}
    (ho : ops[i]? = some o) (hd : o.dst = some d) (hn : Nat.blt d n = true) (hg : fguard ops env o = some true) (hop : o.op = .call ⟨.value x, xs, ts⟩) (hxs : fevs env xs.toList = some args)
    (hcf : ∀ (az : Array Value) w, (callFunc g az).run c.P w = .ok (.enter g az) w) (hfn : fev env x = some (.func (.func g) #[] vs.toArray)) (hct : Ct c.P g (args ++ vs) A' L' R') (is : List Nat) (hL : tk is L = some (L', L2)) (hA : ∀ x ∈ A', x ∈ c.A ++ L2)
    (K : ∀ v post, R' v post → G c n ((d, v) :: env) (post ++ L2) (.inRegion ops rest :: k)) : G c n env L (.inRegion ops (i :: rest) :: k) := by
  intro a w hk hm
  refine goes_op ho (wanted_of hk hg) ?_
  have hx : xs.map a.eval = args.toArray := by
    apply Array.toList_inj.1
    simpa using hk.evals hxs
  have hr : (execOp a.eval o).run c.P w = .ok (.enter g (args ++ vs).toArray) w := by
    unfold execOp
    simp only [hop, resolve, hk.eval hfn, hx]
    simp [Deferred.ofValue, invoke, hcf]
  rw [hr, Oper.upon_enter]
  refine (hct w (hm.has_callP (tk_perm hL) hA)).mono fun e w' ⟨v, post, he, hR, hp⟩ => ?_
  subst he
  simp only [hd]
  exact K v post hR _ w' (hk.put hn v) (hm.callP (tk_perm hL) hp)
theorem GHop_callM {ops : Array Oper} {Lq : List (Option Nat × Obj)} {fuel : Nat} {listed : Array Bool} {o : Oper} {i d : Nat} {g : FuncId} {xs : Array Operand} {ts : Array TypeId} {args : List Value} {A' L' L2 : List (Option Nat × Obj)} {R' : Value → List (Option Nat × Obj) → Prop}
    (ho : ops[i]? = some o) (hd : o.dst = some d) (hn : Nat.blt d n = true) (hg : fguard ops env o = some true) (hop : o.op = .call ⟨.value (.func g), xs, ts⟩) (hxs : fevs env xs.toList = some args)
    (hcf : ∀ (az : Array Value) w, (callFunc g az).run c.P w = .ok (.enter g az) w) (hct : Ct c.P g args A' L' R') (is : List Nat) (hL : tk is L = some (L', L2)) (hA : ∀ x ∈ A', x ∈ c.A ++ L2)
    (isq : List Nat) (hq : ∀ v post, R' v post → ∃ M, tk isq (post ++ L2) = some (Lq, M)) (K : ∀ v post, R' v post → GH c n ops Lq fuel (listed.setIfInBounds i true) ((d, v) :: env) (post ++ L2) k) : GHop c n ops Lq fuel listed env L k i := by
  intro a w hk hm hw
  refine ghop_of ho (wanted_of hk hg) ?_
  have hx : xs.map a.eval = args.toArray := by
    apply Array.toList_inj.1
    simpa using hk.evals hxs
  have hr : (execOp a.eval o).run c.P w = .ok (.enter g args.toArray) w := by
    unfold execOp
    simp [hop, resolve, Act.eval, Deferred.ofValue, hx, invoke, hcf]
  rw [hr, Oper.upon_enter]
  refine (hct w (hm.has_callP (tk_perm hL) hA)).mono fun e w' ⟨v, post, he, hR, hp⟩ => ?_
  subst he
  simp only [hd]
  have hm' := hm.callP (tk_perm hL) hp
  obtain ⟨M', hM⟩ := hq v post hR
  exact ⟨hs_of hm' hM, K v post hR _ w' (hk.put hn v) hm' (hs_of hm' hM)⟩
theorem GQ_callM {ops : Array Oper} {i : Nat} {o : Oper} {d : Nat} {g : FuncId} {xs : Array Operand} {ts : Array TypeId} {args : List Value} {A' : List (Option Nat × Obj)} {R' : Value → List (Option Nat × Obj) → Prop} {v0 : Value}
    (ho : ops[i]? = some o) (hd : o.dst = some d) (hn : Nat.blt d n = true) (hg : fguard ops env o = some true) (hop : o.op = .call ⟨.value (.func g), xs, ts⟩) (hxs : fevs env xs.toList = some args)
    (hcf : ∀ (az : Array Value) w, (callFunc g az).run c.P w = .ok (.enter g az) w) (hct : Ct c.P g args A' [] R') (hA : ∀ x ∈ A', x ∈ c.A ++ L) (hv : ∀ v post, R' v post → v = v0)
    (h : GQ c n ops ((d, v0) :: env) L (i + 1) k) : GQ c n ops env L i k := by
  intro a hk
  rw [drop_at ho]
  simp only [wpQuiet]
  rw [if_pos (wanted_of hk hg)]
  refine ⟨v0, fun w hm => ?_, ?_⟩
  · have hx : xs.map a.eval = args.toArray := by
      apply Array.toList_inj.1
      simpa using hk.evals hxs
    have hr : (execOp a.eval o).run c.P w = .ok (.enter g args.toArray) w := by
      unfold execOp
      simp [hop, resolve, Act.eval, Deferred.ofValue, hx, invoke, hcf]
    unfold Oper.quietAt
    rw [hr]
    have hL : tk [] L = some ([], L) := rfl
    refine ⟨rfl, (hct w (hm.has_callP (tk_perm hL) hA)).mono fun e w' ⟨v, post, he, hR, hp⟩ => ?_⟩
    have := hv v post hR
    subst this
    exact ⟨he, (hm.callP (tk_perm hL) hp).sub (L' := L) List.perm_append_comm⟩
  · rw [hd]
    exact h _ (hk.put hn v0)
end
theorem ext_indexByte {P : Program} (l : List UInt8) (x : UInt8) (w : World) : (Extern.BytealgIndexByte.indexByte #[.string (bs l), .int .u8 (x.toNat : Int)]).run P w = .ok (.int .i64 (Lib.indexByte l x)) w := by
  rw [Lib.run_indexByteString]
  simp [bs]
theorem perm_in {α : Type} (P F T T' : List α) : ((P ++ T') ++ (F ++ T)).Perm (P ++ F ++ (T' ++ T)) := by
  rw [List.append_assoc, List.append_assoc]
  refine List.Perm.append_left P ?_
  rw [← List.append_assoc, ← List.append_assoc]
  exact List.Perm.append_right T List.perm_append_comm
theorem perm_in0 {α : Type} (P F T' : List α) : ((P ++ T') ++ F).Perm (P ++ F ++ T') := by
  rw [List.append_assoc, List.append_assoc]
  exact List.Perm.append_left P List.perm_append_comm
theorem perm_bk {α β : Type} (f : β → α) (ms : List β) (m : β) (J1 J2 : List α) : (J1 ++ (f m :: (J2 ++ ms.map f))).Perm ((ms ++ [m]).map f ++ (J1 ++ J2)) := by
  rw [List.map_append, List.map_singleton]
  have h1 : (J1 ++ (f m :: (J2 ++ ms.map f))).Perm (f m :: (J1 ++ (J2 ++ ms.map f))) := List.perm_middle
  have h2 : (J1 ++ (J2 ++ ms.map f)).Perm (ms.map f ++ (J1 ++ J2)) := by rw [← List.append_assoc]; exact List.perm_append_comm
  refine h1.trans ((List.Perm.cons _ h2).trans ?_)
  rw [List.append_assoc]
  exact List.perm_middle.symm
end Go.Proofs.YtjnaeoelnmhjfaaDoor

/- What is told in words, in plain lists: words, quotes, numbers in tens. -/
set_option linter.unusedSimpArgs false
set_option linter.unusedVariables false
namespace Go.Proofs.YtjnaeoelnmhjfaaDoor
open Go Go.RowKit

section



def wordsT : List (List UInt8) := [[113, 117, 101, 117, 101, 100], [98, 97, 99, 107, 111, 102, 102], [114, 117, 110, 110, 105, 110, 103], [99, 111, 109, 112, 108, 101, 116, 101, 100], [100, 101, 97, 100], [99, 97, 110, 99, 101, 108, 108, 101, 100], [101, 120, 112, 105, 114, 101, 100]]
def wordT (n : Int) : List UInt8 := if n < 1 ∨ 7 < n then [63] else wordsT.getD (n - 1).toNat []
theorem wordT_no {n : Int} (h : n < 1 ∨ 7 < n) : wordT n = [63] := if_pos h
theorem wordT_yes {n : Int} (h : ¬ (n < 1 ∨ 7 < n)) : wordT n = wordsT.getD (n - 1).toNat [] := if_neg h
theorem wordT_len (n : Int) : (wordT n).length ≤ 9 := by
  unfold wordT
  split
  · decide
  · rename_i h
    have h1 : (n - 1).toNat < 7 := by omega
    generalize (n - 1).toNat = k at h1
    have : ∀ k < 7, (wordsT.getD k []).length ≤ 9 := by decide
    exact this k h1
/-- Which bytes are told as they are. -/
def bareB (c : UInt8) : Bool := (decide (97 ≤ c.toNat) && decide (c.toNat ≤ 122)) || (decide (65 ≤ c.toNat) && decide (c.toNat ≤ 90)) || (decide (48 ≤ c.toNat) && decide (c.toNat ≤ 57)) || [45, 46, 61, 42, 44, 47, 95, 32].contains c
def bareN (n : Nat) : Bool := (decide (97 ≤ n) && decide (n ≤ 122)) || (decide (65 ≤ n) && decide (n ≤ 90)) || (decide (48 ≤ n) && decide (n ≤ 57)) || [45, 46, 61, 42, 44, 47, 95, 32].contains n
def hexT : List UInt8 := [48, 49, 50, 51, 52, 53, 54, 55, 56, 57, 97, 98, 99, 100, 101, 102]
def quote1 (c : UInt8) : List UInt8 := if bareB c then [c] else [92, 120, hexT.getD (c.toNat / 16) 0, hexT.getD (c.toNat % 16) 0]
def quoteT (s : List UInt8) : List UInt8 := 34 :: (s.flatMap quote1 ++ [34])
def quoteI (s : List UInt8) : List UInt8 := s.flatMap quote1
theorem quote1_len (c : UInt8) : (quote1 c).length ≤ 4 := by unfold quote1; split <;> simp
theorem quoteI_len : ∀ s : List UInt8, (quoteI s).length ≤ 4 * s.length
  | [] => by simp [quoteI]
  | c :: s => by
    have a := quote1_len c
    have b := quoteI_len s
    unfold quoteI at b ⊢
    simp only [List.flatMap_cons, List.length_append, List.length_cons]; omega
theorem quoteT_eq (s : List UInt8) : [34] ++ quoteI s ++ [34] = quoteT s := by unfold quoteT quoteI; simp
theorem quoteT_len (s : List UInt8) : (quoteT s).length ≤ 4 * s.length + 2 := by
  rw [← quoteT_eq]; have := quoteI_len s; simp only [List.length_append, List.length_singleton]; omega
theorem quoteI_next {s : List UInt8} {i : Nat} (h : i < s.length) : quoteI (s.take i) ++ quote1 (s.getD i 0) = quoteI (s.take (i + 1)) := by
  unfold quoteI
  rw [List.take_succ_eq_append_getElem h, List.flatMap_append, List.getD_eq_getElem?_getD, List.getElem?_eq_getElem h]
  simp
theorem byte_all (P : UInt8 → Bool) (h : ((List.range 256).all fun k => P (UInt8.ofNat k)) = true) (c : UInt8) : P c = true := by
  have := List.all_eq_true.1 h c.toNat (List.mem_range.2 c.toNat_lt)
  rwa [UInt8.ofNat_toNat] at this
theorem bare_facts (c : UInt8) : (bareB c = true → c ≠ 34 ∧ c ≠ 92) := by
  have := byte_all (fun c => !bareB c || (c != 34 && c != 92)) (by decide +kernel) c
  intro h
  rw [h] at this
  simpa using this
theorem hex_inj (c d : UInt8) (h1 : hexT.getD (c.toNat / 16) 0 = hexT.getD (d.toNat / 16) 0) (h2 : hexT.getD (c.toNat % 16) 0 = hexT.getD (d.toNat % 16) 0) : c = d := by
  have hx : ∀ a < 16, ∀ b < 16, hexT.getD a 0 = hexT.getD b 0 → a = b := by decide +kernel
  have c1 := c.toNat_lt
  have d1 := d.toNat_lt
  have e1 := hx _ (by omega) _ (by omega) h1
  have e2 := hx _ (by omega) _ (by omega) h2
  have : c.toNat = d.toNat := by omega
  exact UInt8.toNat_inj.1 this
/-- A quote is known by its end. -/
theorem quoteI_inj : ∀ (s t r q : List UInt8), quoteI s ++ 34 :: r = quoteI t ++ 34 :: q → s = t ∧ r = q
  | [], [], r, q, h => by simpa [quoteI] using h
  | [], d :: t, r, q, h => by
    exfalso
    unfold quoteI at h
    simp only [List.flatMap_nil, List.nil_append, List.flatMap_cons, List.append_assoc] at h
    unfold quote1 at h
    split at h
    · rename_i hb
      simp only [List.cons_append, List.nil_append, List.cons.injEq] at h
      exact (bare_facts d hb).1 h.1.symm
    · simp at h
  | c :: s, [], r, q, h => by
    exfalso
    unfold quoteI at h
    simp only [List.flatMap_nil, List.nil_append, List.flatMap_cons, List.append_assoc] at h
    unfold quote1 at h
    split at h
    · rename_i hb
      simp only [List.cons_append, List.nil_append, List.cons.injEq] at h
      exact (bare_facts c hb).1 h.1
    · simp at h
  | c :: s, d :: t, r, q, h => by
    unfold quoteI at h
    simp only [List.flatMap_cons, List.append_assoc] at h
    have key : c = d ∧ s.flatMap quote1 ++ 34 :: r = t.flatMap quote1 ++ 34 :: q := by
      unfold quote1 at h
      split at h <;> split at h
      · simp only [List.cons_append, List.nil_append, List.cons.injEq] at h
        exact ⟨h.1, h.2⟩
      · rename_i hb _
        simp only [List.cons_append, List.nil_append, List.cons.injEq] at h
        exact absurd h.1 (bare_facts c hb).2
      · rename_i _ hb
        simp only [List.cons_append, List.nil_append, List.cons.injEq] at h
        exact absurd h.1.symm (bare_facts d hb).2
      · simp only [List.cons_append, List.nil_append, List.cons.injEq, true_and] at h
        exact ⟨hex_inj c d h.1 h.2.1, h.2.2⟩
    obtain ⟨rfl, h2⟩ := key
    obtain ⟨rfl, rfl⟩ := quoteI_inj s t r q h2
    exact ⟨rfl, rfl⟩
theorem quoteT_inj {s t : List UInt8} (h : quoteT s = quoteT t) : s = t := by
  unfold quoteT at h
  simp only [List.cons.injEq, true_and] at h
  exact (quoteI_inj s t [] [] h).1
theorem quoteT_iff (s t : List UInt8) : (quoteT s = quoteT t) ↔ s = t := ⟨quoteT_inj, fun h => by rw [h]⟩

end
end Go.Proofs.YtjnaeoelnmhjfaaDoor

/- The program's own facts that the walks want. -/
set_option linter.unusedSimpArgs false
set_option linter.unusedVariables false
namespace Go.Proofs.YtjnaeoelnmhjfaaDoor
theorem mixedK : Tryd.prog.follows .mixedOrders = true := by kernel_rfl
end Go.Proofs.YtjnaeoelnmhjfaaDoor
