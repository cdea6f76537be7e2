/- What the law JournalFalls needs, part 1. -/
import Derived.WalkKit
import Derived.Lib.Hide
import Derived.Deep.Quiet
import Derived.BigQuiet
import Derived.Lib.QuietBelow
import Derived.IntWalk
import Derived.WalkLawsBesides
import Derived.WalkSpells
import Derived.Laws.StructEq
import Derived.Deep.RegionHeld3
import Derived.Test.YtbblkgdejgoncaaGreatDoorProg
import Derived.Laws.MakeOwn
import Derived.Laws.CopyRow
import Derived.DeepKeys
import Derived.Laws.IdiomStrings
import Derived.Test.YtbblkgdejgoncaaGreatDoorRows

/- A frame and a memory known in part, told by lists: how a call goes from a stack of what is left to do to its return. No program in sight. -/
set_option linter.unusedSimpArgs false
set_option linter.unusedVariables false
namespace Go.Proofs.YtbblkgdejgoncaaGreatDoor
open Go Go.RowKit

/-- What is known of a slot. -/
def fget : List (Nat × Value) → Nat → Option Value
  | [], _ => none
  | (k, v) :: r, t => match Nat.beq k t with
    | true => some v
    | false => fget r t

structure Knows (ds : List Deferred) (n : Nat) (env : List (Nat × Value)) (a : Act) : Prop where
  size : a.tmps.size = n
  defers : a.defers = ds
  get : ∀ t v, fget env t = some v → a.tmps.getD t undef = v

theorem fget_cons (k : Nat) (v : Value) (r : List (Nat × Value)) (t : Nat) : fget ((k, v) :: r) t = if k = t then some v else fget r t := by
  simp only [fget]
  by_cases h : k = t
  · subst h; simp
  · have : Nat.beq k t = false := by rw [← Bool.not_eq_true]; intro e; exact h (Nat.eq_of_beq_eq_true e)
    simp [this, h]

theorem Knows.put {ds : List Deferred} {n : Nat} {env : List (Nat × Value)} {a : Act} (h : Knows ds n env a) {d : Nat} (hd : Nat.blt d n = true) (v : Value) : Knows ds n ((d, v) :: env) (a.put (some d) v) := by
  have hd : d < n := by simpa [Nat.blt_eq] using hd
  refine ⟨by simp [Act.put, h.size], by simp [Act.put, h.defers], fun t u ht => ?_⟩
  have hs := h.size
  rw [fget_cons] at ht
  simp only [Act.put, Array.getD_eq_getD_getElem?, Array.getElem?_setIfInBounds]
  by_cases e : d = t
  · rw [if_pos e] at ht
    subst e
    have : d < a.tmps.size := by omega
    cases ht
    simp [this]
  · rw [if_neg e] at ht
    rw [if_neg e]
    have := h.get t u ht
    rwa [Array.getD_eq_getD_getElem?] at this

theorem Knows.putNone {ds : List Deferred} {n : Nat} {env : List (Nat × Value)} {a : Act} (h : Knows ds n env a) (v : Value) : Knows ds n env (a.put none v) := h

/-- An operand's value. -/
def fev (env : List (Nat × Value)) : Operand → Option Value
  | .tmp t => fget env t
  | .const v => some v
  | .global g => some (.pointer (some ⟨g, 0, none⟩))
  | .func f => some (.func (.func f) #[] #[])

theorem Knows.eval {ds : List Deferred} {n : Nat} {env : List (Nat × Value)} {a : Act} (h : Knows ds n env a) {x : Operand} {v : Value} (hx : fev env x = some v) : a.eval x = v := by
  cases x <;> simp only [fev, Option.some.injEq] at hx
  · exact h.get _ _ hx
  all_goals exact hx

def fevs (env : List (Nat × Value)) : List Operand → Option (List Value)
  | [] => some []
  | x :: xs => match fev env x with
    | none => none
    | some v => match fevs env xs with
      | none => none
      | some vs => some (v :: vs)

theorem Knows.evals {ds : List Deferred} {n : Nat} {env : List (Nat × Value)} {a : Act} (h : Knows ds n env a) : ∀ {xs : List Operand} {vs : List Value}, fevs env xs = some vs → xs.map a.eval = vs
  | [], vs, hx => by simp only [fevs, Option.some.injEq] at hx; subst hx; rfl
  | x :: xs, vs, hx => by
    simp only [fevs] at hx
    split at hx
    · cases hx
    · rename_i v hv
      split at hx
      · cases hx
      · rename_i us hus
        simp only [Option.some.injEq] at hx
        subst hx
        simp [h.eval hv, h.evals hus]

/-- What slots a list tells is told by another. -/
def FSub : List (Nat × Value) → List (Nat × Value) → Prop
  | [], _ => True
  | (t, v) :: r, env => fget env t = some v ∧ FSub r env

theorem FSub.get {env : List (Nat × Value)} : ∀ {e : List (Nat × Value)}, FSub e env → ∀ t v, fget e t = some v → fget env t = some v
  | [], _, t, v, h => by simp [fget] at h
  | (k, u) :: r, hs, t, v, h => by
    rw [fget_cons] at h
    by_cases e : k = t
    · rw [if_pos e] at h
      cases h
      subst e
      exact hs.1
    · rw [if_neg e] at h
      exact FSub.get hs.2 t v h

theorem Knows.sub {ds : List Deferred} {n : Nat} {env e : List (Nat × Value)} {a : Act} (h : Knows ds n env a) (hs : FSub e env) : Knows ds n e a :=
  ⟨h.size, h.defers, fun t v ht => h.get t v (hs.get t v ht)⟩

/-- Blocks apart. -/
def Apart (x y : Option Nat × Obj) : Prop := ∀ b, x.1 = some b → y.1 ≠ some b
theorem Apart.symm {x y : Option Nat × Obj} (h : Apart x y) : Apart y x := fun b hy hx => h b hx hy

def hkeys : List (Option Nat × Obj) → List Nat
  | [] => []
  | (none, _) :: r => hkeys r
  | (some b, _) :: r => b :: hkeys r

theorem mem_hkeys {b : Nat} : ∀ {L : List (Option Nat × Obj)}, b ∈ hkeys L ↔ ∃ o, (some b, o) ∈ L
  | [] => by simp [hkeys]
  | (none, o) :: r => by simp [hkeys, mem_hkeys (L := r)]
  | (some c, o) :: r => by
    simp only [hkeys, List.mem_cons, mem_hkeys (L := r), Prod.mk.injEq, Option.some.injEq]
    constructor
    · rintro (rfl | ⟨o', h⟩)
      · exact ⟨o, .inl ⟨rfl, rfl⟩⟩
      · exact ⟨o', .inr h⟩
    · rintro ⟨o', ⟨rfl, rfl⟩ | h⟩
      · exact .inl rfl
      · exact .inr ⟨o', h⟩

/-- What lies where: A may be read alone (blocks may be told twice there); L's blocks are apart, from each other and from A's. -/
structure Has (w : World) (A L : List (Option Nat × Obj)) : Prop where
  liesA : ∀ b o, (some b, o) ∈ A → w.heap[b]? = some o
  apart : L.Pairwise Apart
  lies : ∀ b o, (some b, o) ∈ L → w.heap[b]? = some o
  cross : ∀ x ∈ A, ∀ y ∈ L, Apart x y

theorem Has.perm {w : World} {A L L' : List (Option Nat × Obj)} (h : Has w A L) (hp : L.Perm L') : Has w A L' :=
  ⟨h.liesA, hp.pairwise h.apart (fun h => h.symm), fun b o hm => h.lies b o (hp.mem_iff.2 hm), fun x hx y hy => h.cross x hx y (hp.mem_iff.2 hy)⟩
theorem Has.left {w : World} {A L M : List (Option Nat × Obj)} (h : Has w A (L ++ M)) : Has w A L :=
  ⟨h.liesA, (List.pairwise_append.1 h.apart).1, fun b o hm => h.lies b o (List.mem_append_left _ hm), fun x hx y hy => h.cross x hx y (List.mem_append_left _ hy)⟩
theorem Has.dropA {w : World} {A L : List (Option Nat × Obj)} (h : Has w A L) : Has w [] L := ⟨fun _ _ h => (by cases h), h.apart, h.lies, fun _ h => (by cases h)⟩
theorem Has.both {w : World} {A L : List (Option Nat × Obj)} (h : Has w A L) {b : Nat} {o : Obj} (hm : (some b, o) ∈ A ++ L) : w.heap[b]? = some o := by
  rcases List.mem_append.1 hm with hm | hm
  · exact h.liesA b o hm
  · exact h.lies b o hm
theorem lt_of_lies {w : World} {b : Nat} {o : Obj} (h : w.heap[b]? = some o) : b < w.heap.size := by
  rcases Nat.lt_or_ge b w.heap.size with h' | h'
  · exact h'
  · rw [Array.getElem?_eq_none h'] at h; cases h
theorem Has.lt {w : World} {A L : List (Option Nat × Obj)} (h : Has w A L) {b : Nat} {o : Obj} (hm : (some b, o) ∈ A ++ L) : b < w.heap.size := lt_of_lies (h.both hm)
theorem has_nil (w : World) : Has w [] [] := ⟨fun _ _ h => (by cases h), .nil, fun _ _ h => (by cases h), fun _ h => (by cases h)⟩

structure Chg (w0 : World) (S : List Nat) (w : World) : Prop where
  os : w.os = w0.os
  tape : w.tape = w0.tape
  output : w.output = w0.output
  size : w0.heap.size ≤ w.heap.size
  block : ∀ k, k < w0.heap.size → k ∉ S → w.heap[k]? = w0.heap[k]?

theorem Chg.refl (w : World) (S : List Nat) : Chg w S w := ⟨rfl, rfl, rfl, Nat.le_refl _, fun _ _ _ => rfl⟩
theorem Chg.trans {w0 w1 w2 : World} {S T : List Nat} (h : Chg w0 S w1) (k : Chg w1 T w2) (hT : ∀ b ∈ T, b ∈ S ∨ w0.heap.size ≤ b) : Chg w0 S w2 :=
  ⟨k.os.trans h.os, k.tape.trans h.tape, k.output.trans h.output, Nat.le_trans h.size k.size, fun i hi hS =>
    (k.block i (Nat.lt_of_lt_of_le hi h.size) (fun ht => by rcases hT i ht with h | h; exact hS h; omega)).trans (h.block i hi hS)⟩

structure Mem (w0 : World) (A : List (Option Nat × Obj)) (S : List Nat) (L : List (Option Nat × Obj)) (w : World) : Prop where
  has : Has w A L
  own : ∀ b o, (some b, o) ∈ L → b ∈ S ∨ w0.heap.size ≤ b
  chg : Chg w0 S w

/-- Some entries, by their places (each counted in what is left), and the others. -/
def tk : List Nat → List (Option Nat × Obj) → Option (List (Option Nat × Obj) × List (Option Nat × Obj))
  | [], L => some ([], L)
  | i :: is, L => match L[i]? with
    | none => none
    | some x => match tk is (L.eraseIdx i) with
      | none => none
      | some (l, r) => some (x :: l, r)

theorem perm_eraseIdx {α : Type} : ∀ (L : List α) (i : Nat) (x : α), L[i]? = some x → L.Perm (x :: L.eraseIdx i)
  | [], i, x, h => by simp at h
  | y :: L, 0, x, h => by simp at h; subst h; exact .refl _
  | y :: L, i + 1, x, h => by
    simp only [List.eraseIdx_cons_succ]
    exact (List.Perm.cons y (perm_eraseIdx L i x (by simpa using h))).trans (.swap x y _)

theorem tk_perm : ∀ {is : List Nat} {L l r : List (Option Nat × Obj)}, tk is L = some (l, r) → L.Perm (l ++ r)
  | [], L, l, r, h => by simp only [tk, Option.some.injEq, Prod.mk.injEq] at h; obtain ⟨rfl, rfl⟩ := h; exact .refl _
  | i :: is, L, l, r, h => by
    simp only [tk] at h
    split at h
    · cases h
    · rename_i x hx
      split at h
      · cases h
      · rename_i l' r' ht
        simp only [Option.some.injEq, Prod.mk.injEq] at h
        obtain ⟨rfl, rfl⟩ := h
        exact (perm_eraseIdx L i x hx).trans (.cons x (tk_perm ht))

/-- Some entries, by their places (a place may come twice). -/
def pk : List Nat → List (Option Nat × Obj) → Option (List (Option Nat × Obj))
  | [], _ => some []
  | i :: is, L => match L[i]? with
    | none => none
    | some x => match pk is L with
      | none => none
      | some l => some (x :: l)
theorem pk_mem : ∀ {is : List Nat} {L l : List (Option Nat × Obj)}, pk is L = some l → ∀ x ∈ l, x ∈ L
  | [], L, l, h, x, hx => by simp only [pk, Option.some.injEq] at h; subst h; cases hx
  | i :: is, L, l, h, x, hx => by
    simp only [pk] at h
    split at h
    · cases h
    · rename_i y hy
      split at h
      · cases h
      · rename_i l' hl
        simp only [Option.some.injEq] at h
        subst h
        rcases List.mem_cons.1 hx with e | hx
        · subst e; exact List.mem_of_getElem? hy
        · exact pk_mem hl x hx

theorem Mem.sub {w0 w : World} {A L L' R : List (Option Nat × Obj)} {S : List Nat} (h : Mem w0 A S L w) (hp : L.Perm (L' ++ R)) : Mem w0 A S L' w :=
  ⟨(h.has.perm hp).left, fun b o hm => h.own b o (hp.mem_iff.2 (List.mem_append_left _ hm)), h.chg⟩
theorem Mem.lies {w0 w : World} {A L : List (Option Nat × Obj)} {S : List Nat} (h : Mem w0 A S L w) {b : Nat} {o : Obj} (hm : (some b, o) ∈ L) : w.heap[b]? = some o := h.has.lies b o hm
theorem Mem.drew {w0 w : World} {A L : List (Option Nat × Obj)} {S : List Nat} (h : Mem w0 A S L w) (k : Nat) : Mem w0 A S L { w with drawn := k } :=
  ⟨⟨h.has.liesA, h.has.apart, h.has.lies, h.has.cross⟩, h.own, ⟨h.chg.os, h.chg.tape, h.chg.output, h.chg.size, h.chg.block⟩⟩

/-- A call under way: its function, the world in which it began, what it may read, what it may write, what it must show at its return. -/
structure Cx where
  P : Program
  f : FuncId
  w0 : World
  A : List (Option Nat × Obj)
  S : List Nat
  R : Value → List (Option Nat × Obj) → Prop
  ds : List Deferred

def GoesTo (c : Cx) (todo : List Item) (a : Act) (w : World) : Prop :=
  ∀ (b : Frame), b.fn = c.f → b.kind = .normal → ∀ cs, ∃ v post w' fr, c.R v post ∧ Mem c.w0 [] c.S post w' ∧ Steps c.P (lone (b.at a todo) cs w) (lone fr cs w') ∧ fr.fn = c.f ∧ fr.leaving c.P w' (.returned v)

theorem goes_of {c : Cx} {todo todo' : List Item} {a a' : Act} {w w' : World} (hs : ∀ (b : Frame) cs, step c.P (lone (b.at a todo) cs w) = .next (lone (b.at a' todo') cs w')) (h : GoesTo c todo' a' w') : GoesTo c todo a w :=
  fun b hb hk cs => let ⟨v, p, w2, fr, hR, hm, hst, e⟩ := h b hb hk cs; ⟨v, p, w2, fr, hR, hm, .head (hs b cs) hst, e⟩

def G (c : Cx) (n : Nat) (env : List (Nat × Value)) (L : List (Option Nat × Obj)) (todo : List Item) : Prop :=
  ∀ a w, Knows c.ds n env a → Mem c.w0 c.A c.S L w → GoesTo c todo a w

section
variable {c : Cx} {n : Nat} {env : List (Nat × Value)} {L : List (Option Nat × Obj)} {k : List Item}
theorem G_skip (h : G c n env L k) : G c n env L (.code .skip :: k) := fun a w hk hm => goes_of (fun _ _ => step_skip) (h a w hk hm)
theorem G_label {l : Nat} (h : G c n env L k) : G c n env L (.code (.label l) :: k) := fun a w hk hm => goes_of (fun _ _ => step_label) (h a w hk hm)
theorem G_inBlock {id : Nat} (h : G c n env L k) : G c n env L (.inBlock id :: k) := fun a w hk hm => goes_of (fun _ _ => step_inBlock) (h a w hk hm)
theorem G_seq {x y : Code} (h : G c n env L (.code x :: .code y :: k)) : G c n env L (.code (.seq x y) :: k) := fun a w hk hm => goes_of (fun _ _ => step_seq) (h a w hk hm)
theorem G_block {id : Nat} {x : Code} (h : G c n env L (.code x :: .inBlock id :: k)) : G c n env L (.code (.block id x) :: k) := fun a w hk hm => goes_of (fun _ _ => step_block) (h a w hk hm)
theorem G_exit {id : Nat} {k' : List Item} (he : exitTo id k = some k') (h : G c n env L k') : G c n env L (.code (.exit id) :: k) := fun a w hk hm => goes_of (fun _ _ => step_exit he) (h a w hk hm)
theorem G_goto {l : Nat} {k' : List Item} (he : gotoIn l k = some k') (h : G c n env L k') : G c n env L (.code (.goto l) :: k) := fun a w hk hm => goes_of (fun _ _ => step_goto he) (h a w hk hm)
theorem G_then {x : Operand} {p q : Code} (hx : fev env x = some (.bool true)) (h : G c n env L (.code p :: k)) : G c n env L (.code (.cond x p q) :: k) :=
  fun a w hk hm => goes_of (fun _ _ => step_cond (hk.eval hx)) (h a w hk hm)
theorem G_else {x : Operand} {p q : Code} (hx : fev env x = some (.bool false)) (h : G c n env L (.code q :: k)) : G c n env L (.code (.cond x p q) :: k) :=
  fun a w hk hm => goes_of (fun _ _ => step_cond (hk.eval hx)) (h a w hk hm)
theorem G_if {x : Operand} {p q : Code} {t : Bool} (hx : fev env x = some (.bool t)) (hT : t = true → G c n env L (.code p :: k)) (hF : t = false → G c n env L (.code q :: k)) : G c n env L (.code (.cond x p q) :: k) := by
  cases t
  · exact G_else hx (hF rfl)
  · exact G_then hx (hT rfl)
/-- A truth is decided. -/
theorem G_split {todo : List Item} (d : Nat) {t : Bool} (hx : fget env d = some (.bool t)) (hT : t = true → G c n ((d, .bool true) :: env) L todo) (hF : t = false → G c n ((d, .bool false) :: env) L todo) : G c n env L todo := by
  have key : G c n ((d, .bool t) :: env) L todo := by
    cases t
    · exact hF rfl
    · exact hT rfl
  refine fun a w hk hm => key a w ⟨hk.size, hk.defers, fun u v hu => hk.get u v ?_⟩ hm
  rw [fget_cons] at hu
  by_cases e : d = u
  · rw [if_pos e] at hu
    subst e
    rw [hx, hu]
  · rwa [if_neg e] at hu
theorem G_sub {todo : List Item} {e : List (Nat × Value)} {L' : List (Option Nat × Obj)} (he : FSub e env) (is : List Nat) (hl : ∃ M, tk is L = some (L', M)) (h : G c n e L' todo) : G c n env L todo :=
  let ⟨_, hl⟩ := hl
  fun a w hk hm => h a w (hk.sub he) (hm.sub (tk_perm hl))
end
end Go.Proofs.YtbblkgdejgoncaaGreatDoor

/- How a call goes: loops, returns, regions, operations, calls of contracts. No program in sight. -/
set_option linter.unusedSimpArgs false
set_option linter.unusedVariables false
namespace Go.Proofs.YtbblkgdejgoncaaGreatDoor
open Go Go.RowKit

section
variable {c : Cx} {n : Nat} {env : List (Nat × Value)} {L : List (Option Nat × Obj)} {k : List Item}

theorem G_loop {X : Type} {body : Code} (J : X → Prop) (μ : X → Nat) (E : X → List (Nat × Value)) (H : X → List (Option Nat × Obj))
    (round : ∀ x, J x → (∀ x', J x' → μ x' < μ x → G c n (E x') (H x') (.inLoop body :: k)) → G c n (E x) (H x) (.code body :: .inLoop body :: k))
    (x0 : X) (h0 : J x0) : G c n (E x0) (H x0) (.code (.loop body) :: k) := by
  have key : ∀ m x, μ x = m → J x → G c n (E x) (H x) (.code body :: .inLoop body :: k) := by
    intro m
    induction m using Nat.strongRecOn with
    | _ m ih =>
      intro x hm hJ
      refine round x hJ fun x' hJ' hlt a w hk hmm => goes_of (fun _ _ => step_inLoop) (ih (μ x') (hm ▸ hlt) x' rfl hJ' a w hk hmm)
  exact fun a w hk hm => goes_of (fun _ _ => step_loop) (key _ x0 rfl h0 a w hk hm)

/-- A result, as it stands at the return. -/
def rvrun (tmps : Array Value) (r : ResultVar) : Sem Value := match r with
  | .tmp t => pure (tmps.getD t undef)
  | .cell x t => do loadVar t (← asAddr (tmps.getD x undef))

def RV (c : Cx) (n : Nat) (env : List (Nat × Value)) (L : List (Option Nat × Obj)) (r : ResultVar) (v : Value) : Prop :=
  ∀ a w, Knows c.ds n env a → Mem c.w0 c.A c.S L w → (rvrun a.tmps r).run c.P w = .ok v w

def RVs (c : Cx) (n : Nat) (env : List (Nat × Value)) (L : List (Option Nat × Obj)) : List ResultVar → List Value → Prop
  | [], [] => True
  | r :: rs, v :: vs => RV c n env L r v ∧ RVs c n env L rs vs
  | _, _ => False

theorem RVs_nil : RVs c n env L [] [] := trivial
theorem RVs_cons {r : ResultVar} {v : Value} {rs : List ResultVar} {vs : List Value} (h : RV c n env L r v) (hs : RVs c n env L rs vs) : RVs c n env L (r :: rs) (v :: vs) := ⟨h, hs⟩

def packed (vs : List Value) : Value := match vs with
  | [v] => v
  | vs => .tuple vs.toArray

theorem RVs.run {a : Act} {w : World} (hk : Knows c.ds n env a) (hm : Mem c.w0 c.A c.S L w) : ∀ {rs : List ResultVar} {vs : List Value}, RVs c n env L rs vs → (rs.mapM (rvrun a.tmps)).run c.P w = .ok vs w
  | [], [], _ => rfl
  | r :: rs, v :: vs, h => by
    have h0 := h.1 a w hk hm
    have ih := RVs.run hk hm h.2
    rw [List.mapM_cons]
    simp [h0, ih]
  | [], _ :: _, h => h.elim
  | _ :: _, [], h => h.elim

theorem goes_ret {fn : Func} {rs : List ResultVar} {vs : List Value} {post : List (Option Nat × Obj)} (hr : fn.results = rs.toArray)
    (hv : RVs c n env L rs vs) {a : Act} {w : World} (hk : Knows c.ds n env a) (hm : Mem c.w0 c.A c.S L w) : (results fn a.tmps).run c.P w = .ok (packed vs) w := by
  have h1 := hv.run hk hm
  have he : results fn a.tmps = (do
      let vs ← fn.results.mapM (rvrun a.tmps)
      pure (if h : vs.size = 1 then vs[0] else .tuple vs)) := by
    unfold results
    have : (rvrun a.tmps) = (fun | .tmp t => pure (a.tmps.getD t undef) | .cell x t => do loadVar t (← asAddr (a.tmps.getD x undef)) : ResultVar → Sem Value) := by
      funext r
      cases r <;> rfl
    rw [this]
    rfl
  rw [he, hr]
  simp only [List.mapM_toArray, Sem.run_bind, Sem.run_map, h1, Result.andThen_ok, Sem.run_pure]
  unfold packed
  match vs with
  | [] => rfl
  | [v] => rfl
  | _ :: _ :: _ => rfl

theorem Mem.dropA {w0 w : World} {A L : List (Option Nat × Obj)} {S : List Nat} (h : Mem w0 A S L w) : Mem w0 [] S L w := ⟨h.has.dropA, h.own, h.chg⟩

theorem G_ret {fn : Func} {rs : List ResultVar} {vs : List Value} {post M : List (Option Nat × Obj)} (hf : c.P.funcs[c.f]? = some fn) (hr : fn.results = rs.toArray)
    (hv : RVs c n env L rs vs) (is : List Nat) (hl : tk is L = some (post, M)) (hR : c.R (packed vs) post) (hds : c.ds = [] := by rfl) : G c n env L (.code .ret :: k) := by
  intro a w hk hm b hb hkind cs
  have h3 := goes_ret (post := post) hr hv hk hm
  exact ⟨packed vs, post, w, _, hR, (hm.sub (tk_perm hl)).dropA, .one step_ret, hb, rfl, hk.defers.trans hds, hkind, fn, by rw [← hf, ← hb]; rfl, h3⟩

theorem G_end {fn : Func} {rs : List ResultVar} {vs : List Value} {post M : List (Option Nat × Obj)} (hf : c.P.funcs[c.f]? = some fn) (hr : fn.results = rs.toArray)
    (hv : RVs c n env L rs vs) (is : List Nat) (hl : tk is L = some (post, M)) (hR : c.R (packed vs) post) (hds : c.ds = [] := by rfl) : G c n env L [] := by
  intro a w hk hm b hb hkind cs
  have h3 := goes_ret (post := post) hr hv hk hm
  exact ⟨packed vs, post, w, _, hR, (hm.sub (tk_perm hl)).dropA, .one step_end, hb, rfl, hk.defers.trans hds, hkind, fn, by rw [← hf, ← hb]; rfl, h3⟩

theorem RV_tmp {t : Nat} {v : Value} (h : fget env t = some v) : RV c n env L (.tmp t) v := fun a w hk _ => by
  have := hk.get t v h
  show (pure (a.tmps.getD t undef) : Sem Value).run c.P w = _
  rw [this]
  rfl

/-- A CONTRACT: called with these arguments where these blocks lie (A: read alone; L: may be written), it returns a value and leaves blocks of which R holds; nothing else that was there has turned. -/
def Ct (P : Program) (f : FuncId) (args : List Value) (A L : List (Option Nat × Obj)) (R : Value → List (Option Nat × Obj) → Prop) : Prop :=
  ∀ w0, Has w0 A L → Calls P f args.toArray w0 fun e w' => ∃ v post, e = .returned v ∧ R v post ∧ Mem w0 [] (hkeys L) post w'

def fargs : Nat → List Value → List (Nat × Value)
  | _, [] => []
  | i, v :: vs => (i, v) :: fargs (i + 1) vs

theorem fget_fargs : ∀ (vs : List Value) (i t : Nat) (v : Value), fget (fargs i vs) t = some v → ∃ j, t = i + j ∧ vs[j]? = some v
  | [], i, t, v, h => by simp [fargs, fget] at h
  | u :: vs, i, t, v, h => by
    simp only [fargs] at h
    rw [fget_cons] at h
    by_cases e : i = t
    · rw [if_pos e] at h
      exact ⟨0, by omega, by simpa using h⟩
    · rw [if_neg e] at h
      obtain ⟨j, h1, h2⟩ := fget_fargs vs (i + 1) t v h
      exact ⟨j + 1, by omega, by simpa using h2⟩

theorem ct_of {P : Program} {f : FuncId} {fn : Func} {body : Code} {args : List Value} {A L : List (Option Nat × Obj)} {R : Value → List (Option Nat × Obj) → Prop}
    (hf : P.funcs[f]? = some fn) (hb : fn.body = some body) (hn : Nat.ble args.length fn.ntmps = true)
    (h : ∀ w0, G ⟨P, f, w0, A, hkeys L, R, []⟩ fn.ntmps (fargs 0 args) L [.code body]) : Ct P f args A L R := by
  intro w0 hw cs
  let b : Frame := { (default : Frame) with fn := f, kind := .normal }
  have hn : args.length ≤ fn.ntmps := by simpa using hn
  have henter : Frame.enter P f args.toArray .normal =
      b.at { tmps := args.toArray ++ Array.replicate (fn.ntmps - args.toArray.size) undef, defers := [] } [.code body] := by
    simp [Frame.enter, Frame.at, hf, hb, b]
  obtain ⟨v, post, w', fr, hR, hm, hst, hfn, hl⟩ := h w0 { tmps := args.toArray ++ Array.replicate (fn.ntmps - args.toArray.size) undef, defers := [] } w0
    ⟨by simp; omega, rfl, fun t v ht => by
      obtain ⟨j, rfl, hj⟩ := fget_fargs _ _ _ _ ht
      have hlt : j < args.length := by
        rcases Nat.lt_or_ge j args.length with h | h
        · exact h
        · rw [List.getElem?_eq_none h] at hj; cases hj
      rw [Nat.zero_add, Array.getD_eq_getD_getElem?, Array.getElem?_append_left (by simpa using hlt)]
      simp [hj]⟩
    ⟨hw, fun b o hm => .inl (mem_hkeys.2 ⟨o, hm⟩), Chg.refl _ _⟩ b rfl rfl cs
  rw [← henter] at hst
  exact ⟨.returned v, w', fr, ⟨v, post, rfl, hR, hm⟩, hst, hfn, hl⟩

/-- Whether an operation is wanted. -/
def fguard (ops : Array Oper) (env : List (Nat × Value)) (o : Oper) : Option Bool := match o.guard with
  | none => some true
  | some (j, want) => match (ops[j]?).bind (·.dst) with
    | none => none
    | some d => match fget env d with
      | some (.bool b) => some (b == want)
      | some (.tuple _) => some false
      | _ => none

theorem wanted_of {ds : List Deferred} {ops : Array Oper} {o : Oper} {a : Act} {g : Bool} (hk : Knows ds n env a) (h : fguard ops env o = some g) : Region.wanted o (yielded ops a.tmps) = g := by
  unfold fguard at h
  unfold Region.wanted
  split at h
  · rename_i hg
    simp only [Option.some.injEq] at h
    subst h
    simp [hg]
  · rename_i j want hg
    split at h
    · cases h
    · rename_i d hd
      split at h
      · rename_i b hb
        simp only [Option.some.injEq] at h
        subst h
        have h1 := hk.get _ _ hb
        have h2 : a.tmps[d]? = some (.bool b) := by
          rw [Array.getD_eq_getD_getElem?] at h1
          cases h3 : a.tmps[d]? with
          | none => rw [h3] at h1; simp [undef] at h1
          | some x => rw [h3] at h1; simpa using h1
        rw [hg]
        simp only [yielded, hd, Option.bind_some, h2]
        cases b <;> cases want <;> rfl
      · rename_i vs hb
        simp only [Option.some.injEq] at h
        subst h
        have h1 := hk.get _ _ hb
        rw [hg]
        rw [Array.getD_eq_getD_getElem?] at h1
        cases h3 : a.tmps[d]? with
        | none => simp only [yielded, hd, Option.bind_some, h3]; cases want <;> rfl
        | some x =>
          rw [h3] at h1
          simp only [Option.getD_some] at h1
          subst h1
          simp only [yielded, hd, Option.bind_some, h3]; cases want <;> rfl
      · cases h

theorem goes_op {ops : Array Oper} {i : Nat} {rest : List Nat} {o : Oper} {a : Act} {w : World} (ho : ops[i]? = some o) (hw : Region.wanted o (yielded ops a.tmps) = true)
    (h : o.upon c.P a (fun a' w' => GoesTo c (.inRegion ops rest :: k) a' w') (fun _ _ _ => False) ((execOp a.eval o).run c.P w)) : GoesTo c (.inRegion ops (i :: rest) :: k) a w := by
  intro b hb hkind cs
  have hg := stepG_op (P := c.P) (b := b) (k := k) (cs := cs) (w := w) (rest := rest) ho hw
  have hfin : ∀ v, (b.at a (.inRegion ops (i :: rest) :: k)).finish v = b.at (a.put o.dst v) (.inRegion ops rest :: k) := by
    intro v; rw [Frame.finish_at, ho]; rfl
  unfold Oper.upon at h
  split at h
  · rename_i v w' hr
    obtain ⟨v', p, w2, fr, hR, hm, hst, e⟩ := h b hb hkind cs
    refine ⟨v', p, w2, fr, hR, hm, .head (step_lone_go ?_) hst, e⟩
    rw [hg, ← hfin]; simp [stepG.apply, hr]
  · rename_i w' hr
    obtain ⟨v', p, w2, fr, hR, hm, hst, e⟩ := h b hb hkind cs
    refine ⟨v', p, w2, fr, hR, hm, .head (step_lone_go ?_) hst, e⟩
    rw [hg, ← hfin]; simp [stepG.apply, hr]
  · rename_i d w' hr
    obtain ⟨v', p, w2, fr, hR, hm, hst, e⟩ := h b hb hkind cs
    refine ⟨v', p, w2, fr, hR, hm, .head (step_lone_go ?_) hst, e⟩
    have : ({ b.at a (.inRegion ops (i :: rest) :: k) with defers := d :: a.defers } : Frame).finish undef =
        b.at ({ a with defers := d :: a.defers }.put o.dst undef) (.inRegion ops rest :: k) := by
      have := Frame.finish_at b { a with defers := d :: a.defers } ops i rest k undef
      rw [ho] at this; exact this
    rw [hg]; simp only [stepG.apply, Sem.runT_eq, hr, GStep.bare_after]
    exact congrArg (fun fr => GStep.go { frame := fr, callers := cs, status := .running, dying := none } w') this
  · rename_i f args w' hr
    obtain ⟨e, w'', fr, hR, hsteps, _, hleave⟩ := h (b.at a (.inRegion ops (i :: rest) :: k) :: cs)
    have henter : step c.P (lone (b.at a (.inRegion ops (i :: rest) :: k)) cs w) =
        .next (lone (Frame.enter c.P f args .normal) (b.at a (.inRegion ops (i :: rest) :: k) :: cs) w') :=
      step_lone_go (by rw [hg]; simp [stepG.apply, hr, Frame.at])
    cases e with
    | returned v =>
      obtain ⟨v', p, w2, fr', hR', hm, hst, e⟩ := hR b hb hkind cs
      refine ⟨v', p, w2, fr', hR', hm, .head henter (hsteps.trans (.head ?_ hst)), e⟩
      rw [← hfin]; exact step_leave_returned hleave
    | panicked chain => exact hR.elim
    | outgrown => obtain ⟨_, _, hR⟩ := hR; exact hR.elim
  · rename_i row args w' hr
    obtain ⟨v, w'', hR, hsteps⟩ := h (b.at a (.inRegion ops (i :: rest) :: k)) cs
    have henter : step c.P (lone (b.at a (.inRegion ops (i :: rest) :: k)) cs w) =
        .next (lone (Frame.ofRow c.P row args .normal) (b.at a (.inRegion ops (i :: rest) :: k) :: cs) w') :=
      step_lone_go (by rw [hg]; simp [stepG.apply, hr, Frame.at])
    obtain ⟨v', p, w2, fr', hR', hm, hst, e⟩ := hR b hb hkind cs
    refine ⟨v', p, w2, fr', hR', hm, .head henter (hsteps.trans ?_), e⟩
    rw [hfin]; exact hst
  · exact h.elim
  · exact h.elim

theorem G_region {id : Nat} {ops : Array Oper} {l : List Nat} (hl : List.range ops.size = l) (h : G c n env L (.inRegion ops l :: k)) : G c n env L (.code (.region id ops false) :: k) :=
  fun a w hk hm => goes_of (fun _ _ => step_region) (by rw [hl]; exact h a w hk hm)
theorem G_done {ops : Array Oper} (h : G c n env L k) : G c n env L (.inRegion ops [] :: k) := fun a w hk hm => goes_of (fun _ _ => step_region_end) (h a w hk hm)

theorem G_off {ops : Array Oper} {i : Nat} {rest : List Nat} {o : Oper} {d : Nat} (ho : ops[i]? = some o) (hd : o.dst = some d) (hn : Nat.blt d n = true) (hg : fguard ops env o = some false)
    (h : G c n ((d, undef) :: env) L (.inRegion ops rest :: k)) : G c n env L (.inRegion ops (i :: rest) :: k) := by
  intro a w hk hm
  refine goes_of (a' := a.put o.dst undef) (w' := w) (todo' := .inRegion ops rest :: k) (fun b cs => ?_) (h _ w (hd ▸ hk.put hn undef) hm)
  have := step_op_skip (P := c.P) (b := b) (a := a) (k := k) (cs := cs) (w := w) (ops := ops) (i := i) (rest := rest) (by simp [ho, wanted_of hk hg])
  rw [ho] at this
  exact this
theorem G_offN {ops : Array Oper} {i : Nat} {rest : List Nat} {o : Oper} (ho : ops[i]? = some o) (hd : o.dst = none) (hg : fguard ops env o = some false)
    (h : G c n env L (.inRegion ops rest :: k)) : G c n env L (.inRegion ops (i :: rest) :: k) := by
  intro a w hk hm
  refine goes_of (a' := a.put o.dst undef) (w' := w) (todo' := .inRegion ops rest :: k) (fun b cs => ?_) (h _ w (hd ▸ hk.putNone undef) hm)
  have := step_op_skip (P := c.P) (b := b) (a := a) (k := k) (cs := cs) (w := w) (ops := ops) (i := i) (rest := rest) (by simp [ho, wanted_of hk hg])
  rw [ho] at this
  exact this

/-- An operation that only tells a value. -/
def Val (c : Cx) (n : Nat) (env : List (Nat × Value)) (L : List (Option Nat × Obj)) (o : Oper) (v : Value) : Prop :=
  ∀ a w, Knows c.ds n env a → Mem c.w0 c.A c.S L w → (execOp a.eval o).run c.P w = .ok (.value v) w

theorem G_val {ops : Array Oper} {i : Nat} {rest : List Nat} {o : Oper} {d : Nat} {v : Value} (ho : ops[i]? = some o) (hd : o.dst = some d) (hn : Nat.blt d n = true) (hg : fguard ops env o = some true)
    (hv : Val c n env L o v) (h : G c n ((d, v) :: env) L (.inRegion ops rest :: k)) : G c n env L (.inRegion ops (i :: rest) :: k) := by
  intro a w hk hm
  refine goes_op ho (wanted_of hk hg) ?_
  rw [hv a w hk hm, Oper.upon_value, hd]
  exact h _ w (hk.put hn v) hm

/-- An operation that makes a block. -/
def New (c : Cx) (n : Nat) (env : List (Nat × Value)) (L : List (Option Nat × Obj)) (o : Oper) (mk : Nat → Value) (ob : Obj) : Prop :=
  ∀ a w, Knows c.ds n env a → Mem c.w0 c.A c.S L w → (execOp a.eval o).run c.P w = .ok (.value (mk w.heap.size)) (w.alloc ob)

theorem Mem.alloc {w0 w : World} {A L : List (Option Nat × Obj)} {S : List Nat} (h : Mem w0 A S L w) (ob : Obj) : Mem w0 A S ((some w.heap.size, ob) :: L) (w.alloc ob) := by
  have hlt : ∀ b o, (some b, o) ∈ A ++ L → b < w.heap.size := fun b o hm => h.has.lt hm
  refine ⟨⟨fun b o hm => ?_, List.pairwise_cons.2 ⟨fun x hx b hb hx' => ?_, h.has.apart⟩, fun b o hm => ?_, fun x hx y hy b hxb hyb => ?_⟩, fun b o hm => ?_, ?_⟩
  · have hm' : (some b, o) ∈ A ++ L := List.mem_append_left _ hm
    rw [Below.heap_alloc _ _ _ (hlt _ _ hm')]
    exact h.has.liesA b o hm
  · obtain ⟨xb, xo⟩ := x
    simp only at hb hx'
    subst hx'
    cases hb
    have := hlt _ _ (List.mem_append_right A hx)
    omega
  · rcases List.mem_cons.1 hm with e | hm
    · cases e
      show (w.heap.push _)[w.heap.size]? = _
      simp
    · rw [Below.heap_alloc _ _ _ (hlt _ _ (List.mem_append_right A hm))]
      exact h.has.lies b o hm
  · rcases List.mem_cons.1 hy with e | hy
    · subst e
      obtain ⟨xb, xo⟩ := x
      simp only at hxb hyb
      subst hxb
      cases hyb
      have := hlt _ _ (List.mem_append_left L hx)
      omega
    · exact h.has.cross x hx y hy b hxb hyb
  · rcases List.mem_cons.1 hm with e | hm
    · cases e
      exact .inr h.chg.size
    · exact h.own b o hm
  · refine ⟨h.chg.os, h.chg.tape, h.chg.output, by have := h.chg.size; simp; omega, fun i hi hS => ?_⟩
    rw [Below.heap_alloc _ _ _ (by have := h.chg.size; omega)]
    exact h.chg.block i hi hS

theorem G_new {ops : Array Oper} {i : Nat} {rest : List Nat} {o : Oper} {d : Nat} {mk : Nat → Value} {ob : Obj} (ho : ops[i]? = some o) (hd : o.dst = some d) (hn : Nat.blt d n = true) (hg : fguard ops env o = some true)
    (hv : New c n env L o mk ob) (h : ∀ b, G c n ((d, mk b) :: env) ((some b, ob) :: L) (.inRegion ops rest :: k)) : G c n env L (.inRegion ops (i :: rest) :: k) := by
  intro a w hk hm
  refine goes_op ho (wanted_of hk hg) ?_
  rw [hv a w hk hm, Oper.upon_value, hd]
  exact h w.heap.size _ _ (hk.put hn _) (hm.alloc ob)

/-- An operation that writes a block. -/
def Put (c : Cx) (n : Nat) (env : List (Nat × Value)) (L : List (Option Nat × Obj)) (o : Oper) (b : Nat) (ob : Obj) : Prop :=
  ∀ a w, Knows c.ds n env a → Mem c.w0 c.A c.S L w → ∃ w', (execOp a.eval o).run c.P w = .ok .skip w' ∧ w'.os = w.os ∧ w'.tape = w.tape ∧ w'.output = w.output ∧ w'.heap.size = w.heap.size ∧ w'.heap[b]? = some ob ∧ ∀ k, k ≠ b → w'.heap[k]? = w.heap[k]?

theorem Mem.put {w0 w w' : World} {A L : List (Option Nat × Obj)} {S : List Nat} {b : Nat} {o ob : Obj} {l1 l2 : List (Option Nat × Obj)} (h : Mem w0 A S L w) (hL : L = l1 ++ (some b, o) :: l2)
    (h1 : w'.os = w.os) (h2 : w'.tape = w.tape) (h3 : w'.output = w.output) (h4 : w'.heap.size = w.heap.size) (h5 : w'.heap[b]? = some ob) (h6 : ∀ k, k ≠ b → w'.heap[k]? = w.heap[k]?) : Mem w0 A S (l1 ++ (some b, ob) :: l2) w' := by
  subst hL
  have hp : ∀ x : Option Nat × Obj, (l1 ++ x :: l2).Perm (x :: (l1 ++ l2)) := fun x => List.perm_middle
  have hh := h.has.perm (hp _)
  obtain ⟨ha, hr⟩ := List.pairwise_cons.1 hh.apart
  have hown : b ∈ S ∨ w0.heap.size ≤ b := h.own b o (by simp)
  have hbase : Has w' A ((some b, ob) :: (l1 ++ l2)) := by
    refine ⟨fun b' o' hm => ?_, List.pairwise_cons.2 ⟨fun x hx b1 hb1 => ha x hx b1 hb1, hr⟩, fun b' o' hm => ?_, fun x hx y hy => ?_⟩
    · have hne : b' ≠ b := fun e => hh.cross _ hm (some b, o) (by simp) b' rfl (by rw [e])
      rw [h6 b' hne]
      exact hh.liesA b' o' hm
    · rcases List.mem_cons.1 hm with e | hm
      · cases e; exact h5
      · have hne : b' ≠ b := fun e => ha _ hm b rfl (by rw [e])
        rw [h6 b' hne]
        exact hh.lies b' o' (List.mem_cons_of_mem _ hm)
    · rcases List.mem_cons.1 hy with e | hy
      · subst e
        exact fun b1 hx1 hy1 => hh.cross x hx (some b, o) (by simp) b1 hx1 hy1
      · exact hh.cross x hx y (List.mem_cons_of_mem _ hy)
  refine ⟨hbase.perm (hp (some b, ob)).symm, fun b' o' hm => ?_, ⟨h1.trans h.chg.os, h2.trans h.chg.tape, h3.trans h.chg.output, by rw [h4]; exact h.chg.size, fun i hi hS => ?_⟩⟩
  · rcases List.mem_append.1 hm with hm | hm
    · exact h.own b' o' (List.mem_append_left _ hm)
    · rcases List.mem_cons.1 hm with e | hm
      · cases e; exact hown
      · exact h.own b' o' (List.mem_append_right _ (List.mem_cons_of_mem _ hm))
  · have hne : i ≠ b := fun e => by subst e; rcases hown with h' | h'; exact hS h'; omega
    rw [h6 i hne]
    exact h.chg.block i hi hS

theorem G_put {ops : Array Oper} {i : Nat} {rest : List Nat} {o : Oper} {b : Nat} {old ob : Obj} {l1 l2 L' : List (Option Nat × Obj)} (ho : ops[i]? = some o) (hd : o.dst = none) (hg : fguard ops env o = some true)
    (hL : L = l1 ++ (some b, old) :: l2) (hv : Put c n env L o b ob) (hL' : l1 ++ (some b, ob) :: l2 = L') (h : G c n env L' (.inRegion ops rest :: k)) : G c n env L (.inRegion ops (i :: rest) :: k) := by
  intro a w hk hm
  obtain ⟨w', hr, h1, h2, h3, h4, h5, h6⟩ := hv a w hk hm
  refine goes_op ho (wanted_of hk hg) ?_
  rw [hr, Oper.upon_skip, hd]
  subst hL'
  exact h _ w' (hk.putNone undef) (hm.put hL h1 h2 h3 h4 h5 h6)

theorem Mem.call {w0 w w' : World} {A L A' L' L2 post : List (Option Nat × Obj)} {S : List Nat} {is js : List Nat} (h : Mem w0 A S L w) (hL : tk is L = some (L', L2)) (_hA : pk js (A ++ L2) = some A')
    (hp : Mem w [] (hkeys L') post w') : Mem w0 A S (post ++ L2) w' := by
  have p1 := tk_perm hL
  have hb : Has w A (L' ++ L2) := h.has.perm p1
  have pw2 := List.pairwise_append.1 hb.apart
  have hlt2 : ∀ b o, (some b, o) ∈ A ++ L2 → b < w.heap.size := fun b o hm => by
    rcases List.mem_append.1 hm with hm | hm
    · exact lt_of_lies (hb.liesA b o hm)
    · exact lt_of_lies (hb.lies b o (List.mem_append_right _ hm))
  have hnot : ∀ b o, (some b, o) ∈ A ++ L2 → b ∉ hkeys L' := fun b o hm hin => by
    obtain ⟨o', ho'⟩ := mem_hkeys.1 hin
    rcases List.mem_append.1 hm with hm | hm
    · exact hb.cross _ hm _ (List.mem_append_left _ ho') b rfl rfl
    · exact pw2.2.2 _ ho' _ hm b rfl rfl
  have hcross : ∀ x ∈ A ++ L2, ∀ y ∈ post, Apart x y := fun x hx y hy b hxb hyb => by
    obtain ⟨xb, xo⟩ := x
    obtain ⟨yb, yo⟩ := y
    simp only at hxb hyb
    subst hxb hyb
    rcases hp.own b yo hy with h' | h'
    · exact hnot b xo hx h'
    · have := hlt2 _ _ hx
      omega
  refine ⟨⟨fun b o hm => ?_, List.pairwise_append.2 ⟨hp.has.apart, pw2.2.1, fun x hx y hy => (hcross y (List.mem_append_right _ hy) x hx).symm⟩, fun b o hm => ?_, fun x hx y hy => ?_⟩, fun b o hm => ?_, h.chg.trans hp.chg (fun b hb' => ?_)⟩
  · have hm' : (some b, o) ∈ A ++ L2 := List.mem_append_left _ hm
    rw [hp.chg.block b (hlt2 _ _ hm') (hnot b o hm')]
    exact hb.liesA b o hm
  · rcases List.mem_append.1 hm with hm | hm
    · exact hp.lies hm
    · have hm' : (some b, o) ∈ A ++ L2 := List.mem_append_right _ hm
      rw [hp.chg.block b (hlt2 _ _ hm') (hnot b o hm')]
      exact hb.lies b o (List.mem_append_right _ hm)
  · rcases List.mem_append.1 hy with hy | hy
    · exact hcross x (List.mem_append_left _ hx) y hy
    · exact hb.cross x hx y (List.mem_append_right _ hy)
  · rcases List.mem_append.1 hm with hm | hm
    · rcases hp.own b o hm with h' | h'
      · obtain ⟨o', ho'⟩ := mem_hkeys.1 h'
        exact h.own b o' (p1.mem_iff.2 (List.mem_append_left _ ho'))
      · exact .inr (Nat.le_trans h.chg.size h')
    · exact h.own b o (p1.mem_iff.2 (List.mem_append_right _ hm))
  · obtain ⟨o', ho'⟩ := mem_hkeys.1 hb'
    exact h.own b o' (p1.mem_iff.2 (List.mem_append_left _ ho'))

theorem Mem.has_call {w0 w : World} {A L A' L' L2 : List (Option Nat × Obj)} {S : List Nat} {is js : List Nat} (h : Mem w0 A S L w) (hL : tk is L = some (L', L2)) (hA : pk js (A ++ L2) = some A') : Has w A' L' := by
  have hb : Has w A (L' ++ L2) := h.has.perm (tk_perm hL)
  have hmem := pk_mem hA
  have pw2 := List.pairwise_append.1 hb.apart
  refine ⟨fun b o hm => ?_, pw2.1, fun b o hm => hb.lies b o (List.mem_append_left _ hm), fun x hx y hy => ?_⟩
  · rcases List.mem_append.1 (hmem _ hm) with hm | hm
    · exact hb.liesA b o hm
    · exact hb.lies b o (List.mem_append_right _ hm)
  · rcases List.mem_append.1 (hmem _ hx) with hx | hx
    · exact hb.cross x hx y (List.mem_append_left _ hy)
    · exact (pw2.2.2 y hy x hx).symm

theorem G_call {ops : Array Oper} {i : Nat} {rest : List Nat} {o : Oper} {d : Nat} {g : FuncId} {xs : Array Operand} {ts : Array TypeId} {args : List Value} {A' L' L2 : List (Option Nat × Obj)} {R' : Value → List (Option Nat × Obj) → Prop}
    (ho : ops[i]? = some o) (hd : o.dst = some d) (hn : Nat.blt d n = true) (hg : fguard ops env o = some true) (hop : o.op = .call ⟨.value (.func g), xs, ts⟩) (hxs : fevs env xs.toList = some args)
    (hcf : ∀ (az : Array Value) w, (callFunc g az).run c.P w = .ok (.enter g az) w) (hct : Ct c.P g args A' L' R') (is js : List Nat) (hL : tk is L = some (L', L2)) (hA : pk js (c.A ++ L2) = some A')
    (K : ∀ v post, R' v post → G c n ((d, v) :: env) (post ++ L2) (.inRegion ops rest :: k)) : G c n env L (.inRegion ops (i :: rest) :: k) := by
  intro a w hk hm
  refine goes_op ho (wanted_of hk hg) ?_
  have hx : xs.map a.eval = args.toArray := by
    apply Array.toList_inj.1
    simpa using hk.evals hxs
  have hr : (execOp a.eval o).run c.P w = .ok (.enter g args.toArray) w := by
    unfold execOp
    simp [hop, resolve, Act.eval, Deferred.ofValue, hx, invoke, hcf]
  rw [hr, Oper.upon_enter]
  refine (hct w (hm.has_call hL hA)).mono fun e w' ⟨v, post, he, hR, hp⟩ => ?_
  subst he
  simp only [hd]
  exact K v post hR _ w' (hk.put hn v) (hm.call hL hA hp)

theorem G_callN {ops : Array Oper} {i : Nat} {rest : List Nat} {o : Oper} {g : FuncId} {xs : Array Operand} {ts : Array TypeId} {args : List Value} {A' L' L2 : List (Option Nat × Obj)} {R' : Value → List (Option Nat × Obj) → Prop}
    (ho : ops[i]? = some o) (hd : o.dst = none) (hg : fguard ops env o = some true) (hop : o.op = .call ⟨.value (.func g), xs, ts⟩) (hxs : fevs env xs.toList = some args)
    (hcf : ∀ (az : Array Value) w, (callFunc g az).run c.P w = .ok (.enter g az) w) (hct : Ct c.P g args A' L' R') (is js : List Nat) (hL : tk is L = some (L', L2)) (hA : pk js (c.A ++ L2) = some A')
    (K : ∀ v post, R' v post → G c n env (post ++ L2) (.inRegion ops rest :: k)) : G c n env L (.inRegion ops (i :: rest) :: k) := by
  intro a w hk hm
  refine goes_op ho (wanted_of hk hg) ?_
  have hx : xs.map a.eval = args.toArray := by
    apply Array.toList_inj.1
    simpa using hk.evals hxs
  have hr : (execOp a.eval o).run c.P w = .ok (.enter g args.toArray) w := by
    unfold execOp
    simp [hop, resolve, Act.eval, Deferred.ofValue, hx, invoke, hcf]
  rw [hr, Oper.upon_enter]
  refine (hct w (hm.has_call hL hA)).mono fun e w' ⟨v, post, he, hR, hp⟩ => ?_
  subst he
  simp only [hd]
  exact K v post hR _ w' (hk.putNone v) (hm.call hL hA hp)
end
end Go.Proofs.YtbblkgdejgoncaaGreatDoor

/- Small facts on worlds and values that the walks share: the cells of a block that was just made. No program in sight. -/
namespace Go.Proofs.YtbblkgdejgoncaaGreatDoor
open Go Go.RowKit Go.Sort

theorem addr_add (b o j : Nat) : (⟨b, o, none⟩ : Addr).add j = ⟨b, o + j, none⟩ := by
  unfold Addr.add; split <;> simp_all
theorem addr_add0 (b j : Nat) : (⟨b, 0, none⟩ : Addr).add j = ⟨b, j, none⟩ := by
  rw [addr_add, Nat.zero_add]
theorem cell_alloc_new (w : World) (arr : Array Value) (T : TypeId) (fr : Nat × Nat) (j : Nat) : (w.alloc (.cells arr T fr)).cell? ⟨w.heap.size, j, none⟩ = arr[j]? := by
  have h : (w.alloc (.cells arr T fr)).heap[w.heap.size]? = some (.cells arr T fr) := by
    show (w.heap.push _)[w.heap.size]? = _
    simp
  simp only [World.cell?, h]
  rfl
theorem cell_alloc_at (w : World) (arr : Array Value) (T : TypeId) (fr : Nat × Nat) (n j : Nat) (hn : n = w.heap.size) : (w.alloc (.cells arr T fr)).cell? ⟨n, j, none⟩ = arr[j]? := by
  subst hn; exact cell_alloc_new w arr T fr j
theorem frozen_alloc_new (w : World) (arr : Array Value) (T : TypeId) (fr : Nat × Nat) (j : Nat) (hj : j < fr.1) : (w.alloc (.cells arr T fr)).frozen? ⟨w.heap.size, j, none⟩ = false := by
  have h : (w.alloc (.cells arr T fr)).heap[w.heap.size]? = some (.cells arr T fr) := by
    show (w.heap.push _)[w.heap.size]? = _
    simp
  simp only [World.frozen?, h]
  simp; omega

theorem setCell_alloc_new (w : World) (arr : Array Value) (T : TypeId) (fr : Nat × Nat) (j : Nat) (v : Value) : (w.alloc (.cells arr T fr)).setCell ⟨w.heap.size, j, none⟩ v = w.alloc (.cells (arr.setIfInBounds j v) T fr) := by
  have hm : ∀ (a : Array Obj) (x : Obj) (f : Obj → Obj), (a.push x).modify a.size f = a.push (f x) := by
    intro a x f
    apply Array.ext
    · simp
    · intro i h1 h2
      simp only [Array.getElem_modify, Array.getElem_push]
      by_cases h : a.size = i
      · subst h
        simp
      · have hi : i < a.size := by simp at h1; omega
        simp [h, hi]
  unfold World.setCell
  show ({ w.alloc (.cells arr T fr) with heap := (w.heap.push (.cells arr T fr)).modify w.heap.size _ } : World) = _
  rw [hm]
  rfl

theorem u8_xor_bit (v : UInt8) (x : Nat) : bits BinOp.xor IntKind.u8 (v.toNat : Int) ((2 : Int) ^ (7 - x % 8) % (256 : Int)) = ((v ^^^ (1 <<< UInt8.ofNat (7 - x % 8))).toNat : Int) := by
  have hx : x % 8 < 8 := Nat.mod_lt _ (by omega)
  generalize x % 8 = q at *
  have h : ((2 : Int) ^ (7 - q) % (256 : Int)) = (((1 : UInt8) <<< UInt8.ofNat (7 - q)).toNat : Int) := by
    match q, hx with
    | 0, _ => rfl | 1, _ => rfl | 2, _ => rfl | 3, _ => rfl | 4, _ => rfl | 5, _ => rfl | 6, _ => rfl | 7, _ => rfl
  rw [h, u8_xor_nat _ _ (UInt8.toNat_lt _) (UInt8.toNat_lt _), UInt8.toNat_xor]

theorem bel_trans {w w1 w2 : World} (h1 : Below w.heap.size w w1) (h2 : Below w1.heap.size w1 w2) : Below w.heap.size w w2 := h1.trans (h2.mono h1.size)

/-- A block of cells, known whole. -/
def Blk (w : World) (b : Nat) (cs : Array Value) (T : TypeId) : Prop := w.heap[b]? = some (.cells cs T (0, 0))
theorem Blk.cell {w : World} {b : Nat} {cs : Array Value} {T : TypeId} (h : Blk w b cs T) (i : Nat) : w.cell? ⟨b, i, none⟩ = cs[i]? := by
  have h : w.heap[b]? = some (.cells cs T (0, 0)) := h
  simp [World.cell?, h]
theorem Blk.free {w : World} {b : Nat} {cs : Array Value} {T : TypeId} (h : Blk w b cs T) (i : Nat) : w.frozen? ⟨b, i, none⟩ = false := by
  have h : w.heap[b]? = some (.cells cs T (0, 0)) := h
  simp [World.frozen?, h]
theorem Blk.lt {w : World} {b : Nat} {cs : Array Value} {T : TypeId} (h : Blk w b cs T) : b < w.heap.size := lt_of_block h
theorem Blk.set {w : World} {b : Nat} {cs : Array Value} {T : TypeId} (h : Blk w b cs T) (i : Nat) (v : Value) : Blk (w.setCell ⟨b, i, none⟩ v) b (cs.setIfInBounds i v) T := by
  have h' : w.heap[b]? = some (.cells cs T (0, 0)) := h
  have hlt := h.lt
  unfold Blk World.setCell
  show (w.heap.modify b _)[b]? = _
  rw [Array.getElem?_modify]
  simp [h']
theorem Blk.other {w : World} {b c : Nat} {cs : Array Value} {T : TypeId} (h : Blk w c cs T) (hne : c ≠ b) (i : Nat) (v : Value) : Blk (w.setCell ⟨b, i, none⟩ v) c cs T := by
  have h' : w.heap[c]? = some (.cells cs T (0, 0)) := h
  unfold Blk
  rw [Below.heap_setCell _ _ _ _ hne]; exact h'
theorem Blk.new (w : World) (cs : Array Value) (T : TypeId) : Blk (w.alloc (.cells cs T)) w.heap.size cs T := by
  unfold Blk
  show (w.heap.push _)[w.heap.size]? = _
  simp
theorem Blk.alloc {w : World} {b : Nat} {cs : Array Value} {T : TypeId} (h : Blk w b cs T) (o : Obj) : Blk (w.alloc o) b cs T := by
  unfold Blk
  rw [Below.heap_alloc _ _ _ h.lt]; exact h
theorem Blk.drew {w : World} {b : Nat} {cs : Array Value} {T : TypeId} (h : Blk w b cs T) : Blk w.drew b cs T := h
theorem Blk.grown {w w' : World} {b : Nat} {cs : Array Value} {T : TypeId} {row : Option Nat} (h : Blk w b cs T) (hg : w.grownBy w' row) (hne : some b ≠ row) : Blk w' b cs T := by
  unfold Blk
  rw [hg.block b h.lt hne]; exact h
theorem Blk.below {w w' : World} {B b : Nat} {cs : Array Value} {T : TypeId} (h : Blk w b cs T) (hb : Below B w w') (hlt : b < B) : Blk w' b cs T := by
  unfold Blk
  rw [hb.block b hlt]; exact h
theorem grown_refl (w : World) (row : Option Nat) : w.grownBy w row := ⟨rfl, rfl, rfl, Nat.le_refl _, fun _ _ _ => rfl⟩
theorem grown_set (w : World) (b i : Nat) (v : Value) : w.grownBy (w.setCell ⟨b, i, none⟩ v) (some b) :=
  ⟨rfl, rfl, rfl, by simp [World.setCell], fun k _ hne => Below.heap_setCell _ _ _ _ (fun e => hne (by rw [e]))⟩
theorem grown_trans {a b c : World} {row : Option Nat} (h : a.grownBy b row) (k : b.grownBy c row) : a.grownBy c row :=
  ⟨k.os.trans h.os, k.tape.trans h.tape, k.output.trans h.output, Nat.le_trans h.size k.size, fun i hi hne => (k.block i (Nat.lt_of_lt_of_le hi h.size) hne).trans (h.block i hi hne)⟩
theorem grown_drew {a b : World} {row : Option Nat} (h : a.grownBy b row) : a.grownBy b.drew row := ⟨h.os, h.tape, h.output, h.size, h.block⟩
theorem grown_alloc {a b : World} {row : Option Nat} (h : a.grownBy b row) (o : Obj) : a.grownBy (b.alloc o) row :=
  ⟨h.os, h.tape, h.output, Nat.le_trans h.size (by simp), fun k hk hne => (Below.heap_alloc _ _ _ (Nat.lt_of_lt_of_le hk h.size)).trans (h.block k hk hne)⟩
theorem grown_below {a b : World} {row : Option Nat} (h : Below a.heap.size a b) : a.grownBy b row := ⟨h.os, h.tape, h.output, h.size, fun k hk _ => h.block k hk⟩
theorem grown_then_below {a b c : World} {row : Option Nat} (h : a.grownBy b row) (k : Below b.heap.size b c) : a.grownBy c row :=
  grown_trans h (grown_below k)

/-- Behind a region that draws, whose operations read and whose calls make memory alone: nothing that was there has turned. -/
theorem bel_of_regrown {w w' : World} (h : ∃ p : Regrown, w' = grow (redrawn w p.d) p.os) : Below w.heap.size w w' := by
  obtain ⟨p, rfl⟩ := h; exact below_regrown w p.d p.os
/-- A callee that leaves the world alone, met in such a region. -/
theorem Calls.regrown_same {P : Program} {f : FuncId} {args : Array Value} {w : World} {d : Nat} {os : Array Obj} {v : Value}
    (h : Calls P f args (grow (redrawn w d) os) fun e w' => e = .returned v ∧ grow (redrawn w d) os = w') : Calls P f args (grow (redrawn w d) os) fun e w'' => e = .returned v ∧ ∃ p : Regrown, w'' = grow (redrawn w p.d) p.os :=
  h.mono fun _ _ ⟨he, hb⟩ => ⟨he, ⟨d, os⟩, hb.symm⟩

/-- The cells of a row of bytes, behind which there may be more. -/
def BytesAt (arr : Array Value) (l : List UInt8) : Prop := ∀ (j : Nat) (v : UInt8), l[j]? = some v → arr[j]? = some (Value.int .u8 (v.toNat : Int))

theorem BytesAt.set {arr : Array Value} {l : List UInt8} (h : BytesAt arr l) (k : Nat) (f : UInt8 → UInt8) (v : UInt8) (hk : l[k]? = some v) (ha : k < arr.size) : BytesAt (arr.setIfInBounds k (.int .u8 ((f v).toNat : Int))) (l.modify k f) := by
  intro j x hj
  rw [List.getElem?_modify] at hj
  rw [Array.getElem?_setIfInBounds]
  by_cases e : k = j
  · subst e
    simp [hk] at hj
    subst hj
    simp [ha]
  · simp only [e, if_false] at hj ⊢
    exact h j x (by simpa using hj)

end Go.Proofs.YtbblkgdejgoncaaGreatDoor

/- Numbers and texts as bytes (layer 1), as plain functions on lists of bytes. No program in sight. -/
namespace Go.Proofs.YtbblkgdejgoncaaGreatDoor
open Go Go.RowKit

/-- A byte as a value of the model's. -/
def byteV (c : UInt8) : Value := .int .u8 (c.toNat : Int)
/-- A text as a value of the model's. -/
def str (l : List UInt8) : Value := .string ⟨l.toArray⟩
/-- A list of bytes as a text. -/
def bs (l : List UInt8) : ByteArray := ⟨l.toArray⟩
theorem bs_data (l : List UInt8) : (bs l).data.toList = l := rfl
theorem bs_size (l : List UInt8) : (bs l).size = l.length := by unfold bs; simp [ByteArray.size]
theorem bs_of (s : ByteArray) : bs s.data.toList = s := rfl
theorem bs_eq {s : ByteArray} {l : List UInt8} (h : s.data.toList = l) : s = bs l := by subst h; rfl
theorem str_of (s : ByteArray) : str s.data.toList = .string s := rfl
theorem ret_str {s : ByteArray} {l : List UInt8} (h : s.data.toList = l) : Ending.returned (.string s) = .returned (str l) := by subst h; rfl
theorem val_str {s : ByteArray} {l : List UInt8} (h : s.data.toList = l) : Value.string s = str l := by subst h; rfl

/-- A number that fits 64 bits (behind a name: the walk does not like the great numeral). -/
def U64 (n : Nat) : Prop := n < 18446744073709551616
/-- 'string(b)' of a row that the call owns. -/
theorem own_string {P : Program} {w : World} {base e : Nat} {v : Value} {l : List UInt8} (src dst : TypeId) (hs : P.underlying src = some (.slice e)) (he : P.underlying e = some (.int .u8)) (hd : P.underlying dst = some .string)
    (hown : w.ownsRow base e 1 v l.length (l.map byteV)) : (convert src dst v).run P w = .ok (str l) w := by
  rcases hown with ⟨_, ⟨rfl, h0⟩ | ⟨g, cap, cur, rfl, _, hh, _, _, _, htake⟩⟩
  · have : l = [] := List.length_eq_zero_iff.1 h0
    subst this
    rw [run_convert_bytes_string w src dst e none 0 0 hs he hd]
    simp [Conv.bytesToString, str]
    rfl
  · refine run_convert_bytes_back w src dst e ⟨g, 0, none⟩ cap l hs he hd (fun j hj => ?_)
    have h1 : w.cell? ((⟨g, 0, none⟩ : Addr).add j) = cur[j]? := by
      rw [addr_add0]; simp [World.cell?, hh]
    rw [h1]
    have h2 : (cur.toList.take (l.length * 1))[j]? = (l.map byteV)[j]? := by rw [htake]
    rw [List.getElem?_take_of_lt (by omega)] at h2
    simpa [List.getElem?_eq_getElem hj, byteV] using h2

def chain (v : Nat) : List UInt8 :=
  if _h : v < 128 then [UInt8.ofNat v] else UInt8.ofNat (v % 128 + 128) :: chain (v / 128)
  termination_by v
  decreasing_by omega

theorem chain_small (v : Nat) (h : v < 128) : chain v = [UInt8.ofNat v] := by rw [chain, dif_pos h]
theorem chain_big (v : Nat) (h : 128 ≤ v) : chain v = UInt8.ofNat (v % 128 + 128) :: chain (v / 128) := by rw [chain, dif_neg (by omega)]
theorem chain_pos (v : Nat) : 1 ≤ (chain v).length := by
  rw [chain]; split <;> simp
theorem chain_len (n v : Nat) (h : v < 128 ^ n) (hn : 1 ≤ n) : (chain v).length ≤ n := by
  induction n generalizing v with
  | zero => omega
  | succ n ih =>
    by_cases hv : v < 128
    · rw [chain_small v hv]; simp
    · rw [chain_big v (by omega), List.length_cons]
      have h1 : v / 128 < 128 ^ n := by
        rw [Nat.div_lt_iff_lt_mul (by omega)]; rw [Nat.pow_succ] at h; exact h
      have h2 : 1 ≤ n := by
        by_cases e : n = 0
        · subst e; simp at h; omega
        · omega
      have := ih _ h1 h2
      omega
theorem U64.div {n : Nat} (h : U64 n) (k : Nat) : U64 (n / k) := Nat.lt_of_le_of_lt (Nat.div_le_self _ _) h
theorem U64.wrap {n : Nat} (h : U64 n) : IntKind.u64.wrap (n : Int) = (n : Int) := by
  unfold U64 at h
  rw [IntKind.wrap_u64]; omega
theorem U64.wrap_div {n : Nat} (h : U64 n) (k : Nat) : IntKind.u64.wrap ((n : Int) / (k : Int)) = (n : Int) / (k : Int) := by
  have := (h.div k).wrap
  rw [Int.natCast_ediv] at this
  exact this
theorem chain_len64 (v : Nat) (h : U64 v) : (chain v).length ≤ 10 :=
  chain_len 10 v (by unfold U64 at h; omega) (by omega)

theorem byte_or (u : Nat) : bits BinOp.or IntKind.u8 ((u : Int) % (256 : Int)) (128 : Int) = ((UInt8.ofNat (u % 128 + 128)).toNat : Int) := by
  have h1 : ((u : Int) % (256 : Int)) = ((u % 256 : Nat) : Int) := by omega
  have h2 : ∀ m : Nat, m < 256 → m ||| 128 = m % 128 + 128 := by decide +kernel
  rw [h1]
  refine (u8_or_nat (u % 256) 128 (Nat.mod_lt _ (by omega)) (by omega)).trans ?_
  rw [h2 _ (Nat.mod_lt _ (by omega))]
  rw [UInt8.toNat_ofNat']
  omega
theorem byte_mod (u : Nat) (h : u < 256) : ((UInt8.ofNat u).toNat : Int) = (u : Int) := by
  rw [UInt8.toNat_ofNat']; omega

/-- The number of the chain with which some bytes begin: the number, its bytes, the error's number. -/
def unch : Nat → Nat → List UInt8 → Nat × Nat × Nat
  | i, _, [] => if 10 ≤ i then (0, 0, 3) else (0, 0, 2)
  | i, v, c :: r =>
    if 10 ≤ i then (0, 0, 3)
    else if 128 ≤ c.toNat then unch (i + 1) (v + (c.toNat - 128) * 128 ^ i) r
    else if (0 < i ∧ c.toNat = 0) ∨ (i = 9 ∧ 1 < c.toNat) then (0, 0, 3)
    else (v + c.toNat * 128 ^ i, i + 1, 0)
def unchain (l : List UInt8) : Nat × Nat × Nat := unch 0 0 l

theorem unch_ten (v : Nat) (l : List UInt8) : unch 10 v l = (0, 0, 3) := by
  cases l <;> simp [unch]
theorem unch_more (i v : Nat) (c : UInt8) (r : List UInt8) (hi : i < 10) (hc : 128 ≤ c.toNat) : unch i v (c :: r) = unch (i + 1) (v + (c.toNat - 128) * 128 ^ i) r := by
  rw [unch, if_neg (by omega), if_pos hc]
theorem unch_bad (i v : Nat) (c : UInt8) (r : List UInt8) (hi : i < 10) (hc : c.toNat < 128) (h : (0 < i ∧ c.toNat = 0) ∨ (i = 9 ∧ 1 < c.toNat)) : unch i v (c :: r) = (0, 0, 3) := by
  rw [unch, if_neg (by omega), if_neg (by omega), if_pos h]
theorem unch_last (i v : Nat) (c : UInt8) (r : List UInt8) (hi : i < 10) (hc : c.toNat < 128) (h : ¬ ((0 < i ∧ c.toNat = 0) ∨ (i = 9 ∧ 1 < c.toNat))) : unch i v (c :: r) = (v + c.toNat * 128 ^ i, i + 1, 0) := by
  rw [unch, if_neg (by omega), if_neg (by omega), if_neg h]

theorem or_place (v c k : Nat) (hv : v < 128 ^ k) : v ||| (c * 128 ^ k) = v + c * 128 ^ k := by
  have h : (128 : Nat) ^ k = 2 ^ (7 * k) := by rw [Nat.pow_mul]
  rw [h] at hv ⊢
  rw [Nat.or_comm, Nat.mul_comm, ← Nat.two_pow_add_eq_or_of_lt hv]; omega
theorem and_not_128 (c : UInt8) : bits BinOp.andNot IntKind.u8 (c.toNat : Int) (128 : Int) = ((c.toNat % 128 : Nat) : Int) := by
  have hc := c.toNat_lt
  refine (u8_andNot_nat c.toNat 128 hc (by omega)).trans ?_
  have h2 : ∀ m : Nat, m < 256 → m &&& (255 - 128) = m % 128 := by decide +kernel
  rw [h2 _ hc]
theorem and_128 (c : UInt8) : bits BinOp.and IntKind.u8 (c.toNat : Int) (128 : Int) = ((c.toNat / 128 * 128 : Nat) : Int) := by
  have hc := c.toNat_lt
  refine (u8_and_nat c.toNat 128 hc (by omega)).trans ?_
  have h2 : ∀ m : Nat, m < 256 → m &&& 128 = m / 128 * 128 := by decide +kernel
  rw [h2 _ hc]

/-- What a byte of a chain adds to the number so far. -/
theorem or_link (v : Nat) (c : UInt8) (k : Nat) (hk : k ≤ 9) (hv : v < 128 ^ k) :
    ∃ n : Nat, bits BinOp.or IntKind.u64 (v : Int) (IntKind.u64.wrap (IntKind.u64.wrap (bits BinOp.andNot IntKind.u8 (c.toNat : Int) (128 : Int)) * (2 : Int) ^ (7 * k))) = (n : Int) ∧ U64 n ∧
      (k ≤ 8 ∨ c.toNat % 128 ≤ 1 → n = v + c.toNat % 128 * 128 ^ k) := by
  have hc := c.toNat_lt
  have h : (128 : Nat) ^ k = 2 ^ (7 * k) := by rw [Nat.pow_mul]
  have hp : (128 : Nat) ^ k ≤ 128 ^ 9 := Nat.pow_le_pow_right (by omega) hk
  have hv64 : v < 18446744073709551616 := Nat.lt_of_lt_of_le hv (Nat.le_trans hp (by decide))
  have e1 : IntKind.u64.wrap (IntKind.u64.wrap (bits BinOp.andNot IntKind.u8 (c.toNat : Int) (128 : Int)) * (2 : Int) ^ (7 * k)) = ((c.toNat % 128 * 128 ^ k % 18446744073709551616 : Nat) : Int) := by
    rw [and_not_128, IntKind.wrap_u64, IntKind.wrap_u64, h]
    have : ((c.toNat % 128 : Nat) : Int) % 18446744073709551616 = ((c.toNat % 128 : Nat) : Int) := by omega
    rw [this]
    simp
  rw [e1]
  refine ⟨_, u64_or_nat _ _ hv64 (Nat.mod_lt _ (by omega)), ?_, ?_⟩
  · exact Nat.or_lt_two_pow (n := 64) hv64 (Nat.mod_lt _ (by omega))
  · intro hh
    have : c.toNat % 128 * 128 ^ k < 18446744073709551616 := by
      rcases hh with hh | hh
      · have h1 : (128 : Nat) ^ k ≤ 128 ^ 8 := Nat.pow_le_pow_right (by omega) hh
        have h2 : c.toNat % 128 * 128 ^ k ≤ 127 * 128 ^ 8 := Nat.mul_le_mul (by omega) h1
        exact Nat.lt_of_le_of_lt h2 (by decide)
      · have h2 : c.toNat % 128 * 128 ^ k ≤ 1 * 128 ^ 9 := Nat.mul_le_mul hh hp
        exact Nat.lt_of_le_of_lt h2 (by decide)
    rw [Nat.mod_eq_of_lt this]
    exact or_place v _ k hv

/-- The number that the first n bytes of a chain tell, the lowest first. -/
def lowF : List UInt8 → Nat → Nat
  | _, 0 => 0
  | [], _ + 1 => 0
  | c :: r, n + 1 => c.toNat % 128 + 128 * lowF r n
theorem lowF_lt (l : List UInt8) (n : Nat) : lowF l n < 128 ^ n := by
  induction n generalizing l with
  | zero => simp [lowF]
  | succ n ih =>
    cases l with
    | nil => simp only [lowF]; exact Nat.pow_pos (by omega)
    | cons c r =>
      simp only [lowF]
      have := ih r
      have h1 : c.toNat % 128 < 128 := Nat.mod_lt _ (by omega)
      rw [Nat.pow_succ]
      omega
theorem lowF_top (l : List UInt8) (n : Nat) (c : UInt8) (h : l[n]? = some c) (hc : c.toNat ≤ 1) : lowF l (n + 1) < 2 * 128 ^ n := by
  induction n generalizing l with
  | zero =>
    match l, h with
    | x :: r, h =>
      obtain rfl : x = c := by simpa using h
      simp only [lowF]
      omega
  | succ n ih =>
    match l, h with
    | x :: r, h =>
      have := ih r (by simpa using h)
      rw [lowF]
      have h1 : x.toNat % 128 < 128 := Nat.mod_lt _ (by omega)
      rw [Nat.pow_succ]
      omega
theorem unch_run (n i v : Nat) (l : List UInt8) (hn : n ≤ l.length) (hi : i + n ≤ 10) (h : ∀ j c, j < n → l[j]? = some c → 128 ≤ c.toNat) : unch i v l = unch (i + n) (v + 128 ^ i * lowF l n) (l.drop n) := by
  induction n generalizing i v l with
  | zero => simp [lowF]
  | succ n ih =>
    match l, hn with
    | c :: r, hn =>
      have hc := h 0 c (by omega) (by simp)
      have h256 := c.toNat_lt
      rw [unch_more i v c r (by omega) hc, ih (i + 1) _ r (by simpa using hn) (by omega) (fun j d hj hd => h (j + 1) d (by omega) (by simpa using hd))]
      rw [List.drop_succ_cons, show i + 1 + n = i + (n + 1) by omega]
      congr 1
      rw [lowF, show c.toNat % 128 = c.toNat - 128 by omega, Nat.pow_succ, Nat.mul_add, Nat.mul_comm (c.toNat - 128)]
      rw [Nat.mul_assoc, Nat.add_assoc]

theorem lowF_snoc (l : List UInt8) (n : Nat) (c : UInt8) (h : l[n]? = some c) (hc : c.toNat < 128) : lowF l (n + 1) = lowF l n + c.toNat * 128 ^ n := by
  induction n generalizing l with
  | zero =>
    match l, h with
    | x :: r, h =>
      obtain rfl : x = c := by simpa using h
      simp only [lowF]
      omega
  | succ n ih =>
    match l, h with
    | x :: r, h =>
      have := ih r (by simpa using h)
      rw [lowF, this, lowF, Nat.pow_succ, Nat.mul_add, Nat.mul_left_comm, Nat.mul_comm (128 ^ n)]
      rw [Nat.add_assoc]
/-- One step of the reckoning from the highest byte down: no number outgrows 64 bits. -/
theorem lowF_step (l : List UInt8) (k q : Nat) (c : UInt8) (hc : l[k]? = some c) (hk : k ≤ 9) (htop : k = 9 → c.toNat ≤ 1) (d : UInt8) (hd : l[q]? = some d) (hq : q ≤ k) :
    lowF (l.drop q) (k + 1 - q) = lowF (l.drop (q + 1)) (k - q) * 128 + d.toNat % 128 ∧ U64 (lowF (l.drop q) (k + 1 - q)) := by
  have hlt : q < l.length := (List.getElem?_eq_some_iff.1 hd).1
  have e : l.drop q = d :: l.drop (q + 1) := by
    rw [List.drop_eq_getElem_cons hlt]
    rw [List.getElem?_eq_getElem hlt] at hd
    rw [Option.some.inj hd]
  constructor
  · rw [e, show k + 1 - q = (k - q) + 1 by omega, lowF]; omega
  · unfold U64
    by_cases h9 : k = 9 ∧ q = 0
    · obtain ⟨rfl, rfl⟩ := h9
      have := lowF_top l 9 c hc (htop rfl)
      simpa using this
    · have h1 := lowF_lt (l.drop q) (k + 1 - q)
      have h2 : (128 : Nat) ^ (k + 1 - q) ≤ 128 ^ 9 := Nat.pow_le_pow_right (by omega) (by omega)
      exact Nat.lt_of_lt_of_le h1 (Nat.le_trans h2 (by decide))

end Go.Proofs.YtbblkgdejgoncaaGreatDoor

/- What single operations tell. No program in sight. -/
set_option linter.unusedSimpArgs false
set_option linter.unusedVariables false
namespace Go.Proofs.YtbblkgdejgoncaaGreatDoor
open Go Go.RowKit

/-- The value at a place of a list. -/
def nth : List Value → Nat → Option Value
  | [], _ => none
  | v :: _, 0 => some v
  | _ :: vs, i + 1 => nth vs i
theorem nth_eq : ∀ (l : List Value) (i : Nat), nth l i = l[i]?
  | [], _ => by simp [nth]
  | v :: _, 0 => by simp [nth]
  | _ :: vs, i + 1 => by simp [nth, nth_eq vs i]
theorem nth_of {cs : Array Value} {i : Nat} {v : Value} (h : cs[i]? = some v) : nth cs.toList i = some v := by rw [nth_eq]; simpa using h
theorem at_of {cs : Array Value} {i : Nat} {v : Value} (h : nth cs.toList i = some v) : cs[i]? = some v := by rw [nth_eq] at h; simpa using h
def isAggD : TypeDesc → Bool
  | .struct _ | .array _ _ => true
  | _ => false
section
variable {c : Cx} {n : Nat} {env : List (Nat × Value)} {L : List (Option Nat × Obj)} {k : List Item} {o : Oper}

theorem V_move {x : Operand} {v : Value} (hop : o.op = .move x) (hx : fev env x = some v) : Val c n env L o v := fun a w hk _ => by
  simp [execOp, hop, hk.eval hx]
theorem V_assign {x : Operand} {v : Value} (hop : o.op = .assign x) (hx : fev env x = some v) : Val c n env L o v := fun a w hk _ => by
  simp [execOp, hop, hk.eval hx]
theorem V_pickT {x y z : Operand} {v : Value} (hop : o.op = .pick x y z) (hx : fev env x = some (.bool true)) (hy : fev env y = some v) : Val c n env L o v := fun a w hk _ => by
  simp [execOp, hop, hk.eval hx, hk.eval hy, asBool]
theorem V_pickF {x y z : Operand} {v : Value} (hop : o.op = .pick x y z) (hx : fev env x = some (.bool false)) (hz : fev env z = some v) : Val c n env L o v := fun a w hk _ => by
  simp [execOp, hop, hk.eval hx, hk.eval hz, asBool]
theorem V_extract {x : Operand} {i : Nat} {vs : Array Value} {v : Value} (hop : o.op = .extract x i) (hx : fev env x = some (.tuple vs)) (hv : nth vs.toList i = some v) : Val c n env L o v := fun a w hk _ => by
  have hv := at_of hv
  simp [execOp, hop, hk.eval hx, Instr.extract, hv]
theorem V_func {fn : Fn} {xs ys : Array Operand} {us vs : List Value} (hop : o.op = .makeFunc fn xs ys) (hx : fevs env xs.toList = some us) (hy : fevs env ys.toList = some vs) : Val c n env L o (.func fn us.toArray vs.toArray) := fun a w hk _ => by
  have h1 : xs.map a.eval = us.toArray := by apply Array.toList_inj.1; simpa using hk.evals hx
  have h2 : ys.map a.eval = vs.toArray := by apply Array.toList_inj.1; simpa using hk.evals hy
  simp [execOp, hop, Instr.makeFunc, h1, h2]
theorem V_nilCheck {x : Operand} {p : Addr} (hop : o.op = .nilCheck x) (hx : fev env x = some (.pointer (some p))) : Val c n env L o (.pointer (some p)) := fun a w hk _ => by
  simp [execOp, hop, hk.eval hx]
theorem V_nilCheckF {x : Operand} {f : FuncId} {us vs : Array Value} (hop : o.op = .nilCheck x) (hx : fev env x = some (.func (.func f) us vs)) : Val c n env L o (.func (.func f) us vs) := fun a w hk _ => by
  simp [execOp, hop, hk.eval hx]

-- integers
section
variable {x y : Operand} {t yt : TypeId} {q : IntKind} {p r : Int}
theorem V_eql (hop : o.op = .binOp .eql t x y yt) (hx : fev env x = some (.int q p)) (hy : fev env y = some (.int q r)) : Val c n env L o (.bool (decide (p = r))) := fun a w hk _ => by
  simp only [execOp, hop, hk.eval hx, hk.eval hy]; simp [go_sem]
  rfl
theorem V_neq (hop : o.op = .binOp .neq t x y yt) (hx : fev env x = some (.int q p)) (hy : fev env y = some (.int q r)) : Val c n env L o (.bool (decide (¬ p = r))) := fun a w hk _ => by
  simp only [execOp, hop, hk.eval hx, hk.eval hy]; simp [go_sem, bne]; rfl
theorem V_lss (hop : o.op = .binOp .lss t x y yt) (hx : fev env x = some (.int q p)) (hy : fev env y = some (.int q r)) : Val c n env L o (.bool (decide (p < r))) := fun a w hk _ => by
  simp only [execOp, hop, hk.eval hx, hk.eval hy]; simp [go_sem]
theorem V_leq (hop : o.op = .binOp .leq t x y yt) (hx : fev env x = some (.int q p)) (hy : fev env y = some (.int q r)) : Val c n env L o (.bool (decide (p ≤ r))) := fun a w hk _ => by
  simp only [execOp, hop, hk.eval hx, hk.eval hy]; simp [go_sem]
theorem V_gtr (hop : o.op = .binOp .gtr t x y yt) (hx : fev env x = some (.int q p)) (hy : fev env y = some (.int q r)) : Val c n env L o (.bool (decide (r < p))) := fun a w hk _ => by
  simp only [execOp, hop, hk.eval hx, hk.eval hy]; simp [go_sem]
theorem V_geq (hop : o.op = .binOp .geq t x y yt) (hx : fev env x = some (.int q p)) (hy : fev env y = some (.int q r)) : Val c n env L o (.bool (decide (r ≤ p))) := fun a w hk _ => by
  simp only [execOp, hop, hk.eval hx, hk.eval hy]; simp [go_sem]
theorem V_add (hop : o.op = .binOp .add t x y yt) (hx : fev env x = some (.int q p)) (hy : fev env y = some (.int q r)) : Val c n env L o (.int q (q.wrap (p + r))) := fun a w hk _ => by
  simp only [execOp, hop, hk.eval hx, hk.eval hy]; simp [go_sem]
theorem V_sub (hop : o.op = .binOp .sub t x y yt) (hx : fev env x = some (.int q p)) (hy : fev env y = some (.int q r)) : Val c n env L o (.int q (q.wrap (p - r))) := fun a w hk _ => by
  simp only [execOp, hop, hk.eval hx, hk.eval hy]; simp [go_sem]
theorem V_mul (hop : o.op = .binOp .mul t x y yt) (hx : fev env x = some (.int q p)) (hy : fev env y = some (.int q r)) : Val c n env L o (.int q (q.wrap (p * r))) := fun a w hk _ => by
  simp only [execOp, hop, hk.eval hx, hk.eval hy]; simp [go_sem]
theorem wrap_i64 {e : Int} (h : -9223372036854775808 ≤ e ∧ e ≤ 9223372036854775807) : IntKind.i64.wrap e = e := by
  simp only [IntKind.wrap, IntKind.bits, IntKind.signed]
  simp
  omega
theorem wrap_u64 {e : Int} (h : 0 ≤ e ∧ e ≤ 18446744073709551615) : IntKind.u64.wrap e = e := by
  simp only [IntKind.wrap, IntKind.bits, IntKind.signed]
  simp
  omega
theorem wrap_u32 {e : Int} (h : 0 ≤ e ∧ e ≤ 4294967295) : IntKind.u32.wrap e = e := by
  simp only [IntKind.wrap, IntKind.bits, IntKind.signed]
  simp
  omega
theorem wrap_u8 {e : Int} (h : 0 ≤ e ∧ e ≤ 255) : IntKind.u8.wrap e = e := by
  simp only [IntKind.wrap, IntKind.bits, IntKind.signed]
  simp
  omega
theorem wrap_i32 {e : Int} (h : -2147483648 ≤ e ∧ e ≤ 2147483647) : IntKind.i32.wrap e = e := by
  simp only [IntKind.wrap, IntKind.bits, IntKind.signed]
  simp
  omega
theorem Val.int {e e' : Int} (h : Val c n env L o (.int q e)) (he : e = e') : Val c n env L o (.int q e') := he ▸ h
theorem V_quo (hop : o.op = .binOp .quo t x y yt) (hx : fev env x = some (.int q p)) (hy : fev env y = some (.int q r)) (h0 : 0 ≤ p) (h1 : 0 < r) (hw : q.wrap (p / r) = p / r) : Val c n env L o (.int q (p / r)) := fun a w hk _ => by
  have : ¬ r = 0 := by omega
  have e : p.tdiv r = p / r := Int.tdiv_eq_ediv_of_nonneg h0
  simp only [execOp, hop, hk.eval hx, hk.eval hy]; simp [go_sem, this, e, hw]
theorem V_rem (hop : o.op = .binOp .rem t x y yt) (hx : fev env x = some (.int q p)) (hy : fev env y = some (.int q r)) (h0 : 0 ≤ p) (h1 : 0 < r) : Val c n env L o (.int q (p % r)) := fun a w hk _ => by
  have : ¬ r = 0 := by omega
  have e : p.tmod r = p % r := Int.tmod_eq_emod_of_nonneg h0
  simp only [execOp, hop, hk.eval hx, hk.eval hy]; simp [go_sem, this, e]
theorem V_shl {yq : IntKind} (hop : o.op = .binOp .shl t x y yt) (hx : fev env x = some (.int q p)) (hy : fev env y = some (.int yq r)) (h0 : 0 ≤ r) : Val c n env L o (.int q (q.wrap (p * 2 ^ min r.toNat q.bits))) := fun a w hk _ => by
  have : ¬ r < 0 := by omega
  simp only [execOp, hop, hk.eval hx, hk.eval hy]; simp [go_sem, Op.shift, this]
theorem V_shr {yq : IntKind} (hop : o.op = .binOp .shr t x y yt) (hx : fev env x = some (.int q p)) (hy : fev env y = some (.int yq r)) (h0 : 0 ≤ r) : Val c n env L o (.int q (p / 2 ^ min r.toNat q.bits)) := fun a w hk _ => by
  have : ¬ r < 0 := by omega
  have e : p.fdiv (2 ^ min r.toNat q.bits) = p / 2 ^ min r.toNat q.bits := Int.fdiv_eq_ediv_of_nonneg _ (by exact Int.pow_nonneg (by omega))
  simp only [execOp, hop, hk.eval hx, hk.eval hy, eqGuard_shr, pure_bind, binOp_shr, Op.shift]
  rw [if_neg this, e]
  rfl
theorem V_conv {d : TypeDesc} {u : TypeId} (hop : o.op = .convert t u x) (hx : fev env x = some (.int q p)) (ht : c.P.underlying t = some d) {q' : IntKind} (hu : c.P.underlying u = some (.int q')) : Val c n env L o (.int q' (q'.wrap p)) := fun a w hk _ => by
  simp [execOp, hop, hk.eval hx, convert, run_underlying ht, run_underlying hu, Conv.intToInt]
end

-- truths
theorem V_not {x : Operand} {t : TypeId} {b : Bool} (hop : o.op = .unOp .not t x) (hx : fev env x = some (.bool b)) : Val c n env L o (.bool (!b)) := fun a w hk _ => by
  simp [execOp, hop, hk.eval hx, Op.unary]
theorem V_notD {x : Operand} {t : TypeId} {p : Prop} {inst : Decidable p} (hop : o.op = .unOp .not t x) (hx : fev env x = some (.bool (decide p))) : Val c n env L o (.bool (decide (¬ p))) := fun a w hk _ => by
  simp [execOp, hop, hk.eval hx, Op.unary]
theorem V_beql {x y : Operand} {t yt : TypeId} {b e : Bool} (hop : o.op = .binOp .eql t x y yt) (ht : c.P.underlying t = some .bool) (hx : fev env x = some (.bool b)) (hy : fev env y = some (.bool e)) : Val c n env L o (.bool (decide (b = e))) := fun a w hk _ => by
  simp only [execOp, hop, hk.eval hx, hk.eval hy, eqGuard_at_bool, pure_bind]
  simp only [Sem.run_bind, run_eql_bool w t b e ht]
  cases b <;> cases e <;> rfl
theorem V_bneq {x y : Operand} {t yt : TypeId} {b e : Bool} (hop : o.op = .binOp .neq t x y yt) (ht : c.P.underlying t = some .bool) (hx : fev env x = some (.bool b)) (hy : fev env y = some (.bool e)) : Val c n env L o (.bool (decide (¬ b = e))) := fun a w hk _ => by
  simp only [execOp, hop, hk.eval hx, hk.eval hy, eqGuard_at_bool, pure_bind]
  simp only [Sem.run_bind, run_neq_bool w t b e ht]
  cases b <;> cases e <;> rfl

-- texts
theorem bs_toList (l : List UInt8) : (bs l).toList = l := by
  rw [ByteArray.toList_eq]; rfl
theorem list_beq (l m : List UInt8) : (l == m) = decide (l = m) := by
  by_cases h : l = m <;> simp [h]
section
variable {x y : Operand} {t yt : TypeId} {l m : List UInt8}
theorem V_seql (hop : o.op = .binOp .eql t x y yt) (hx : fev env x = some (.string (bs l))) (hy : fev env y = some (.string (bs m))) : Val c n env L o (.bool (decide (l = m))) := fun a w hk _ => by
  simp only [execOp, hop, hk.eval hx, hk.eval hy]; simp [go_sem, binOp, Op.stringOp, bs_toList, list_beq]
theorem V_sneq (hop : o.op = .binOp .neq t x y yt) (hx : fev env x = some (.string (bs l))) (hy : fev env y = some (.string (bs m))) : Val c n env L o (.bool (decide (¬ l = m))) := fun a w hk _ => by
  simp only [execOp, hop, hk.eval hx, hk.eval hy]; simp [go_sem, binOp, Op.stringOp, bs_toList, list_beq]
theorem bs_append (l m : List UInt8) : bs l ++ bs m = bs (l ++ m) := bs_eq (by simp [bs])
theorem V_sadd (hop : o.op = .binOp .add t x y yt) (hx : fev env x = some (.string (bs l))) (hy : fev env y = some (.string (bs m))) (h : l.length + m.length ≤ 9223372036854775807) : Val c n env L o (.string (bs (l ++ m))) := fun a w hk _ => by
  have h' : ¬ IntKind.i64.max < (((bs l).size + (bs m).size : Nat) : Int) := by rw [IntKind.max_i64, bs_size, bs_size]; omega
  simp only [execOp, hop, hk.eval hx, hk.eval hy, eqGuard_add, pure_bind, binOp, Op.stringOp]
  rw [if_neg (by simpa using h'), bs_append]
  rfl
theorem V_slen {ts : Array TypeId} {ty : TypeId} {p : String} {e : Array Edge} {gd : Option (Nat × Bool)} {d : Option Tmp} (hop : o = ⟨d, .call ⟨.builtin .len, #[x], ts⟩, ty, p, e, gd⟩) (ht : ts[0]? = some t) (hu : c.P.underlying t = some .string) (hx : fev env x = some (.string (bs l))) : Val c n env L o (.int .i64 (l.length : Int)) := fun a w hk _ => by
  subst hop
  simp [execOp, hk.eval hx, resolve, invoke, builtin, Builtin.len_, ht, run_underlying hu, goInt, bs_size]
theorem V_sindex {q : IntKind} {i : Int} {v : UInt8} (hop : o.op = .index t x y) (hu : c.P.underlying t = some .string) (hx : fev env x = some (.string (bs l))) (hy : fev env y = some (.int q i)) (h0 : 0 ≤ i) (hv : l[i.toNat]? = some v) : Val c n env L o (.int .u8 (v.toNat : Int)) := fun a w hk _ => by
  have hv' : (bs l)[i.toNat]? = some v := by
    have hlt : i.toNat < l.length := (List.getElem?_eq_some_iff.1 hv).1
    rw [getElem?_pos (bs l) i.toNat (by rw [bs_size]; exact hlt)]
    have := (List.getElem?_eq_some_iff.1 hv).2
    rw [← this]
    rfl
  simp only [execOp, hop, hk.eval hx, hk.eval hy, Instr.index, asIntOf, Sem.run_bind, Sem.run_pure, Result.andThen_ok, run_underlying hu, if_pos h0, hv']
theorem bs_extract (l : List UInt8) (i j : Nat) : (bs l).extract i j = bs ((l.take j).drop i) := bs_eq (by simp [bs, List.drop_take])
theorem V_sslice {lo hi : Int} {q q' : IntKind} {xl xh : Operand} (hop : o.op = .slice t x (some xl) (some xh) none) (hu : c.P.underlying t = some .string) (hx : fev env x = some (.string (bs l))) (hl : fev env xl = some (.int q lo)) (hh : fev env xh = some (.int q' hi))
    (h0 : 0 ≤ lo) (h1 : lo ≤ hi) (h2 : hi ≤ l.length) : Val c n env L o (.string (bs ((l.take hi.toNat).drop lo.toNat))) := fun a w hk _ => by
  have e1 : 0 ≤ hi ∧ hi ≤ ((bs l).size : Int) := by rw [bs_size]; omega
  have e2 : 0 ≤ lo ∧ lo ≤ ((hi.toNat : Nat) : Int) := by omega
  simp only [execOp, hop, hk.eval hx, hk.eval hl, hk.eval hh, Option.map_some, Option.map_none, Instr.sliceAt, Instr.slice, Instr.sliceBounds, Instr.sliceBound, asIntOf, Sem.run_bind, Sem.run_pure, Result.andThen_ok, run_underlying hu, Option.isSome_none, Bool.false_eq_true, if_false, if_pos e1, if_pos e2, bs_extract]
theorem V_ssliceL {lo : Int} {q : IntKind} {xl : Operand} (hop : o.op = .slice t x (some xl) none none) (hu : c.P.underlying t = some .string) (hx : fev env x = some (.string (bs l))) (hl : fev env xl = some (.int q lo))
    (h0 : 0 ≤ lo) (h1 : lo ≤ l.length) : Val c n env L o (.string (bs (l.drop lo.toNat))) := fun a w hk _ => by
  have e2 : 0 ≤ lo ∧ lo ≤ ((bs l).size : Int) := by rw [bs_size]; omega
  simp only [execOp, hop, hk.eval hx, hk.eval hl, Option.map_some, Option.map_none, Instr.sliceAt, Instr.slice, Instr.sliceBounds, Instr.sliceBound, asIntOf, Sem.run_bind, Sem.run_pure, Result.andThen_ok, run_underlying hu, Option.isSome_none, Bool.false_eq_true, if_false, if_pos e2, bs_extract]
  rw [bs_size, List.take_length]
theorem V_ssliceH {hi : Int} {q' : IntKind} {xh : Operand} (hop : o.op = .slice t x none (some xh) none) (hu : c.P.underlying t = some .string) (hx : fev env x = some (.string (bs l))) (hh : fev env xh = some (.int q' hi))
    (h1 : 0 ≤ hi) (h2 : hi ≤ l.length) : Val c n env L o (.string (bs (l.take hi.toNat))) := fun a w hk _ => by
  have e1 : 0 ≤ hi ∧ hi ≤ ((bs l).size : Int) := by rw [bs_size]; omega
  simp only [execOp, hop, hk.eval hx, hk.eval hh, Option.map_some, Option.map_none, Instr.sliceAt, Instr.slice, Instr.sliceBounds, Instr.sliceBound, asIntOf, Sem.run_bind, Sem.run_pure, Result.andThen_ok, run_underlying hu, Option.isSome_none, Bool.false_eq_true, if_false, if_pos e1, bs_extract]
  try rfl
end

-- slices, pointers
theorem V_len {x : Operand} {t e : TypeId} {ts : Array TypeId} {ty : TypeId} {p : String} {es : Array Edge} {gd : Option (Nat × Bool)} {d : Option Tmp} {b : Option Addr} {i j : Nat} (hop : o = ⟨d, .call ⟨.builtin .len, #[x], ts⟩, ty, p, es, gd⟩) (ht : ts[0]? = some t) (hu : c.P.underlying t = some (.slice e)) (hx : fev env x = some (.slice b i j)) : Val c n env L o (.int .i64 (i : Int)) := fun a w hk _ => by
  subst hop
  simp [execOp, hk.eval hx, resolve, invoke, builtin, Builtin.len_, ht, run_underlying hu, goInt]
theorem V_peqlN {x y : Operand} {t e yt : TypeId} {p : Option Addr} (hop : o.op = .binOp .eql t x y yt) (hu : c.P.underlying t = some (.pointer e)) (hx : fev env x = some (.pointer p)) (hy : fev env y = some (.pointer none)) : Val c n env L o (.bool p.isNone) := fun a w hk _ => by
  have hq : c.P.pointee t = e := by simp [Program.pointee, hu]
  simp only [execOp, hop, hk.eval hx, hk.eval hy, eqGuard_at_pointer, pure_bind]
  simp only [Sem.run_bind, run_eql_pointer_nil w t p (by rw [hq]; exact hu)]
  rfl
theorem V_pneqN {x y : Operand} {t e yt : TypeId} {p : Option Addr} (hop : o.op = .binOp .neq t x y yt) (hu : c.P.underlying t = some (.pointer e)) (hx : fev env x = some (.pointer p)) (hy : fev env y = some (.pointer none)) : Val c n env L o (.bool p.isSome) := fun a w hk _ => by
  have hq : c.P.pointee t = e := by simp [Program.pointee, hu]
  simp only [execOp, hop, hk.eval hx, hk.eval hy, eqGuard_at_pointer, pure_bind]
  simp only [Sem.run_bind, run_neq_pointer_nil w t p (by rw [hq]; exact hu)]
  cases p <;> rfl
theorem V_fieldAddr {x : Operand} {t : TypeId} {i b off fo : Nat} {fs : Array Field} {f : Field} {ti : TypeInfo} (hop : o.op = .fieldAddr t x i) (hu : c.P.underlying t = some (.struct fs)) (hf : fs[i]? = some f) (hs : c.P.info? f.type = some ti) (hz : Nat.beq ti.size 0 = false) (hx : fev env x = some (.pointer (some ⟨b, off, none⟩))) (hfo : off + f.offset = fo) :
    Val c n env L o (.pointer (some ⟨b, fo, none⟩)) := fun a w hk _ => by
  have hz' : ¬ ti.size = 0 := fun e => by rw [e] at hz; simp at hz
  subst hfo
  simp [execOp, hop, hk.eval hx, Instr.fieldAt, run_underlying hu, hf, Instr.sureAddr, fieldPlace, sizeOf, typeInfo, hs, hz', Addr.add_lit]
theorem V_indexAddr {x y : Operand} {t e : TypeId} {ti : TypeInfo} {q : IntKind} {b off i j s : Nat} {z : Int} (hop : o.op = .indexAddr t x y) (hu : c.P.underlying t = some (.slice e)) (hs : c.P.info? e = some ti) (hz : ti.size = s) (hx : fev env x = some (.slice (some ⟨b, off, none⟩) i j)) (hy : fev env y = some (.int q z)) (h0 : 0 ≤ z) (h1 : z < i) :
    Val c n env L o (.pointer (some ⟨b, off + z.toNat * s, none⟩)) := fun a w hk _ => by
  subst hz
  simp [execOp, hop, hk.eval hx, hk.eval hy, Instr.indexAt, run_underlying hu, asIntOf, h0, h1, sizeOf, typeInfo, hs, Addr.add_lit]

-- structs
theorem V_field1 {x : Operand} {t : TypeId} {i : Nat} {fs : Array Field} {f : Field} {d : TypeDesc} {cs : Array Value} {v : Value} (hop : o.op = .field t x i) (hu : c.P.underlying t = some (.struct fs)) (hf : fs[i]? = some f) (hd : c.P.underlying f.type = some d) (hd1 : isAggD d = false)
    (hx : fev env x = some (.agg cs)) (hv : nth cs.toList f.offset = some v) : Val c n env L o v := fun a w hk _ => by
  have hv := at_of hv
  have hagg : (isAgg f.type).run c.P w = .ok false w := by
    unfold isAgg
    rw [Sem.run_bind, run_underlying hd w]
    cases d <;> first | rfl | exact Bool.noConfusion hd1
  simp [execOp, hop, hk.eval hx, Instr.field, run_underlying hu, hf, asAgg, part, hagg, hv]
theorem V_fieldA {x : Operand} {t : TypeId} {i : Nat} {fs : Array Field} {f : Field} {ti : TypeInfo} {d : TypeDesc} {cs vs : Array Value} (hop : o.op = .field t x i) (hu : c.P.underlying t = some (.struct fs)) (hf : fs[i]? = some f) (hd : c.P.underlying f.type = some d) (hd1 : isAggD d = true)
    (hs : c.P.info? f.type = some ti) (hx : fev env x = some (.agg cs)) (hv : cs.extract f.offset (f.offset + ti.size) = vs) : Val c n env L o (.agg vs) := fun a w hk _ => by
  have hagg : (isAgg f.type).run c.P w = .ok true w := by
    unfold isAgg
    rw [Sem.run_bind, run_underlying hd w]
    cases d <;> first | rfl | exact Bool.noConfusion hd1
  simp [execOp, hop, hk.eval hx, Instr.field, run_underlying hu, hf, asAgg, part, hagg, sizeOf, typeInfo, hs, hv]

-- memory
theorem V_load1 {x : Operand} {t T : TypeId} {b off : Nat} {cs : Array Value} {fr : Nat × Nat} {d : TypeDesc} {v : Value} (hop : o.op = .load t x) (hx : fev env x = some (.pointer (some ⟨b, off, none⟩))) (hm : (some b, Obj.cells cs T fr) ∈ c.A ++ L) (hv : nth cs.toList off = some v)
    (hd : c.P.underlying t = some d) (hd1 : isAggD d = false) : Val c n env L o v := fun a w hk hmm => by
  have hv := at_of hv
  have hagg : (isAgg t).run c.P w = .ok false w := by
    unfold isAgg
    rw [Sem.run_bind, run_underlying hd w]
    cases d <;> first | rfl | exact Bool.noConfusion hd1
  have hc : w.cell? ⟨b, off, none⟩ = some v := by rw [cell_of_row w b off cs T fr (hmm.has.both hm)]; exact hv
  simp [execOp, hop, hk.eval hx, Instr.loadAt, Instr.sureAddr, loadVar, hagg, hc]
theorem V_loadA {x : Operand} {t T : TypeId} {b off : Nat} {cs vs : Array Value} {fr : Nat × Nat} {d : TypeDesc} {ti : TypeInfo} (hop : o.op = .load t x) (hx : fev env x = some (.pointer (some ⟨b, off, none⟩))) (hm : (some b, Obj.cells cs T fr) ∈ c.A ++ L)
    (hd : c.P.underlying t = some d) (hd1 : isAggD d = true) {s : Nat} (hs : c.P.info? t = some ti) (hz : ti.size = s) (hv : cs.extract off (off + s) = vs) (hl : vs.size = s) : Val c n env L o (.agg vs) := fun a w hk hmm => by
  subst hz
  have hagg : (isAgg t).run c.P w = .ok true w := by
    unfold isAgg
    rw [Sem.run_bind, run_underlying hd w]
    cases d <;> first | rfl | exact Bool.noConfusion hd1
  have hw := hmm.has.both hm
  have h1 : (loadCells ⟨b, off, none⟩ vs.toList.length).run c.P w = .ok vs.toList.toArray w :=
    run_loadCells_list (P := c.P) w ⟨b, off, none⟩ vs.toList (fun j v hj => by
      rw [Addr.add_lit, cell_of_row w b (off + j) cs T fr hw]
      have hj' : vs[j]? = some v := by simpa using hj
      rw [← hv, Array.getElem?_extract] at hj'
      split at hj'
      · exact hj'
      · cases hj')
  simp only [Array.length_toList, Array.toArray_toList, hl] at h1
  simp [execOp, hop, hk.eval hx, Instr.loadAt, Instr.sureAddr, loadVar, hagg, sizeOf, typeInfo, hs, h1]
/-- A whole variable. -/
theorem V_loadW {x : Operand} {t T : TypeId} {b : Nat} {cs : Array Value} {fr : Nat × Nat} {d : TypeDesc} {ti : TypeInfo} (hop : o.op = .load t x) (hx : fev env x = some (.pointer (some ⟨b, 0, none⟩))) (hm : (some b, Obj.cells cs T fr) ∈ c.A ++ L)
    (hd : c.P.underlying t = some d) (hd1 : isAggD d = true) {s : Nat} (hs : c.P.info? t = some ti) (hz : ti.size = s) (hl : cs.size = s) : Val c n env L o (.agg cs) :=
  V_loadA hop hx hm hd hd1 hs hz (by rw [Nat.zero_add, ← hl]; simp) hl
theorem RV_cell {x : Tmp} {t T : TypeId} {b : Nat} {cs : Array Value} {fr : Nat × Nat} {d : TypeDesc} {ti : TypeInfo} (hx : fget env x = some (.pointer (some ⟨b, 0, none⟩))) (hm : (some b, Obj.cells cs T fr) ∈ c.A ++ L)
    (hd : c.P.underlying t = some d) (hd1 : isAggD d = true) {s : Nat} (hs : c.P.info? t = some ti) (hz : ti.size = s) (hl : cs.size = s) : RV c n env L (.cell x t) (.agg cs) := fun a w hk hmm => by
  subst hz
  have hg := hmm.has.both hm
  have h1 := hk.get _ _ hx
  have h2 := run_loadVar_row (P := c.P) w b T t cs fr d hg hd (by cases d <;> first | rfl | exact Bool.noConfusion hd1) (by rw [hs, hl]; rfl)
  show ((do loadVar t (← asAddr (a.tmps.getD x undef))) : Sem Value).run c.P w = _
  rw [h1]
  simp [asAddr, h2]
theorem RV_cell1 {x : Tmp} {t T : TypeId} {b off : Nat} {cs : Array Value} {fr : Nat × Nat} {d : TypeDesc} {v : Value} (hx : fget env x = some (.pointer (some ⟨b, off, none⟩))) (hm : (some b, Obj.cells cs T fr) ∈ c.A ++ L) (hv : nth cs.toList off = some v)
    (hd : c.P.underlying t = some d) (hd1 : isAggD d = false) : RV c n env L (.cell x t) v := fun a w hk hmm => by
  have hv := at_of hv
  have hg := hmm.has.both hm
  have h1 := hk.get _ _ hx
  have hagg : (isAgg t).run c.P w = .ok false w := by
    unfold isAgg
    rw [Sem.run_bind, run_underlying hd w]
    cases d <;> first | rfl | exact Bool.noConfusion hd1
  have hc : w.cell? ⟨b, off, none⟩ = some v := by rw [cell_of_row w b off cs T fr hg]; exact hv
  show ((do loadVar t (← asAddr (a.tmps.getD x undef))) : Sem Value).run c.P w = _
  rw [h1]
  simp [asAddr, loadVar, hagg, hc]

-- new blocks
theorem N_box {x : Operand} {T : TypeId} {v : Value} (hop : o.op = .box T x) (hx : fev env x = some v) : New c n env L o (fun b => .pointer (some ⟨b, 0, none⟩)) (.cells v.cells T) := fun a w hk _ => by
  simp [execOp, hop, hk.eval hx, Instr.box, newVar, newRow]
theorem N_boxA {x : Operand} {T : TypeId} {cs : Array Value} (hop : o.op = .box T x) (hx : fev env x = some (.agg cs)) : New c n env L o (fun b => .pointer (some ⟨b, 0, none⟩)) (.cells cs T (0, 0)) := N_box hop hx
theorem N_alloc {T : TypeId} {ti : TypeInfo} {v : Value} {cs : Array Value} (hop : o.op = .alloc T) (hs : c.P.info? T = some ti) (hz : ti.zero = some v) (hcs : v.cells = cs) : New c n env L o (fun b => .pointer (some ⟨b, 0, none⟩)) (.cells cs T) := fun a w hk _ => by
  subst hcs
  simp [execOp, hop, Instr.alloc, zeroValue, typeInfo, hs, hz, newVar, newRow]
theorem N_allocA {T : TypeId} {ti : TypeInfo} {cs : Array Value} (hop : o.op = .alloc T) (hs : c.P.info? T = some ti) (hz : ti.zero = some (.agg cs)) : New c n env L o (fun b => .pointer (some ⟨b, 0, none⟩)) (.cells cs T (0, 0)) := N_alloc hop hs hz rfl
theorem N_alloc1 {T : TypeId} {ti : TypeInfo} {v : Value} (hop : o.op = .alloc T) (hs : c.P.info? T = some ti) (hz : ti.zero = some v) (hv : v.cells = #[v]) : New c n env L o (fun b => .pointer (some ⟨b, 0, none⟩)) (.cells #[v] T (0, 0)) := N_alloc hop hs hz hv
theorem N_box1 {x : Operand} {T : TypeId} {v : Value} (hop : o.op = .box T x) (hx : fev env x = some v) (hv : v.cells = #[v]) : New c n env L o (fun b => .pointer (some ⟨b, 0, none⟩)) (.cells #[v] T (0, 0)) := hv ▸ N_box hop hx
theorem N_range {x : Operand} {t : TypeId} {s : ByteArray} (hop : o.op = .range t x) (hu : c.P.underlying t = some .string) (hx : fev env x = some (.string s)) : New c n env L o (fun b => .pointer (some ⟨b, 0, none⟩)) (.stringIter s 0) := fun a w hk _ => by
  simp [execOp, hop, hk.eval hx, Instr.range, run_underlying hu]

-- stores
theorem P_store1 {x y : Operand} {t T : TypeId} {b off : Nat} {cs : Array Value} {ti : TypeInfo} {v : Value} (hop : o.op = .store t x y) (hx : fev env x = some (.pointer (some ⟨b, off, none⟩))) (hy : fev env y = some v) (hm : (some b, Obj.cells cs T (0, 0)) ∈ L) (hoff : off < cs.size)
    (hs : c.P.info? t = some ti) (h1 : ti.size = 1) (hv : v.oneCell' = true) : Put c n env L o b (.cells (cs.setIfInBounds off v) T (0, 0)) := fun a w hk hmm => by
  have hw := hmm.lies hm
  have hc : w.cell? ⟨b, off, none⟩ = some cs[off] := by rw [cell_of_row w b off cs T (0, 0) hw]; simp [hoff]
  have hf := frozen_of_row w b off cs T hw
  have hcells : v.cells = #[v] := by cases v <;> first | rfl | simp [Value.oneCell'] at hv
  refine ⟨w.setCell ⟨b, off, none⟩ v, ?_, rfl, rfl, rfl, by simp, heap_setCell_same w b off cs T v hw, fun k hne => heap_setCell_other w _ k v hne⟩
  have hst : (storeVar t ⟨b, off, none⟩ v).run c.P w = .ok () (w.setCell ⟨b, off, none⟩ v) := by
    simp [storeVar, sizeOf, typeInfo, hs, h1, hcells, storeCells, Addr.add_zero', run_store _ _ _ _ _ hv, hc, hf]
  simp [execOp, hop, hk.eval hx, hk.eval hy, Instr.storeAt, Instr.sureAddr, hst]
theorem P_storeA {x y : Operand} {t T : TypeId} {b : Nat} {cs vs : Array Value} {ti : TypeInfo} (hop : o.op = .store t x y) (hx : fev env x = some (.pointer (some ⟨b, 0, none⟩))) (hy : fev env y = some (.agg vs)) (hm : (some b, Obj.cells cs T (0, 0)) ∈ L) (hsz : cs.size = vs.size)
    {s : Nat} (hs : c.P.info? t = some ti) (hz : ti.size = s) (h1 : vs.size = s) (hv : vs.all (·.oneCell') = true) : Put c n env L o b (.cells vs T (0, 0)) := fun a w hk hmm => by
  subst hz
  have hw := hmm.lies hm
  have hst := run_storeVar_row (P := c.P) w b T t cs vs hw (by rw [hs, h1]; rfl) hsz hv
  refine ⟨w.setRow b vs, ?_, rfl, rfl, rfl, by simp, setRow_heap w b cs vs T _ hw, fun k hne => setRow_other w b k vs hne⟩
  simp [execOp, hop, hk.eval hx, hk.eval hy, Instr.storeAt, Instr.sureAddr, hst]
end
end Go.Proofs.YtbblkgdejgoncaaGreatDoor

/- More steps: decided truths, drawn regions that only read, closures, further operations. No program in sight. -/
set_option linter.unusedSimpArgs false
set_option linter.unusedVariables false
namespace Go.Proofs.YtbblkgdejgoncaaGreatDoor
open Go Go.RowKit

theorem mem_at {L : List (Option Nat × Obj)} {x : Option Nat × Obj} (k : Nat) (h : L[k]? = some x) : x ∈ L := List.mem_of_getElem? h
theorem slot_int {q : IntKind} {a b : Int} (h : a = b) : some (Value.int q a) = some (Value.int q b) := by rw [h]
theorem slot_str {a b : List UInt8} (h : a = b) : some (Value.string (bs a)) = some (Value.string (bs b)) := by rw [h]
theorem int_eq {q : IntKind} {a b : Int} (h : a = b) : Value.int q a = Value.int q b := by rw [h]
theorem str_eq {a b : List UInt8} (h : a = b) : Value.string (bs a) = Value.string (bs b) := by rw [h]
theorem bool_eq {a b : Bool} (h : a = b) : Value.bool a = Value.bool b := by rw [h]

section
variable {c : Cx} {n : Nat} {env : List (Nat × Value)} {L : List (Option Nat × Obj)} {k : List Item} {o : Oper}

theorem G_ifD {x : Operand} {p q : Code} {t : Prop} {inst : Decidable t} (hx : fev env x = some (.bool (decide t))) (hT : t → G c n env L (.code p :: k)) (hF : ¬ t → G c n env L (.code q :: k)) : G c n env L (.code (.cond x p q) :: k) := by
  by_cases h : t
  · exact G_then (by rw [hx]; simp [h]) (hT h)
  · exact G_else (by rw [hx]; simp [h]) (hF h)
theorem G_splitD {todo : List Item} (d : Nat) {t : Prop} {inst : Decidable t} (hx : fget env d = some (.bool (decide t))) (hT : t → G c n ((d, .bool true) :: env) L todo) (hF : ¬ t → G c n ((d, .bool false) :: env) L todo) : G c n env L todo :=
  G_split d hx (fun h => hT (of_decide_eq_true h)) (fun h => hF (of_decide_eq_false h))

theorem goes_of_wp {code : Code} {a : Act} {w : World} (h : code.wp c.P (fun e a' w' => e = .normal ∧ GoesTo c k a' w') a w) : GoesTo c (.code code :: k) a w := by
  intro b hb hk cs
  obtain ⟨e, a', w', ⟨rfl, hg⟩, harr⟩ := h b k cs
  obtain ⟨v, p, w2, fr, hR, hm, hst, e⟩ := hg b hb hk cs
  exact ⟨v, p, w2, fr, hR, hm, Steps.trans harr hst, e⟩

/-- The rest of a drawn region, in the order of the text, each operation quiet. -/
def GQ (c : Cx) (n : Nat) (ops : Array Oper) (env : List (Nat × Value)) (L : List (Option Nat × Obj)) (i : Nat) (k : List Item) : Prop :=
  ∀ a, Knows c.ds n env a → wpQuiet c.P ops (fun w => Mem c.w0 c.A c.S L w) (fun a' => ∀ w', Mem c.w0 c.A c.S L w' → GoesTo c k a' w') (ops.toList.drop i) a

theorem G_draw {id : Nat} {ops : Array Oper} (hm : c.P.follows .mixedOrders = true) (hB : Region.lexB .any ops = true) (h : GQ c n ops env L 0 k) : G c n env L (.code (.region id ops true) :: k) := by
  intro a w hk hmm
  refine goes_of_wp (wp_region_quiet (C := fun w => Mem c.w0 c.A c.S L w) hm hB (hmm.drew _) ?_)
  have h1 := h a hk
  rw [List.drop_zero] at h1
  have conv : ∀ (l : List Oper) (a : Act), wpQuiet c.P ops (fun w => Mem c.w0 c.A c.S L w) (fun a' => ∀ w', Mem c.w0 c.A c.S L w' → GoesTo c k a' w') l a →
      wpQuiet c.P ops (fun w => Mem c.w0 c.A c.S L w) (fun a' => ∀ w', Mem c.w0 c.A c.S L w' → (Exit.normal = .normal ∧ GoesTo c k a' w')) l a := by
    intro l
    induction l with
    | nil => exact fun a h w' hw => ⟨rfl, h w' hw⟩
    | cons o l ih =>
      intro a h
      unfold wpQuiet at h ⊢
      split
      · rename_i hw
        rw [if_pos hw] at h
        obtain ⟨v, h1, h2⟩ := h
        exact ⟨v, h1, ih _ h2⟩
      · rename_i hw
        rw [if_neg hw] at h
        exact ih _ h
  exact conv _ _ h1

theorem drop_at {ops : Array Oper} {i : Nat} {o : Oper} (ho : ops[i]? = some o) : ops.toList.drop i = o :: ops.toList.drop (i + 1) := by
  have h : i < ops.toList.length := by
    have := (Array.getElem?_eq_some_iff.1 ho).1
    simpa using this
  rw [List.drop_eq_getElem_cons h]
  have := (Array.getElem?_eq_some_iff.1 ho).2
  simp [this]

theorem GQ_done {ops : Array Oper} {i : Nat} (hi : Nat.ble ops.size i = true) (h : G c n env L k) : GQ c n ops env L i k := by
  intro a hk
  have hi : ops.size ≤ i := by simpa using hi
  rw [List.drop_eq_nil_of_le (by simpa using hi)]
  exact fun w' hm => h a w' hk hm
theorem GQ_val {ops : Array Oper} {i : Nat} {d : Nat} {v : Value} (ho : ops[i]? = some o) (hd : o.dst = some d) (hn : Nat.blt d n = true) (hg : fguard ops env o = some true)
    (hv : Val c n env L o v) (h : GQ c n ops ((d, v) :: env) L (i + 1) k) : GQ c n ops env L i k := by
  intro a hk
  rw [drop_at ho]
  simp only [wpQuiet]
  rw [if_pos (wanted_of hk hg)]
  refine ⟨v, fun w hm => ?_, ?_⟩
  · unfold Oper.quietAt
    rw [hv a w hk hm]
    exact ⟨rfl, rfl⟩
  · rw [hd]
    exact h _ (hk.put hn v)
theorem GQ_off {ops : Array Oper} {i : Nat} {d : Nat} (ho : ops[i]? = some o) (hd : o.dst = some d) (hn : Nat.blt d n = true) (hg : fguard ops env o = some false)
    (h : GQ c n ops ((d, undef) :: env) L (i + 1) k) : GQ c n ops env L i k := by
  intro a hk
  rw [drop_at ho]
  simp only [wpQuiet]
  rw [if_neg (by rw [wanted_of hk hg]; exact Bool.false_ne_true), hd]
  exact h _ (hk.put hn undef)
theorem GQ_call {ops : Array Oper} {i : Nat} {d : Nat} {g : FuncId} {xs : Array Operand} {ts : Array TypeId} {args : List Value} {A' : List (Option Nat × Obj)} {R' : Value → List (Option Nat × Obj) → Prop} {v0 : Value}
    (ho : ops[i]? = some o) (hd : o.dst = some d) (hn : Nat.blt d n = true) (hg : fguard ops env o = some true) (hop : o.op = .call ⟨.value (.func g), xs, ts⟩) (hxs : fevs env xs.toList = some args)
    (hcf : ∀ (az : Array Value) w, (callFunc g az).run c.P w = .ok (.enter g az) w) (hct : Ct c.P g args A' [] R') (js : List Nat) (hA : pk js (c.A ++ L) = some A') (hv : ∀ v post, R' v post → v = v0)
    (h : GQ c n ops ((d, v0) :: env) L (i + 1) k) : GQ c n ops env L i k := by
  intro a hk
  rw [drop_at ho]
  simp only [wpQuiet]
  rw [if_pos (wanted_of hk hg)]
  refine ⟨v0, fun w hm => ?_, ?_⟩
  · have hx : xs.map a.eval = args.toArray := by
      apply Array.toList_inj.1
      simpa using hk.evals hxs
    have hr : (execOp a.eval o).run c.P w = .ok (.enter g args.toArray) w := by
      unfold execOp
      simp [hop, resolve, Act.eval, Deferred.ofValue, hx, invoke, hcf]
    unfold Oper.quietAt
    rw [hr]
    have hL : tk [] L = some ([], L) := rfl
    refine ⟨rfl, (hct w (hm.has_call hL hA)).mono fun e w' ⟨v, post, he, hR, hp⟩ => ?_⟩
    have := hv v post hR
    subst this
    exact ⟨he, (hm.call hL hA hp).sub (L' := L) List.perm_append_comm⟩
  · rw [hd]
    exact h _ (hk.put hn v0)
theorem GQ_split {ops : Array Oper} {i : Nat} (d : Nat) {t : Bool} (hx : fget env d = some (.bool t)) (hT : t = true → GQ c n ops ((d, .bool true) :: env) L i k) (hF : t = false → GQ c n ops ((d, .bool false) :: env) L i k) : GQ c n ops env L i k := by
  have key : GQ c n ops ((d, .bool t) :: env) L i k := by
    cases t
    · exact hF rfl
    · exact hT rfl
  refine fun a hk => key a ⟨hk.size, hk.defers, fun u v hu => hk.get u v ?_⟩
  rw [fget_cons] at hu
  by_cases e : d = u
  · rw [if_pos e] at hu
    subst e
    rw [hx, hu]
  · rwa [if_neg e] at hu
theorem GQ_splitD {ops : Array Oper} {i : Nat} (d : Nat) {t : Prop} {inst : Decidable t} (hx : fget env d = some (.bool (decide t))) (hT : t → GQ c n ops ((d, .bool true) :: env) L i k) (hF : ¬ t → GQ c n ops ((d, .bool false) :: env) L i k) : GQ c n ops env L i k :=
  GQ_split d hx (fun h => hT (of_decide_eq_true h)) (fun h => hF (of_decide_eq_false h))

-- closures
theorem G_callC {ops : Array Oper} {i : Nat} {rest : List Nat} {d : Nat} {g : FuncId} {x : Operand} {xs : Array Operand} {ts : Array TypeId} {args vs : List Value} {A' L' L2 : List (Option Nat × Obj)} {R' : Value → List (Option Nat × Obj) → Prop}
    (ho : ops[i]? = some o) (hd : o.dst = some d) (hn : Nat.blt d n = true) (hg : fguard ops env o = some true) (hop : o.op = .call ⟨.value x, xs, ts⟩) (hxs : fevs env xs.toList = some args)
    (hcf : ∀ (az : Array Value) w, (callFunc g az).run c.P w = .ok (.enter g az) w) (hfn : fev env x = some (.func (.func g) #[] vs.toArray)) (hct : Ct c.P g (args ++ vs) A' L' R') (is js : List Nat) (hL : tk is L = some (L', L2)) (hA : pk js (c.A ++ L2) = some A')
    (K : ∀ v post, R' v post → G c n ((d, v) :: env) (post ++ L2) (.inRegion ops rest :: k)) : G c n env L (.inRegion ops (i :: rest) :: k) := by
  intro a w hk hm
  refine goes_op ho (wanted_of hk hg) ?_
  have hx : xs.map a.eval = args.toArray := by
    apply Array.toList_inj.1
    simpa using hk.evals hxs
  have hr : (execOp a.eval o).run c.P w = .ok (.enter g (args ++ vs).toArray) w := by
    unfold execOp
    simp only [hop, resolve, hk.eval hfn, hx]
    simp [Deferred.ofValue, invoke, hcf]
  rw [hr, Oper.upon_enter]
  refine (hct w (hm.has_call hL hA)).mono fun e w' ⟨v, post, he, hR, hp⟩ => ?_
  subst he
  simp only [hd]
  exact K v post hR _ w' (hk.put hn v) (hm.call hL hA hp)

-- integers
section
variable {x y : Operand} {t yt : TypeId} {q : IntKind} {p r : Int}
def bitsOp (op : BinOp) (q : IntKind) (p r : Int) : Int := match op with
  | .and => q.wrap ((BitVec.ofInt q.bits p &&& BitVec.ofInt q.bits r).toNat : Int)
  | .or => q.wrap ((BitVec.ofInt q.bits p ||| BitVec.ofInt q.bits r).toNat : Int)
  | .xor => q.wrap ((BitVec.ofInt q.bits p ^^^ BitVec.ofInt q.bits r).toNat : Int)
  | .andNot => q.wrap ((BitVec.ofInt q.bits p &&& ~~~ BitVec.ofInt q.bits r).toNat : Int)
  | _ => 0
theorem V_bits (bop : BinOp) (hop : o.op = .binOp bop t x y yt) (hx : fev env x = some (.int q p)) (hy : fev env y = some (.int q r)) (hb : (bop == .and || bop == .or || bop == .xor || bop == .andNot) = true) : Val c n env L o (.int q (bitsOp bop q p r)) := fun a w hk _ => by
  simp only [execOp, hop, hk.eval hx, hk.eval hy, eqGuard_at_int, pure_bind]
  cases bop <;> first
    | (simp only [binOp_and, binOp_or, binOp_xor, binOp_andNot]; rfl)
    | exact absurd hb (by decide)
theorem V_min {xs : Array TypeId} {ty : TypeId} {ps : String} {es : Array Edge} {gd : Option (Nat × Bool)} {d : Option Tmp} (hop : o = ⟨d, .call ⟨.builtin .min, #[x, y], xs⟩, ty, ps, es, gd⟩) (hx : fev env x = some (.int q p)) (hy : fev env y = some (.int q r)) : Val c n env L o (.int q (min p r)) := fun a w hk _ => by
  subst hop
  have e : (if r < p then r else p) = min p r := by split <;> omega
  simp [execOp, hk.eval hx, hk.eval hy, resolve, invoke, builtin, Builtin.min_, Builtin.min2, e]
theorem V_max {xs : Array TypeId} {ty : TypeId} {ps : String} {es : Array Edge} {gd : Option (Nat × Bool)} {d : Option Tmp} (hop : o = ⟨d, .call ⟨.builtin .max, #[x, y], xs⟩, ty, ps, es, gd⟩) (hx : fev env x = some (.int q p)) (hy : fev env y = some (.int q r)) : Val c n env L o (.int q (max p r)) := fun a w hk _ => by
  subst hop
  have e : (if p < r then r else p) = max p r := by split <;> omega
  have e' : (if r > p then r else p) = max p r := by split <;> omega
  simp [execOp, hk.eval hx, hk.eval hy, resolve, invoke, builtin, Builtin.max_, Builtin.max2, e, e']
end

-- texts
theorem V_sindexD {x y : Operand} {t : TypeId} {l : List UInt8} {q : IntKind} {i : Int} (hop : o.op = .index t x y) (hu : c.P.underlying t = some .string) (hx : fev env x = some (.string (bs l))) (hy : fev env y = some (.int q i)) (h0 : 0 ≤ i) (hv : i.toNat < l.length) : Val c n env L o (.int .u8 ((l.getD i.toNat 0).toNat : Int)) :=
  V_sindex hop hu hx hy h0 (by simp [List.getD, List.getElem?_eq_getElem hv])
theorem V_sindexN {x y : Operand} {t : TypeId} {l : List UInt8} {q : IntKind} {i : Int} {j : Nat} (hop : o.op = .index t x y) (hu : c.P.underlying t = some .string) (hx : fev env x = some (.string (bs l))) (hy : fev env y = some (.int q i)) (hj : i = (j : Int)) (hv : j < l.length) : Val c n env L o (.int .u8 ((l.getD j 0).toNat : Int)) := by
  subst hj
  exact V_sindexD hop hu hx hy (by omega) (by simpa using hv)
theorem V_ssliceN {x xl xh : Operand} {t : TypeId} {l : List UInt8} {zl zh : Int} {lo hi : Nat} {q q' : IntKind} (hop : o.op = .slice t x (some xl) (some xh) none) (hu : c.P.underlying t = some .string) (hx : fev env x = some (.string (bs l))) (hl : fev env xl = some (.int q zl)) (hh : fev env xh = some (.int q' zh))
    (el : zl = (lo : Int)) (eh : zh = (hi : Int)) (h1 : lo ≤ hi) (h2 : hi ≤ l.length) : Val c n env L o (.string (bs ((l.take hi).drop lo))) := by
  subst el eh
  have := V_sslice (c := c) (n := n) (L := L) hop hu hx hl hh (by omega) (by omega) (by omega)
  simpa using this
theorem V_ssliceLN {x xl : Operand} {t : TypeId} {l : List UInt8} {zl : Int} {lo : Nat} {q : IntKind} (hop : o.op = .slice t x (some xl) none none) (hu : c.P.underlying t = some .string) (hx : fev env x = some (.string (bs l))) (hl : fev env xl = some (.int q zl))
    (el : zl = (lo : Int)) (h1 : lo ≤ l.length) : Val c n env L o (.string (bs (l.drop lo))) := by
  subst el
  have := V_ssliceL (c := c) (n := n) (L := L) hop hu hx hl (by omega) (by omega)
  simpa using this
theorem V_ssliceHN {x xh : Operand} {t : TypeId} {l : List UInt8} {zh : Int} {hi : Nat} {q' : IntKind} (hop : o.op = .slice t x none (some xh) none) (hu : c.P.underlying t = some .string) (hx : fev env x = some (.string (bs l))) (hh : fev env xh = some (.int q' zh))
    (eh : zh = (hi : Int)) (h2 : hi ≤ l.length) : Val c n env L o (.string (bs (l.take hi))) := by
  subst eh
  have := V_ssliceH (c := c) (n := n) (L := L) hop hu hx hh (by omega) (by omega)
  simpa using this
theorem formed_of {P : Program} {t : TypeId} {d : TypeDesc} {cs : Array Value} (hu : P.underlying t = some d) (hd : isAggD d = true) {s : Nat} (hs : P.cellsOf t = s) (h : cs.size = s) : (Value.agg cs).formed P t = true := by
  subst hs
  unfold Value.formed
  rw [hu]
  cases d <;> first | (simp [h]; done) | exact Bool.noConfusion hd
theorem V_indexAddrN {x y : Operand} {t e : TypeId} {ti : TypeInfo} {q : IntKind} {b off i j s : Nat} {z : Int} {m : Nat} (hop : o.op = .indexAddr t x y) (hu : c.P.underlying t = some (.slice e)) (hs : c.P.info? e = some ti) (hz : ti.size = s) (hx : fev env x = some (.slice (some ⟨b, off, none⟩) i j)) (hy : fev env y = some (.int q z)) (hm : z = (m : Int)) (h1 : m < i) :
    Val c n env L o (.pointer (some ⟨b, off + m * s, none⟩)) := by
  subst hm
  have := V_indexAddr (c := c) (n := n) (L := L) hop hu hs hz hx hy (by omega) (by omega)
  simpa using this
theorem V_build {t : TypeId} {parts : Array (Nat × Operand)} {vs : List Value} {cs : Array Value} (hop : o.op = .build t parts) (hx : fevs env (parts.toList.map (·.2)) = some vs) (hb : c.P.built t ((parts.toList.map (·.1)).zip vs) = some cs) : Val c n env L o (.agg cs) := fun a w hk _ => by
  have h1 := hk.evals hx
  have h2 : (parts.map fun (i, x) => (i, a.eval x)).toList = (parts.toList.map (·.1)).zip vs := by
    rw [← h1]
    simp only [Array.toList_map, List.map_map]
    generalize parts.toList = ps
    induction ps with
    | nil => rfl
    | cons p ps ih => simp [ih]
  simp only [execOp, hop]
  rw [Sem.run_bind, run_build w t _ cs (by rw [h2]; exact hb)]
  rfl
theorem V_convS {x : Operand} {t u : TypeId} {s : ByteArray} (hop : o.op = .convert t u x) (hx : fev env x = some (.string s)) (ht : c.P.underlying t = some .string) (hu : c.P.underlying u = some .string) : Val c n env L o (.string s) := fun a w hk _ => by
  simp [execOp, hop, hk.eval hx, convert, run_underlying ht, run_underlying hu]
end
end Go.Proofs.YtbblkgdejgoncaaGreatDoor

/- Drawn regions in which blocks are made and written: what only reads is taken first, of the others every one that may come comes. No program in sight. -/
set_option linter.unusedSimpArgs false
set_option linter.unusedVariables false
namespace Go.Proofs.YtbblkgdejgoncaaGreatDoor
open Go Go.RowKit

section
variable {c : Cx} {n : Nat} {ops : Array Oper} {Lq : List (Option Nat × Obj)} {fuel : Nat} {listed : Array Bool} {env : List (Nat × Value)} {L : List (Option Nat × Obj)} {k : List Item} {o : Oper}

def HQ (c : Cx) (k : List Item) (e : Exit) (a : Act) (w : World) : Prop := e = .normal ∧ GoesTo c k a w
def HS (c : Cx) (Lq : List (Option Nat × Obj)) (w : World) : Prop := Has w c.A Lq

def GH (c : Cx) (n : Nat) (ops : Array Oper) (Lq : List (Option Nat × Obj)) (fuel : Nat) (listed : Array Bool) (env : List (Nat × Value)) (L : List (Option Nat × Obj)) (k : List Item) : Prop :=
  ∀ a w, Knows c.ds n env a → Mem c.w0 c.A c.S L w → HS c Lq w → wpAnyH c.P .any ops (HQ c k) (HS c Lq) fuel listed a w

def GHop (c : Cx) (n : Nat) (ops : Array Oper) (Lq : List (Option Nat × Obj)) (fuel : Nat) (listed : Array Bool) (env : List (Nat × Value)) (L : List (Option Nat × Obj)) (k : List Item) (i : Nat) : Prop :=
  ∀ a w, Knows c.ds n env a → Mem c.w0 c.A c.S L w → HS c Lq w → wpOp c.P ops (HQ c k) i (fun a' w' => HS c Lq w' ∧ wpAnyH c.P .any ops (HQ c k) (HS c Lq) fuel (listed.setIfInBounds i true) a' w') a w
def GHops (c : Cx) (n : Nat) (ops : Array Oper) (Lq : List (Option Nat × Obj)) (fuel : Nat) (listed : Array Bool) (env : List (Nat × Value)) (L : List (Option Nat × Obj)) (k : List Item) : List Nat → Prop
  | [] => True
  | i :: is => GHop c n ops Lq fuel listed env L k i ∧ GHops c n ops Lq fuel listed env L k is
theorem GHops.mem {is : List Nat} (h : GHops c n ops Lq fuel listed env L k is) : ∀ i ∈ is, GHop c n ops Lq fuel listed env L k i := by
  induction is with
  | nil => exact fun i hi => by cases hi
  | cons j is ih =>
    intro i hi
    rcases List.mem_cons.1 hi with e | hi
    · subst e; exact h.1
    · exact ih h.2 i hi

theorem hs_of {w : World} {isq : List Nat} {M : List (Option Nat × Obj)} (hm : Mem c.w0 c.A c.S L w) (hq : tk isq L = some (Lq, M)) : HS c Lq w := (hm.sub (tk_perm hq)).has

theorem GH_start {id : Nat} {isq : List Nat} {M : List (Option Nat × Obj)} {m : Nat} (hm : c.P.follows .mixedOrders = true) (hq : tk isq L = some (Lq, M)) (hz : ops.size = m) (h : GH c n ops Lq m (Array.replicate m false) env L k) : G c n env L (.code (.region id ops true) :: k) := by
  intro a w hk hmm
  subst hz
  exact goes_of_wp (wp_region_held (S := HS c Lq) hm (h a _ hk (hmm.drew _) (hs_of (hmm.drew _) hq)))

theorem GH_done (hr : Region.ready .any ops listed = []) (h : G c n env L k) : GH c n ops Lq fuel listed env L k :=
  fun a w hk hm _ => wpAnyH_done hr ⟨rfl, h a w hk hm⟩ fuel

/-- What is done behind the region, once, for all orders. -/
theorem GH_join {X : Type} (E : X → List (Nat × Value)) (H : X → List (Option Nat × Obj)) (rest : ∀ x, G c n (E x) (H x) k) (h : (∀ x, G c n (E x) (H x) k) → GH c n ops Lq fuel listed env L k) : GH c n ops Lq fuel listed env L k := h rest
theorem Val.held {v : Value} (hv : ∀ w0 S, Val ⟨c.P, c.f, w0, c.A, S, c.R, c.ds⟩ n env Lq o v) {a : Act} (hk : Knows c.ds n env a) (w : World) (hw : HS c Lq w) : (execOp a.eval o).run c.P w = .ok (.value v) w :=
  hv w (hkeys Lq) a w hk ⟨hw, fun b o hm => .inl (mem_hkeys.2 ⟨o, hm⟩), Chg.refl _ _⟩

theorem GH_take (i : Nat) {d : Nat} {v : Value} (ho : ops[i]? = some o) (hd : o.dst = some d) (hn : Nat.blt d n = true) (hg : fguard ops env o = some true)
    (hs : Region.noSelect ops = true) (hf : Region.free .any ops listed i = true) (hr : (Region.ready .any ops listed).contains i = true)
    (hv : ∀ w0 S, Val ⟨c.P, c.f, w0, c.A, S, c.R, c.ds⟩ n env Lq o v) (h : GH c n ops Lq fuel (listed.setIfInBounds i true) ((d, v) :: env) L k) : GH c n ops Lq (fuel + 1) listed env L k := by
  intro a w hk hm hw
  refine wpAnyH_take ho hs hf hr (fun _ _ _ h => absurd h.1 (by simp)) (.inl ⟨wanted_of hk hg, fun w' hw' => Val.held hv hk w' hw'⟩) hw ?_
  rw [hd]
  exact h _ w (hk.put hn v) hm hw
theorem GH_takeOff (i : Nat) {d : Nat} (ho : ops[i]? = some o) (hd : o.dst = some d) (hn : Nat.blt d n = true) (hg : fguard ops env o = some false)
    (hs : Region.noSelect ops = true) (hf : Region.free .any ops listed i = true) (hr : (Region.ready .any ops listed).contains i = true)
    (h : GH c n ops Lq fuel (listed.setIfInBounds i true) ((d, undef) :: env) L k) : GH c n ops Lq (fuel + 1) listed env L k := by
  intro a w hk hm hw
  refine wpAnyH_take ho hs hf hr (fun _ _ _ h => absurd h.1 (by simp)) (.inr ⟨wanted_of hk hg, rfl⟩) hw ?_
  rw [hd]
  exact h _ w (hk.put hn undef) hm hw
theorem GH_all (rs : List Nat) (hr : Region.ready .any ops listed = rs) (hne : rs ≠ []) (h : GHops c n ops Lq fuel listed env L k rs) : GH c n ops Lq (fuel + 1) listed env L k :=
  fun a w hk hm hw => wpAnyH_all hr hne fun i hi => h.mem i hi a w hk hm hw
theorem GH_split (d : Nat) {t : Bool} (hx : fget env d = some (.bool t)) (hT : t = true → GH c n ops Lq fuel listed ((d, .bool true) :: env) L k) (hF : t = false → GH c n ops Lq fuel listed ((d, .bool false) :: env) L k) : GH c n ops Lq fuel listed env L k := by
  have key : GH c n ops Lq fuel listed ((d, .bool t) :: env) L k := by
    cases t
    · exact hF rfl
    · exact hT rfl
  refine fun a w hk hm => key a w ⟨hk.size, hk.defers, fun u v hu => hk.get u v ?_⟩ hm
  rw [fget_cons] at hu
  by_cases e : d = u
  · rw [if_pos e] at hu
    subst e
    rw [hx, hu]
  · rwa [if_neg e] at hu
theorem GH_splitD (d : Nat) {t : Prop} {inst : Decidable t} (hx : fget env d = some (.bool (decide t))) (hT : t → GH c n ops Lq fuel listed ((d, .bool true) :: env) L k) (hF : ¬ t → GH c n ops Lq fuel listed ((d, .bool false) :: env) L k) : GH c n ops Lq fuel listed env L k :=
  GH_split d hx (fun h => hT (of_decide_eq_true h)) (fun h => hF (of_decide_eq_false h))

theorem ghop_of {i : Nat} {a : Act} {w : World} {K : Act → World → Prop} (ho : ops[i]? = some o) (hw : Region.wanted o (yielded ops a.tmps) = true) (h : o.upon c.P a K (HQ c k) ((execOp a.eval o).run c.P w)) : wpOp c.P ops (HQ c k) i K a w := by
  unfold wpOp
  rw [ho]
  simp only
  rw [if_pos hw]
  exact .inl h

theorem GHop_val {i d : Nat} {v : Value} (ho : ops[i]? = some o) (hd : o.dst = some d) (hn : Nat.blt d n = true) (hg : fguard ops env o = some true)
    (hv : Val c n env L o v) (h : GH c n ops Lq fuel (listed.setIfInBounds i true) ((d, v) :: env) L k) : GHop c n ops Lq fuel listed env L k i := by
  intro a w hk hm hw
  refine ghop_of ho (wanted_of hk hg) ?_
  rw [hv a w hk hm, Oper.upon_value, hd]
  exact ⟨hw, h _ w (hk.put hn v) hm hw⟩
theorem GHop_new {i d : Nat} {mk : Nat → Value} {ob : Obj} (ho : ops[i]? = some o) (hd : o.dst = some d) (hn : Nat.blt d n = true) (hg : fguard ops env o = some true)
    (hv : New c n env L o mk ob) (isq : List Nat) (hq : ∀ b, ∃ M, tk isq ((some b, ob) :: L) = some (Lq, M)) (h : ∀ b, GH c n ops Lq fuel (listed.setIfInBounds i true) ((d, mk b) :: env) ((some b, ob) :: L) k) : GHop c n ops Lq fuel listed env L k i := by
  intro a w hk hm hw
  refine ghop_of ho (wanted_of hk hg) ?_
  rw [hv a w hk hm, Oper.upon_value, hd]
  obtain ⟨M, hM⟩ := hq w.heap.size
  have hs := hs_of (hm.alloc ob) hM
  exact ⟨hs, h w.heap.size _ _ (hk.put hn _) (hm.alloc ob) hs⟩
theorem GHop_put {i b : Nat} {old ob : Obj} {l1 l2 L' M : List (Option Nat × Obj)} (ho : ops[i]? = some o) (hd : o.dst = none) (hg : fguard ops env o = some true)
    (hL : L = l1 ++ (some b, old) :: l2) (hv : Put c n env L o b ob) (hL' : l1 ++ (some b, ob) :: l2 = L') (isq : List Nat) (hq : tk isq L' = some (Lq, M)) (h : GH c n ops Lq fuel (listed.setIfInBounds i true) env L' k) : GHop c n ops Lq fuel listed env L k i := by
  intro a w hk hm hw
  obtain ⟨w', hr, h1, h2, h3, h4, h5, h6⟩ := hv a w hk hm
  refine ghop_of ho (wanted_of hk hg) ?_
  rw [hr, Oper.upon_skip, hd]
  subst hL'
  have hm' := hm.put hL h1 h2 h3 h4 h5 h6
  exact ⟨hs_of hm' hq, h _ w' (hk.putNone undef) hm' (hs_of hm' hq)⟩
theorem GHop_call {i d : Nat} {g : FuncId} {xs : Array Operand} {ts : Array TypeId} {args : List Value} {A' L' L2 : List (Option Nat × Obj)} {R' : Value → List (Option Nat × Obj) → Prop}
    (ho : ops[i]? = some o) (hd : o.dst = some d) (hn : Nat.blt d n = true) (hg : fguard ops env o = some true) (hop : o.op = .call ⟨.value (.func g), xs, ts⟩) (hxs : fevs env xs.toList = some args)
    (hcf : ∀ (az : Array Value) w, (callFunc g az).run c.P w = .ok (.enter g az) w) (hct : Ct c.P g args A' L' R') (is js : List Nat) (hL : tk is L = some (L', L2)) (hA : pk js (c.A ++ L2) = some A')
    (isq : List Nat) (hq : ∀ v post, R' v post → ∃ M, tk isq (post ++ L2) = some (Lq, M)) (K : ∀ v post, R' v post → GH c n ops Lq fuel (listed.setIfInBounds i true) ((d, v) :: env) (post ++ L2) k) : GHop c n ops Lq fuel listed env L k i := by
  intro a w hk hm hw
  refine ghop_of ho (wanted_of hk hg) ?_
  have hx : xs.map a.eval = args.toArray := by
    apply Array.toList_inj.1
    simpa using hk.evals hxs
  have hr : (execOp a.eval o).run c.P w = .ok (.enter g args.toArray) w := by
    unfold execOp
    simp [hop, resolve, Act.eval, Deferred.ofValue, hx, invoke, hcf]
  rw [hr, Oper.upon_enter]
  refine (hct w (hm.has_call hL hA)).mono fun e w' ⟨v, post, he, hR, hp⟩ => ?_
  subst he
  simp only [hd]
  have hm' := hm.call hL hA hp
  obtain ⟨M', hM⟩ := hq v post hR
  exact ⟨hs_of hm' hM, K v post hR _ w' (hk.put hn v) hm' (hs_of hm' hM)⟩
end

-- contracts of the elder kind
theorem ct_same {P : Program} {f : FuncId} {args : List Value} {v : Value} (h : ∀ w, Calls P f args.toArray w fun e w' => e = .returned v ∧ w = w') : Ct P f args [] [] (fun v' post => v' = v ∧ post = []) :=
  fun w0 _ => (h w0).mono fun _ _ ⟨he, hw⟩ => ⟨v, [], he, ⟨rfl, rfl⟩, by subst hw; exact ⟨has_nil _, fun _ _ h => (by cases h), Chg.refl _ _⟩⟩
theorem ct_below {P : Program} {f : FuncId} {args : List Value} {v : Value} (h : ∀ w, Calls P f args.toArray w fun e w' => e = .returned v ∧ Below w.heap.size w w') : Ct P f args [] [] (fun v' post => v' = v ∧ post = []) :=
  fun w0 _ => (h w0).mono fun _ _ ⟨he, hb⟩ => ⟨v, [], he, ⟨rfl, rfl⟩, ⟨has_nil _, fun _ _ h => (by cases h), ⟨hb.os, hb.tape, hb.output, hb.size, fun i hi _ => hb.block i hi⟩⟩⟩
theorem ct_grown {P : Program} {f : FuncId} {args : List Value} {b : Nat} {cs cs' : Array Value} {T : TypeId} {v : Value} (h : ∀ w, Blk w b cs T → Calls P f args.toArray w fun e w' => e = .returned v ∧ Blk w' b cs' T ∧ w.grownBy w' (some b)) :
    Ct P f args [] [(some b, .cells cs T (0, 0))] (fun v' post => v' = v ∧ post = [(some b, .cells cs' T (0, 0))]) :=
  fun w0 hw => (h w0 (hw.lies b _ (by simp))).mono fun _ w' ⟨he, hb, hg⟩ => ⟨v, _, he, ⟨rfl, rfl⟩, ⟨⟨fun _ _ h => (by cases h), by simp, fun b' o hm => by
    simp only [List.mem_singleton, Prod.mk.injEq, Option.some.injEq] at hm
    obtain ⟨rfl, rfl⟩ := hm
    exact hb, fun _ h => (by cases h)⟩, fun b' o hm => by
    simp only [List.mem_singleton, Prod.mk.injEq, Option.some.injEq] at hm
    obtain ⟨rfl, rfl⟩ := hm
    exact .inl (by simp [hkeys]), ⟨hg.os, hg.tape, hg.output, hg.size, fun k hk hn => hg.block k hk (fun e => hn (by simp [hkeys]; exact Option.some.inj e))⟩⟩⟩
/-- A contract without blocks says what a law's walk wants. -/
theorem below_of_ct {P : Program} {f : FuncId} {args : List Value} {A : List (Option Nat × Obj)} {v : Value} (h : Ct P f args A [] (fun v' post => v' = v ∧ post = [])) (w : World) (hA : Has w A []) : Calls P f args.toArray w fun e w' => e = .returned v ∧ Below w.heap.size w w' :=
  (h w hA).mono fun _ _ ⟨_, _, he, ⟨hv, _⟩, hm⟩ => ⟨by rw [he, hv], ⟨hm.chg.os, hm.chg.tape, hm.chg.output, hm.chg.size, fun k hk => hm.chg.block k hk (by simp [hkeys])⟩⟩
theorem Ct.weaken {P : Program} {f : FuncId} {args : List Value} {A L : List (Option Nat × Obj)} {R R' : Value → List (Option Nat × Obj) → Prop} (h : Ct P f args A L R) (hr : ∀ v post, R v post → R' v post) : Ct P f args A L R' :=
  fun w0 hw => (h w0 hw).mono fun _ _ ⟨v, post, he, hR, hm⟩ => ⟨v, post, he, hr v post hR, hm⟩
end Go.Proofs.YtbblkgdejgoncaaGreatDoor

/- The program's own facts that the walks want. -/
set_option linter.unusedSimpArgs false
set_option linter.unusedVariables false
namespace Go.Proofs.YtbblkgdejgoncaaGreatDoor
theorem mixedK : Tryz.prog.follows .mixedOrders = true := by kernel_rfl
end Go.Proofs.YtbblkgdejgoncaaGreatDoor

/- Arrays, bytes, copies, blocks made with a size, structs compared. No program in sight. -/
set_option linter.unusedSimpArgs false
set_option linter.unusedVariables false
namespace Go.Proofs.YtbblkgdejgoncaaGreatDoor
open Go Go.RowKit

/-- Bytes as cells. -/
def bcells (l : List UInt8) : List Value := l.map fun c => .int .u8 (c.toNat : Int)
theorem bcells_length (l : List UInt8) : (bcells l).length = l.length := by simp [bcells]
theorem bcells_one (l : List UInt8) : ∀ v ∈ bcells l, v.oneCell' = true := by
  intro v hv
  simp only [bcells, List.mem_map] at hv
  obtain ⟨c, _, rfl⟩ := hv
  rfl
theorem bcells_all (l : List UInt8) : (bcells l).toArray.all (·.oneCell') = true := by
  rw [Array.all_eq_true_iff_forall_mem]
  intro v hv
  exact bcells_one l v (by simpa using hv)
theorem bcells_append (l m : List UInt8) : bcells (l ++ m) = bcells l ++ bcells m := by simp [bcells]
theorem bcells_take (l : List UInt8) (k : Nat) : (bcells l).take k = bcells (l.take k) := by simp [bcells, List.map_take]
theorem bcells_drop (l : List UInt8) (k : Nat) : (bcells l).drop k = bcells (l.drop k) := by simp [bcells, List.map_drop]
theorem bcells_inj {l m : List UInt8} (h : bcells l = bcells m) : l = m := by
  have := congrArg (List.map fun v => match v with | Value.int _ n => UInt8.ofNat n.toNat | _ => 0) h
  simpa [bcells, Function.comp_def] using this
theorem bcells_zero (n : Nat) : List.replicate n (Value.int .u8 0) = bcells (List.replicate n 0) := by simp [bcells]

section
variable {c : Cx} {n : Nat} {env : List (Nat × Value)} {L : List (Option Nat × Obj)} {k : List Item} {o : Oper}

theorem V_aslice {x : Operand} {t e b off N : Nat} {ti : TypeInfo} (hop : o.op = .slice t x none none none) (hu : c.P.underlying t = some (.array N e)) (hs : c.P.info? e = some ti) (hx : fev env x = some (.pointer (some ⟨b, off, none⟩))) :
    Val c n env L o (.slice (some ⟨b, off, none⟩) N N) := fun a w hk _ => by
  by_cases h : N = 0
  · subst h
    simp [execOp, hop, hk.eval hx, Instr.sliceAt, run_underlying hu, Instr.sureAddr, Instr.sliceBounds, sizeOf, typeInfo, hs]
  · have h' : ¬ (N = 0) := h
    simp [execOp, hop, hk.eval hx, Instr.sliceAt, run_underlying hu, Instr.sureAddr, Instr.sliceBounds, sizeOf, typeInfo, hs, h', Addr.add_zero']
theorem V_asliceH {x xh : Operand} {t e b off N h : Nat} {z : Int} {q : IntKind} {ti : TypeInfo} (hop : o.op = .slice t x none (some xh) none) (hu : c.P.underlying t = some (.array N e)) (hs : c.P.info? e = some ti) (hx : fev env x = some (.pointer (some ⟨b, off, none⟩)))
    (hh : fev env xh = some (.int q z)) (hz : z = (h : Int)) (hb : h ≤ N) : Val c n env L o (.slice (some ⟨b, off, none⟩) h N) := fun a w hk _ => by
  subst hz
  have e1 : (0 : Int) ≤ (h : Int) ∧ (h : Int) ≤ (N : Int) := by omega
  simp only [execOp, hop, hk.eval hx, hk.eval hh, Option.map_some, Option.map_none, Instr.sliceAt, run_underlying hu, Instr.sureAddr, Instr.sliceBounds, Instr.sliceBound, asIntOf, Sem.run_bind, Sem.run_pure, Result.andThen_ok, if_pos e1, sizeOf, typeInfo, run_program, hs]
  by_cases hN : N = 0 <;> simp [hN, Addr.add_zero']
theorem V_asliceL {x xl : Operand} {t e b off N l s off' : Nat} {z : Int} {q : IntKind} {ti : TypeInfo} (hop : o.op = .slice t x (some xl) none none) (hu : c.P.underlying t = some (.array N e)) (hs : c.P.info? e = some ti) (hsz : ti.size = s) (hx : fev env x = some (.pointer (some ⟨b, off, none⟩)))
    (hl : fev env xl = some (.int q z)) (hz : z = (l : Int)) (hb : l < N) (ho' : off + l * s = off') : Val c n env L o (.slice (some ⟨b, off', none⟩) (N - l) (N - l)) := fun a w hk _ => by
  subst hz hsz ho'
  have e1 : (0 : Int) ≤ (l : Int) ∧ (l : Int) ≤ (N : Int) := by omega
  have e2 : ¬ N = l := by omega
  simp only [execOp, hop, hk.eval hx, hk.eval hl, Option.map_some, Option.map_none, Instr.sliceAt, run_underlying hu, Instr.sureAddr, Instr.sliceBounds, Instr.sliceBound, asIntOf, Sem.run_bind, Sem.run_pure, Result.andThen_ok, if_pos e1, sizeOf, typeInfo, run_program, hs]
  simp [e2, Addr.add_lit]

/-- An operation that writes a block and tells a value. -/
def PutV (c : Cx) (n : Nat) (env : List (Nat × Value)) (L : List (Option Nat × Obj)) (o : Oper) (b : Nat) (ob : Obj) (v : Value) : Prop :=
  ∀ a w, Knows c.ds n env a → Mem c.w0 c.A c.S L w → ∃ w', (execOp a.eval o).run c.P w = .ok (.value v) w' ∧ w'.os = w.os ∧ w'.tape = w.tape ∧ w'.output = w.output ∧ w'.heap.size = w.heap.size ∧ w'.heap[b]? = some ob ∧ ∀ k, k ≠ b → w'.heap[k]? = w.heap[k]?
theorem G_putV {ops : Array Oper} {i : Nat} {rest : List Nat} {b d : Nat} {old ob : Obj} {v : Value} {l1 l2 L' : List (Option Nat × Obj)} (ho : ops[i]? = some o) (hd : o.dst = some d) (hn : Nat.blt d n = true) (hg : fguard ops env o = some true)
    (hL : L = l1 ++ (some b, old) :: l2) (hv : PutV c n env L o b ob v) (hL' : l1 ++ (some b, ob) :: l2 = L') (h : G c n ((d, v) :: env) L' (.inRegion ops rest :: k)) : G c n env L (.inRegion ops (i :: rest) :: k) := by
  intro a w hk hm
  obtain ⟨w', hr, h1, h2, h3, h4, h5, h6⟩ := hv a w hk hm
  refine goes_op ho (wanted_of hk hg) ?_
  rw [hr, Oper.upon_value, hd]
  subst hL'
  exact h _ w' (hk.put hn v) (hm.put hL h1 h2 h3 h4 h5 h6)
theorem G_putVN {ops : Array Oper} {i : Nat} {rest : List Nat} {b : Nat} {old ob : Obj} {v : Value} {l1 l2 L' : List (Option Nat × Obj)} (ho : ops[i]? = some o) (hd : o.dst = none) (hg : fguard ops env o = some true)
    (hL : L = l1 ++ (some b, old) :: l2) (hv : PutV c n env L o b ob v) (hL' : l1 ++ (some b, ob) :: l2 = L') (h : G c n env L' (.inRegion ops rest :: k)) : G c n env L (.inRegion ops (i :: rest) :: k) := by
  intro a w hk hm
  obtain ⟨w', hr, h1, h2, h3, h4, h5, h6⟩ := hv a w hk hm
  refine goes_op ho (wanted_of hk hg) ?_
  rw [hr, Oper.upon_value, hd]
  subst hL'
  exact h _ w' (hk.putNone v) (hm.put hL h1 h2 h3 h4 h5 h6)

/-- Cells with others laid over them. -/
def laid (cs : Array Value) (off : Nat) (vs : List Value) : Array Value := (cs.toList.take off ++ vs ++ cs.toList.drop (off + vs.length)).toArray

theorem run_stores {P : Program} (w : World) (b off : Nat) (T : TypeId) (cs : Array Value) (vs : List Value) (hg : w.heap[b]? = some (.cells cs T (0, 0))) (hl : off + vs.length ≤ cs.size) (h1 : ∀ v ∈ vs, v.oneCell' = true) :
    (storeCells ⟨b, off, none⟩ vs).run P w = .ok () (w.setRow b (laid cs off vs)) := by
  have := run_storeCells_at (P := P) b off T vs 0 cs w hg (by omega) h1
  simpa [laid] using this

/-- 'copy' out of a text. -/
theorem P_copyS {x y : Operand} {t e T b off dl dc : Nat} {ts : Array TypeId} {ty : TypeId} {p : String} {es : Array Edge} {gd : Option (Nat × Bool)} {d : Option Tmp} {ti : TypeInfo} {cs : Array Value} {l : List UInt8}
    (hop : o = ⟨d, .call ⟨.builtin .copy, #[x, y], ts⟩, ty, p, es, gd⟩) (ht : ts[0]? = some t) (hu : c.P.underlying t = some (.slice e)) (hs : c.P.info? e = some ti) (hsz : ti.size = 1) (hx : fev env x = some (.slice (some ⟨b, off, none⟩) dl dc)) (hy : fev env y = some (.string (bs l)))
    (hm : (some b, Obj.cells cs T (0, 0)) ∈ L) (hoff : off + min l.length dl ≤ cs.size) :
    PutV c n env L o b (.cells (laid cs off (bcells (l.take dl))) T (0, 0)) (.int .i64 ((min l.length dl : Nat) : Int)) := fun a w hk hmm => by
  subst hop
  have hw := hmm.lies hm
  have hlen : (bcells (l.take dl)).length = min l.length dl := by rw [bcells_length, List.length_take, Nat.min_comm]
  have hst := run_stores (P := c.P) w b off T cs (bcells (l.take dl)) hw (by rw [hlen]; exact hoff) (bcells_one _)
  refine ⟨w.setRow b (laid cs off (bcells (l.take dl))), ?_, rfl, rfl, rfl, by simp, setRow_heap w b cs _ T _ hw, fun k hne => setRow_other w b k _ hne⟩
  simp [execOp, hk.eval hx, hk.eval hy, resolve, invoke, builtin, Builtin.copy_, ht, run_underlying hu, Builtin.lenOf, Builtin.firstCells, sizeOf, typeInfo, hs, hsz, goInt, bs_size]
  have hmin : Nat.min l.length dl = min l.length dl := rfl
  have hcells : List.take (min l.length dl) (List.map (fun b => Value.int IntKind.u8 (b.toNat : Int)) (bs l).data.toList) = bcells (l.take dl) := by
    show List.take (min l.length dl) (bcells l) = _
    rw [bcells_take, Nat.min_comm, ← List.take_take, List.take_length]
  rw [hmin, hcells, hst]
  rfl

/-- Bytes as a text. -/
theorem V_bytesS {x : Operand} {t u e T b off len cap : Nat} {fr : Nat × Nat} {cs : Array Value} {l : List UInt8} (hop : o.op = .convert t u x) (hx : fev env x = some (.slice (some ⟨b, off, none⟩) len cap)) (ht : c.P.underlying t = some (.slice e)) (he : c.P.underlying e = some (.int .u8)) (hu : c.P.underlying u = some .string)
    (hm : (some b, Obj.cells cs T fr) ∈ c.A ++ L) (hl : l.length = len) (hc : (cs.toList.drop off).take len = bcells l) : Val c n env L o (.string (bs l)) := fun a w hk hmm => by
  subst hl
  have hw := hmm.has.both hm
  have h1 := run_convert_bytes_back (P := c.P) w t u e ⟨b, off, none⟩ cap l ht he hu (fun j hj => by
    rw [Addr.add_lit, cell_of_row w b (off + j) cs T fr hw]
    have h2 : ((cs.toList.drop off).take l.length)[j]? = (bcells l)[j]? := by rw [hc]
    rw [List.getElem?_take, if_pos hj, List.getElem?_drop] at h2
    rw [← Array.getElem?_toList, h2]
    simp [bcells, hj])
  simp only [execOp, hop, hk.eval hx]
  rw [Sem.run_bind, h1]
  rfl
theorem V_bytesSNil {x : Operand} {t u e len cap : Nat} (hop : o.op = .convert t u x) (hx : fev env x = some (.slice none len cap)) (ht : c.P.underlying t = some (.slice e)) (he : c.P.underlying e = some (.int .u8)) (hu : c.P.underlying u = some .string) : Val c n env L o (.string (bs [])) := fun a w hk hmm => by
  simp only [execOp, hop, hk.eval hx]
  rw [Sem.run_bind, run_convert_bytes_string w t u e none len cap ht he hu]
  rfl

theorem madeCells_one (z : Value) (m : Nat) : madeCells #[z] m = (List.replicate m z).toArray := by
  apply Array.ext
  · simp [size_madeCells]
  · intro i h1 h2
    simp [madeCells, Nat.mod_one]
/-- 'make' of cells of one. -/
theorem N_make {xl xc : Operand} {t e l m : Nat} {kl kc : IntKind} {zl zc : Int} {ti : TypeInfo} {z v : Value} (hop : o.op = .makeSlice t xl xc) (hu : c.P.underlying t = some (.slice e)) (hs : c.P.info? e = some ti) (hz : ti.zero = some v) (hv : v.cells = #[z]) (hsz : ti.size = 1)
    (hxl : fev env xl = some (.int kl zl)) (hxc : fev env xc = some (.int kc zc)) (hl : zl = (l : Int)) (hc : zc = (m : Int)) (hlc : l ≤ m) (hb : ti.bytes * m ≤ 281474976710656) (h63 : m ≤ 9223372036854775807) :
    New c n env L o (fun b => .slice (some ⟨b, 0, none⟩) l m) (.cells (List.replicate m z).toArray e (0, 0)) := fun a w hk _ => by
  subst hl hc
  have h1 := run_make (P := c.P) w t e ti v hu hs hz kl kc (l : Int) (m : Int) (by omega) (by omega) (by
    have : ((ti.bytes * m : Nat) : Int) ≤ 281474976710656 := by omega
    rwa [Int.natCast_mul] at this) (by omega)
  simp only [execOp, hop, hk.eval hxl, hk.eval hxc]
  rw [Sem.run_bind, h1, hv, madeCells_one, hsz]
  simp

/-- Structs and arrays compared. -/
theorem V_aggeql {x y : Operand} {t yt : TypeId} {m D D' : Nat} {xs ys : Array Value} {lx ly : List Lit} (hop : o.op = .binOp .eql t x y yt) (hgt : c.P.eqGuardType c.P.depth t = false) (hkt : c.P.keyTypeAt m t = true) (hm : m ≤ 10000) (hfx : (Value.agg xs).formed c.P t = true) (hfy : (Value.agg ys).formed c.P t = true)
    (hx : fev env x = some (.agg xs)) (hy : fev env y = some (.agg ys)) (hlx : c.P.keyLits D t xs.toList = some lx) (hly : c.P.keyLits D' t ys.toList = some ly) : Val c n env L o (.bool (@decide (lx = ly) (Classical.propDecidable _))) := fun a w hk _ => by
  obtain ⟨r, hr, hi⟩ := run_equalIn_deep (P := c.P) (10000 - m) m t hkt w D D' (.agg xs) (.agg ys) lx ly hfx hfy (by simpa [Value.cells] using hlx) (by simpa [Value.cells] using hly)
  rw [show 10000 - m + m = 10000 by omega] at hr
  have hrd : r = @decide (lx = ly) (Classical.propDecidable _) := by
    by_cases h : lx = ly
    · rw [hi.2 h]; simp [h]
    · have : r = false := by rw [← Bool.not_eq_true]; exact fun e => h (hi.1 e)
      rw [this]; simp [h]
  simp only [execOp, hop, hk.eval hx, hk.eval hy]
  rw [Sem.run_bind, Sem.run_bind, run_eqGuard_agg w .eql t x y xs ys hgt]
  simp only [Result.andThen_ok, run_eql_struct, hr, hrd]
  rfl
theorem V_aggneq {x y : Operand} {t yt : TypeId} {m D D' : Nat} {xs ys : Array Value} {lx ly : List Lit} (hop : o.op = .binOp .neq t x y yt) (hgt : c.P.eqGuardType c.P.depth t = false) (hkt : c.P.keyTypeAt m t = true) (hm : m ≤ 10000) (hfx : (Value.agg xs).formed c.P t = true) (hfy : (Value.agg ys).formed c.P t = true)
    (hx : fev env x = some (.agg xs)) (hy : fev env y = some (.agg ys)) (hlx : c.P.keyLits D t xs.toList = some lx) (hly : c.P.keyLits D' t ys.toList = some ly) : Val c n env L o (.bool (@decide (¬ lx = ly) (Classical.propDecidable _))) := fun a w hk _ => by
  obtain ⟨r, hr, hi⟩ := run_equalIn_deep (P := c.P) (10000 - m) m t hkt w D D' (.agg xs) (.agg ys) lx ly hfx hfy (by simpa [Value.cells] using hlx) (by simpa [Value.cells] using hly)
  rw [show 10000 - m + m = 10000 by omega] at hr
  have hrd : (!r) = @decide (¬ lx = ly) (Classical.propDecidable _) := by
    by_cases h : lx = ly
    · rw [hi.2 h]; simp [h]
    · have : r = false := by rw [← Bool.not_eq_true]; exact fun e => h (hi.1 e)
      rw [this]; simp [h]
  simp only [execOp, hop, hk.eval hx, hk.eval hy]
  rw [Sem.run_bind, Sem.run_bind, run_eqGuard_agg w .neq t x y xs ys hgt]
  simp only [Result.andThen_ok, run_neq_struct, hr, hrd]
  rfl
end

theorem mapM_bytes (f : List Value → Option (List Lit)) (h : ∀ c : UInt8, f [.int .u8 (c.toNat : Int)] = some [.int .u8 (c.toNat : Int)]) (m : List UInt8) : ∀ (l p : List UInt8), p ++ l = m →
    (List.range' p.length l.length).mapM (fun i => f (((bcells m).drop (i * 1)).take 1)) = some (l.map fun c => [.int .u8 (c.toNat : Int)])
  | [], p, _ => by simp
  | c :: l, p, e => by
    have ih := mapM_bytes f h m l (p ++ [c]) (by simpa using e)
    simp only [List.length_cons, List.range'_succ, List.mapM_cons]
    have h0 : ((bcells m).drop (p.length * 1)).take 1 = [.int .u8 (c.toNat : Int)] := by
      rw [← e, Nat.mul_one, bcells_append, List.drop_left' (bcells_length p)]
      simp [bcells]
    rw [h0, h]
    simp only [List.length_append, List.length_cons, List.length_nil, Nat.zero_add] at ih
    simp only [Option.bind_eq_bind, Option.bind_some, List.map_cons]
    rw [ih]
    rfl
theorem flatten_ones {α β : Type} (f : α → β) : ∀ l : List α, (l.map fun c => [f c]).flatten = l.map f
  | [] => rfl
  | c :: l => by simp [flatten_ones f l]
theorem keyLits_bytes {P : Program} {t e : TypeId} {D N : Nat} (ht : P.underlying t = some (.array N e)) (he : P.underlying e = some (.int .u8)) (h1 : P.cellsOf e = 1) (hn : P.cellsOf t = N) (l : List UInt8) (hl : l.length = N) :
    P.keyLits (D + 2) t (bcells l).toArray.toList = some (l.map fun c => .int .u8 (c.toNat : Int)) := by
  unfold Program.keyLits
  simp only [ht]
  rw [if_pos (by simp [bcells_length, hl, hn]), h1]
  have := mapM_bytes (P.keyLits (D + 1) e) (fun c => by
    unfold Program.keyLits
    have hc := c.toNat_lt
    have hwf : (Lit.int .u8 (c.toNat : Int)).wf = true := by
      simp only [Lit.wf, IntKind.min, IntKind.max, IntKind.signed, IntKind.bits]
      simp
      omega
    simp [he, hwf]) l l [] rfl
  simp only [List.length_nil] at this
  rw [← hl, List.range_eq_range', this]
  simp only [Option.map_some]
  rw [flatten_ones]
theorem lits_bytes_inj {l m : List UInt8} (h : (l.map fun c => Lit.int .u8 (c.toNat : Int)) = m.map fun c => Lit.int .u8 (c.toNat : Int)) : l = m := by
  have := congrArg (List.map fun v => match v with | Lit.int _ n => UInt8.ofNat n.toNat | _ => 0) h
  simpa [Function.comp_def] using this
end Go.Proofs.YtbblkgdejgoncaaGreatDoor

/- Structs and slices that are built out of parts. No program in sight. -/
set_option linter.unusedSimpArgs false
set_option linter.unusedVariables false
namespace Go.Proofs.YtbblkgdejgoncaaGreatDoor
open Go Go.RowKit

/-- Cells with others laid over them, from a place on. -/
def ovl : List Value → Nat → List Value → List Value
  | zs, _, [] => zs
  | zs, off, v :: vs => ovl (zs.set off v) (off + 1) vs
def ovls : List Value → List (Nat × List Value) → List Value
  | zs, [] => zs
  | zs, (off, vs) :: r => ovls (ovl zs off vs) r
theorem ovl_length : ∀ (vs zs : List Value) (off : Nat), (ovl zs off vs).length = zs.length
  | [], _, _ => rfl
  | v :: vs, zs, off => by simp [ovl, ovl_length vs]
theorem fold_ovl (off : Nat) : ∀ (vs : List Value) (j : Nat) (zs : Array Value), (vs.zipIdx j).foldl (fun a (p : Value × Nat) => a.setIfInBounds (off + p.2) p.1) zs = (ovl zs.toList (off + j) vs).toArray
  | [], _, zs => by simp [ovl]
  | v :: vs, j, zs => by
    simp only [List.zipIdx_cons, List.foldl_cons]
    rw [fold_ovl off vs (j + 1)]
    simp [ovl, Nat.add_assoc]
/-- What a build lays where. -/
def fillOf (pl : List (Nat × Nat)) (n : Nat) : List (Nat × Value) → Option (List (Nat × List Value))
  | [] => some []
  | (i, v) :: r => match pl[i]? with
    | none => none
    | some (off, size) => match Nat.beq v.cells.size size && Nat.ble (off + v.cells.size) n with
      | false => none
      | true => match fillOf pl n r with
        | none => none
        | some l => some ((off, v.cells.toList) :: l)
theorem fill_of (pl : List (Nat × Nat)) (n : Nat) : ∀ (parts : List (Nat × Value)) (zs : Array Value) (ol : List (Nat × List Value)), zs.size = n → fillOf pl n parts = some ol →
    Instr.fill (fun i => pl.toArray[i]?) zs parts = some (ovls zs.toList ol).toArray
  | [], zs, ol, _, h => by
    simp only [fillOf, Option.some.injEq] at h
    subst h
    simp [Instr.fill, ovls]
  | (i, v) :: r, zs, ol, hn, h => by
    simp only [fillOf] at h
    split at h
    · cases h
    · rename_i off size hp
      split at h
      · cases h
      · rename_i hb
        split at h
        · cases h
        · rename_i l hl
          simp only [Option.some.injEq] at h
          subst h
          rw [Bool.and_eq_true] at hb
          have h1 := Nat.eq_of_beq_eq_true hb.1
          have h2 := Nat.le_of_ble_eq_true hb.2
          have hp' : pl.toArray[i]? = some (off, size) := by simpa using hp
          simp only [Instr.fill, hp']
          rw [if_neg (by simp [h1, hn]; omega)]
          have e : v.cells.zipIdx.foldl (fun cs (x : Value × Nat) => cs.setIfInBounds (off + x.2) x.1) zs = (ovl zs.toList off v.cells.toList).toArray := by
            rw [← Array.foldl_toList, Array.toList_zipIdx]
            exact fold_ovl off v.cells.toList 0 zs
          have ih := fill_of pl n r (ovl zs.toList off v.cells.toList).toArray l (by simp [ovl_length]; simpa using hn) hl
          simp only [ovls]
          rw [← ih]
          exact congrArg (fun z => Instr.fill (fun i => pl.toArray[i]?) z r) e

def placesOf (P : Program) (fs : Array Field) : Option (List (Nat × Nat)) := fs.toList.mapM (fun f => (P.info? f.type).map fun i => (f.offset, i.size))

section
variable {c : Cx} {n : Nat} {env : List (Nat × Value)} {L : List (Option Nat × Obj)} {k : List Item} {o : Oper}
theorem V_buildS {t : TypeId} {parts : Array (Nat × Operand)} {vs cs : List Value} {fs : Array Field} {ti : TypeInfo} {zs : List Value} {pl : List (Nat × Nat)} {ol : List (Nat × List Value)} (hop : o.op = .build t parts) (hu : c.P.underlying t = some (.struct fs)) (hi : c.P.info? t = some ti) (hz : ti.zero = some (.agg zs.toArray)) (hpl : placesOf c.P fs = some pl)
    (hx : fevs env (parts.toList.map (·.2)) = some vs) (hol : fillOf pl zs.length ((parts.toList.map (·.1)).zip vs) = some ol) (hcs : ovls zs ol = cs) : Val c n env L o (.agg cs.toArray) := by
  subst hcs
  refine V_build hop hx ?_
  unfold Program.built
  simp only [hi, hu, hz]
  unfold placesOf at hpl
  simp only [hpl, Value.cells]
  have := fill_of pl zs.length ((parts.toList.map (·.1)).zip vs) zs.toArray ol (by simp) hol
  simpa using this
/-- A slice built out of parts. -/
theorem N_buildSlice {t e len s : Nat} {parts : Array (Nat × Operand)} {vs cs : List Value} {ti : TypeInfo} {zs : List Value} {z : Value} {ol : List (Nat × List Value)} (hop : o.op = .buildSlice t len parts) (hu : c.P.underlying t = some (.slice e)) (hi : c.P.info? e = some ti) (hsz : ti.size = s) (hz : ti.zero = some z) (hzs : ((Array.range (len * s)).map (z.cells[· % z.cells.size]!)).toList = zs) (hl : Nat.ble (len * s) 16777216 = true) (hpos : Nat.beq (len * s) 0 = false)
    (hx : fevs env (parts.toList.map (·.2)) = some vs) (hol : fillOf ((List.range len).map fun i => (i * s, s)) zs.length ((parts.toList.map (·.1)).zip vs) = some ol) (hcs : ovls zs ol = cs) :
    New c n env L o (fun b => .slice (some ⟨b, 0, none⟩) len len) (.cells cs.toArray e (0, 0)) := fun a w hk _ => by
  subst hcs hsz
  have hl' : ¬ 16777216 < len * ti.size := by simpa using hl
  have hp' : ¬ len * ti.size = 0 := fun e => by rw [e] at hpos; simp at hpos
  have h1 := hk.evals hx
  have h2 : (parts.map fun (i, x) => (i, a.eval x)).toList = (parts.toList.map (·.1)).zip vs := by
    rw [← h1]
    simp only [Array.toList_map, List.map_map]
    generalize parts.toList = ps
    induction ps with
    | nil => rfl
    | cons p ps ih => simp [ih]
  have h3 := fill_of ((List.range len).map fun i => (i * ti.size, ti.size)) zs.length ((parts.toList.map (·.1)).zip vs) zs.toArray ol (by simp) hol
  have hplace : ∀ i, i < len → ((List.range len).map fun i => (i * ti.size, ti.size)).toArray[i]? = some (i * ti.size, ti.size) := fun i hi => by simp [hi]
  have fillEq : ∀ (ps : List (Nat × Value)) (zz : Array Value) r, Instr.fill (fun i => ((List.range len).map fun i => (i * ti.size, ti.size)).toArray[i]?) zz ps = some r → Instr.fill (fun i => some (i * ti.size, ti.size)) zz ps = some r := by
    intro ps
    induction ps with
    | nil => exact fun zz r h => h
    | cons p ps ih =>
      obtain ⟨i, v⟩ := p
      intro zz r h
      simp only [Instr.fill] at h ⊢
      by_cases hi : i < len
      · rw [hplace i hi] at h
        simp only at h
        split at h
        · cases h
        · rename_i hc
          rw [if_neg hc]
          exact ih _ _ h
      · have : ((List.range len).map fun i => (i * ti.size, ti.size)).toArray[i]? = none := by simp; omega
        rw [this] at h
        cases h
  have h4 := fillEq _ _ _ h3
  have hzs' : (Array.range (len * ti.size)).map (fun x => z.cells[x % z.cells.size]!) = zs.toArray := by
    apply Array.toList_inj.1
    simpa using hzs
  simp only [execOp, hop]
  simp [Instr.buildSlice, run_underlying hu, sizeOf, typeInfo, hi, hl', hp', zeroValue, hz, hzs']
  rw [Array.toList_map] at h2
  rw [h2]
  simp [h4, newRow]
/-- The cells of values, one behind the other. -/
def flat : List Value → List Value
  | [] => []
  | v :: vs => v.cells.toList ++ flat vs
def sized (s : Nat) : List Value → Bool
  | [] => true
  | v :: vs => Nat.beq v.cells.size s && sized s vs
theorem ovl_mid : ∀ (vs pre zs : List Value), vs.length ≤ zs.length → ovl (pre ++ zs) pre.length vs = pre ++ vs ++ zs.drop vs.length
  | [], pre, zs, _ => by simp [ovl]
  | v :: vs, pre, [], h => by simp at h
  | v :: vs, pre, z :: zs, h => by
    have ih := ovl_mid vs (pre ++ [v]) zs (by simpa using h)
    simp only [ovl]
    rw [List.set_append_right _ _ (Nat.le_refl _), Nat.sub_self, List.set_cons_zero]
    simp only [List.length_append, List.length_cons, List.length_nil, Nat.zero_add, List.append_assoc, List.singleton_append] at ih
    rw [ih]
    simp
theorem zip_range_succ (i : Nat) (v : Value) (vs : List Value) (m : Nat) : (List.range' i (m + 1)).zip (v :: vs) = (i, v) :: (List.range' (i + 1) m).zip vs := by
  simp [List.range'_succ]
theorem fill_all (len s : Nat) : ∀ (vs pre zs : List Value) (i : Nat), sized s vs = true → i + vs.length = len → pre.length = i * s → zs.length = vs.length * s → ∃ ol, fillOf ((List.range len).map fun i => (i * s, s)) (len * s) ((List.range' i vs.length).zip vs) = some ol ∧ ovls (pre ++ zs) ol = pre ++ flat vs
  | [], pre, zs, i, _, _, _, hz => by
    have : zs = [] := List.length_eq_zero_iff.1 (by simpa using hz)
    subst this
    exact ⟨[], rfl, by simp [ovls, flat]⟩
  | v :: vs, pre, zs, i, hs, hl, hp, hz => by
    simp only [sized, Bool.and_eq_true] at hs
    have h1 := Nat.eq_of_beq_eq_true hs.1
    have hlen : v.cells.toList.length = s := by simpa using h1
    have hl' : i + 1 + vs.length = len := by simp only [List.length_cons] at hl; omega
    have hz' : zs.length = s + vs.length * s := by rw [hz, List.length_cons, Nat.succ_mul]; omega
    obtain ⟨ol, ho, hov⟩ := fill_all len s vs (pre ++ v.cells.toList) (zs.drop s) (i + 1) hs.2 hl' (by rw [List.length_append, hlen, hp, Nat.succ_mul]) (by rw [List.length_drop, hz']; omega)
    refine ⟨(i * s, v.cells.toList) :: ol, ?_, ?_⟩
    · rw [List.length_cons, zip_range_succ]
      unfold fillOf
      have hi : ((List.range len).map fun i => (i * s, s))[i]? = some (i * s, s) := by
        rw [List.getElem?_map, List.getElem?_range (by omega)]; rfl
      simp only [hi]
      have hb : (Nat.beq v.cells.size s && Nat.ble (i * s + v.cells.size) (len * s)) = true := by
        rw [Bool.and_eq_true]
        refine ⟨by rw [h1]; exact Nat.beq_refl s, Nat.ble_eq_true_of_le ?_⟩
        rw [h1, ← hl', Nat.add_mul, Nat.add_mul]
        omega
      rw [hb]
      simp only [ho]
    · simp only [ovls]
      rw [← hp, ovl_mid v.cells.toList pre zs (by rw [hlen, hz']; omega), hlen, hov]
      simp [flat]
theorem N_buildAll {t e len s : Nat} {parts : Array (Nat × Operand)} {vs cs : List Value} {ti : TypeInfo} {z : Value} (hop : o.op = .buildSlice t len parts) (hu : c.P.underlying t = some (.slice e)) (hi : c.P.info? e = some ti) (hsz : ti.size = s) (hz : ti.zero = some z) (hl : Nat.ble (len * s) 16777216 = true) (hpos : Nat.beq (len * s) 0 = false)
    (hidx : parts.toList.map (·.1) = List.range' 0 len) (hx : fevs env (parts.toList.map (·.2)) = some vs) (hlen : vs.length = len) (hok : sized s vs = true) (hcs : flat vs = cs) :
    New c n env L o (fun b => .slice (some ⟨b, 0, none⟩) len len) (.cells cs.toArray e (0, 0)) := by
  subst hcs
  have hzl : ((Array.range (len * s)).map (z.cells[· % z.cells.size]!)).toList.length = vs.length * s := by simp [hlen]
  obtain ⟨ol, ho, hov⟩ := fill_all len s vs [] ((Array.range (len * s)).map (z.cells[· % z.cells.size]!)).toList 0 hok (by omega) (by simp) hzl
  refine N_buildSlice (zs := ((Array.range (len * s)).map (z.cells[· % z.cells.size]!)).toList) (ol := ol) hop hu hi hsz hz rfl hl hpos hx ?_ (by simpa using hov)
  rw [hzl, hidx, hlen]
  rw [hlen] at ho
  exact ho
end
end Go.Proofs.YtbblkgdejgoncaaGreatDoor

/- Chains told back: plain facts on unchain and chain. No program in sight. -/
namespace Go.Proofs.YtbblkgdejgoncaaGreatDoor
open Go Go.RowKit

theorem pow128_le (i : Nat) (h : i ≤ 9) : (128 : Nat) ^ i ≤ 128 ^ 9 := Nat.pow_le_pow_right (by omega) h

/-- What unch can answer. -/
def UnchOk (i : Nat) (l : List UInt8) (r : Nat × Nat × Nat) : Prop :=
  U64 r.1 ∧ ((r.2.2 = 0 ∧ i + 1 ≤ r.2.1 ∧ r.2.1 ≤ 10 ∧ r.2.1 ≤ i + l.length) ∨ (r.2.2 = 2 ∧ r.1 = 0 ∧ r.2.1 = 0) ∨ (r.2.2 = 3 ∧ r.1 = 0 ∧ r.2.1 = 0))

theorem unch_ok (l : List UInt8) : ∀ (i v : Nat), i ≤ 10 → (i ≤ 9 → v < 128 ^ i) → UnchOk i l (unch i v l) := by
  induction l with
  | nil =>
    intro i v hi _
    rw [unch]
    split
    · exact ⟨by unfold U64; omega, .inr (.inr ⟨rfl, rfl, rfl⟩)⟩
    · exact ⟨by unfold U64; omega, .inr (.inl ⟨rfl, rfl, rfl⟩)⟩
  | cons c r ih =>
    intro i v hi hv
    by_cases h10 : 10 ≤ i
    · obtain rfl : i = 10 := by omega
      rw [unch_ten]
      exact ⟨by unfold U64; omega, .inr (.inr ⟨rfl, rfl, rfl⟩)⟩
    · have hc := c.toNat_lt
      by_cases h : 128 ≤ c.toNat
      · rw [unch_more i v c r (by omega) h]
        have := ih (i + 1) (v + (c.toNat - 128) * 128 ^ i) (by omega) (fun h9 => by
          have h1 := hv (by omega)
          rw [Nat.pow_succ]
          have h2 : (c.toNat - 128) * 128 ^ i ≤ 127 * 128 ^ i := Nat.mul_le_mul_right _ (by omega)
          generalize (c.toNat - 128) * 128 ^ i = p at *
          generalize (128 : Nat) ^ i = q at *
          omega)
        obtain ⟨h1, h2⟩ := this
        refine ⟨h1, ?_⟩
        rcases h2 with ⟨a, b, c1, d⟩ | h2 | h2
        · exact .inl ⟨a, by omega, c1, by simp; omega⟩
        · exact .inr (.inl h2)
        · exact .inr (.inr h2)
      · by_cases hb : (0 < i ∧ c.toNat = 0) ∨ (i = 9 ∧ 1 < c.toNat)
        · rw [unch_bad i v c r (by omega) (by omega) hb]
          exact ⟨by unfold U64; omega, .inr (.inr ⟨rfl, rfl, rfl⟩)⟩
        · rw [unch_last i v c r (by omega) (by omega) hb]
          refine ⟨?_, .inl ⟨rfl, Nat.le_refl _, by simp; omega, by simp⟩⟩
          unfold U64
          have h1 := hv (by omega)
          by_cases h9 : i = 9
          · subst h9
            have : c.toNat ≤ 1 := by omega
            have h2 : c.toNat * 128 ^ 9 ≤ 1 * 128 ^ 9 := Nat.mul_le_mul_right _ this
            simp only
            omega
          · have h2 : c.toNat * 128 ^ i ≤ 127 * 128 ^ i := Nat.mul_le_mul_right _ (by omega)
            have h3 : (128 : Nat) ^ i ≤ 128 ^ 8 := Nat.pow_le_pow_right (by omega) (by omega)
            show v + c.toNat * 128 ^ i < 18446744073709551616
            generalize c.toNat * 128 ^ i = p at *
            generalize (128 : Nat) ^ i = q at *
            omega
theorem unchain_ok (l : List UInt8) : UnchOk 0 l (unchain l) := unch_ok l 0 0 (by omega) (fun _ => by omega)

theorem unch_chain (m : List UInt8) : ∀ (n i a v : Nat), v ≤ n → v * 128 ^ i < 18446744073709551616 → (0 < i → 1 ≤ v) → unch i a (chain v ++ m) = (a + v * 128 ^ i, i + (chain v).length, 0) := by
  intro n
  induction n with
  | zero =>
    intro i a v hn hv hi
    obtain rfl : v = 0 := by omega
    have : i = 0 := by
      by_cases h : i = 0
      · exact h
      · have := hi (by omega); omega
    subst this
    rw [chain_small 0 (by omega)]
    rfl
  | succ n ih =>
    intro i a v hn hv hi
    have hi9 : i ≤ 9 := by
      by_cases h : i ≤ 9
      · exact h
      · have h1 := hi (by omega)
        have h2 : (128 : Nat) ^ 10 ≤ 128 ^ i := Nat.pow_le_pow_right (by omega) (by omega)
        have h3 : 1 * 128 ^ i ≤ v * 128 ^ i := Nat.mul_le_mul_right _ h1
        omega
    by_cases h : v < 128
    · rw [chain_small v h, List.singleton_append]
      have e : (UInt8.ofNat v).toNat = v := by rw [UInt8.toNat_ofNat']; omega
      rw [unch_last i a _ m (by omega) (by omega) ?_, e]
      · simp
      · rw [e]
        rintro (⟨h1, h2⟩ | ⟨h1, h2⟩)
        · have := hi h1; omega
        · subst h1
          have : 2 * 128 ^ 9 ≤ v * 128 ^ 9 := Nat.mul_le_mul_right _ h2
          omega
    · rw [chain_big v (by omega), List.cons_append]
      have e : (UInt8.ofNat (v % 128 + 128)).toNat = v % 128 + 128 := by rw [UInt8.toNat_ofNat']; omega
      rw [unch_more i a _ _ (by omega) (by omega), e]
      have h1 : v / 128 * 128 ^ (i + 1) = v / 128 * 128 * 128 ^ i := by rw [Nat.pow_succ, Nat.mul_assoc, Nat.mul_comm 128]
      have h2 : v / 128 * 128 * 128 ^ i ≤ v * 128 ^ i := Nat.mul_le_mul_right _ (Nat.div_mul_le_self v 128)
      rw [ih (i + 1) _ (v / 128) (by omega) (by omega) (fun _ => by omega)]
      have h3 : v * 128 ^ i = v % 128 * 128 ^ i + v / 128 * 128 * 128 ^ i := by
        rw [← Nat.add_mul]; congr 1; omega
      rw [h1, h3, List.length_cons]
      have h4 : v % 128 + 128 - 128 = v % 128 := by omega
      rw [h4, Nat.add_assoc, show i + 1 + (chain (v / 128)).length = i + ((chain (v / 128)).length + 1) by omega]
theorem unchain_chain (v : Nat) (m : List UInt8) (h : U64 v) : unchain (chain v ++ m) = (v, (chain v).length, 0) := by
  have := unch_chain m v 0 0 v (Nat.le_refl _) (by unfold U64 at h; omega) (fun h => by omega)
  simpa [unchain] using this

theorem chain_unch (l : List UInt8) : ∀ (i a a' n : Nat), unch i a l = (a', n, 0) → ∃ v, a' = a + v * 128 ^ i ∧ (0 < i → 0 < v) ∧ i + 1 ≤ n ∧ chain v = l.take (n - i) := by
  induction l with
  | nil =>
    intro i a a' n h
    rw [unch] at h
    split at h <;> simp at h
  | cons c r ih =>
    intro i a a' n h
    have hc := c.toNat_lt
    by_cases h10 : 10 ≤ i
    · rw [unch, if_pos h10] at h; simp at h
    · by_cases h128 : 128 ≤ c.toNat
      · rw [unch_more i a c r (by omega) h128] at h
        obtain ⟨v, h1, h2, h3, h4⟩ := ih _ _ _ _ h
        have hv := h2 (by omega)
        refine ⟨c.toNat - 128 + 128 * v, ?_, fun _ => by omega, by omega, ?_⟩
        · rw [h1, Nat.pow_succ, Nat.add_mul, Nat.add_assoc]
          congr 2
          rw [Nat.mul_comm (128 ^ i), Nat.mul_comm 128 v, Nat.mul_assoc]
        · rw [chain_big _ (by omega), show (c.toNat - 128 + 128 * v) / 128 = v by omega, show (c.toNat - 128 + 128 * v) % 128 + 128 = c.toNat by omega, h4,
            show n - i = (n - (i + 1)) + 1 by omega, List.take_succ_cons]
          congr 1
          exact UInt8.toNat_inj.1 (by rw [UInt8.toNat_ofNat']; omega)
      · by_cases hb : (0 < i ∧ c.toNat = 0) ∨ (i = 9 ∧ 1 < c.toNat)
        · rw [unch_bad i a c r (by omega) (by omega) hb] at h; simp at h
        · rw [unch_last i a c r (by omega) (by omega) hb] at h
          simp only [Prod.mk.injEq] at h
          obtain ⟨rfl, rfl, _⟩ := h
          refine ⟨c.toNat, rfl, fun h => by omega, Nat.le_refl _, ?_⟩
          rw [chain_small _ (by omega), show i + 1 - i = 1 by omega]
          simp
theorem chain_unchain (l : List UInt8) (v n : Nat) (h : unchain l = (v, n, 0)) : chain v = l.take n := by
  obtain ⟨v', h1, _, _, h4⟩ := chain_unch l 0 0 v n h
  simp at h1
  subst h1
  simpa using h4

/-- A text with its length. -/
def text (l : List UInt8) : List UInt8 := chain l.length ++ l
/-- The text with which some bytes begin: the text, all its bytes, the error's number. -/
def untext (l : List UInt8) (most : Int) : List UInt8 × Nat × Nat :=
  match unchain l with
  | (v, n, e) =>
    if e ≠ 0 then ([], 0, e)
    else if most < 0 ∨ most < (v : Int) then ([], 0, 4)
    else if l.length - n < v then ([], 0, 2)
    else ((l.drop n).take v, n + v, 0)
theorem untext_err (l : List UInt8) (most : Int) (v n e : Nat) (h : unchain l = (v, n, e)) (he : e ≠ 0) : untext l most = ([], 0, e) := by
  simp [untext, h, he]
theorem untext_long (l : List UInt8) (most : Int) (v n : Nat) (h : unchain l = (v, n, 0)) (hm : most < 0 ∨ most < (v : Int)) : untext l most = ([], 0, 4) := by
  simp [untext, h, hm]
theorem untext_short (l : List UInt8) (most : Int) (v n : Nat) (h : unchain l = (v, n, 0)) (hm : ¬ (most < 0 ∨ most < (v : Int))) (hs : l.length - n < v) : untext l most = ([], 0, 2) := by
  unfold untext
  rw [h]
  simp only [ne_eq, not_true_eq_false, if_false]
  rw [if_neg hm, if_pos hs]
theorem untext_yes (l : List UInt8) (most : Int) (v n : Nat) (h : unchain l = (v, n, 0)) (hm : ¬ (most < 0 ∨ most < (v : Int))) (hs : ¬ l.length - n < v) : untext l most = ((l.drop n).take v, n + v, 0) := by
  unfold untext
  rw [h]
  simp only [ne_eq, not_true_eq_false, if_false]
  rw [if_neg hm, if_neg hs]
theorem untext_text (l m : List UInt8) (most : Int) (hl : (l.length : Int) ≤ most) (h64 : U64 l.length) : untext (text l ++ m) most = (l, (text l).length, 0) := by
  have h1 : unchain (text l ++ m) = (l.length, (chain l.length).length, 0) := by
    rw [text, List.append_assoc]; exact unchain_chain _ _ h64
  rw [untext_yes _ _ _ _ h1 (by omega) (by simp [text])]
  simp [text]

end Go.Proofs.YtbblkgdejgoncaaGreatDoor

/- Numbers as so many bytes (layer 1), as plain functions. No program in sight. -/
namespace Go.Proofs.YtbblkgdejgoncaaGreatDoor
open Go Go.RowKit

/-- A number as n bytes, the highest first. -/
def be : Nat → Nat → List UInt8
  | 0, _ => []
  | n + 1, v => be n (v / 256) ++ [UInt8.ofNat (v % 256)]
/-- The number of some bytes. -/
def num : List UInt8 → Nat := fun l => l.foldl (fun v c => v * 256 + c.toNat) 0
theorem be_length (n v : Nat) : (be n v).length = n := by
  induction n generalizing v with
  | zero => rfl
  | succ n ih => simp [be, ih]
theorem be_get (n v j : Nat) (h : j < n) : (be n v)[n - 1 - j]? = some (UInt8.ofNat (v / 256 ^ j % 256)) := by
  induction n generalizing v j with
  | zero => omega
  | succ n ih =>
    rw [be]
    by_cases e : j = 0
    · subst e
      rw [List.getElem?_append_right (by rw [be_length]; omega), be_length]
      simp
    · rw [List.getElem?_append_left (by rw [be_length]; omega)]
      have := ih (v / 256) (j - 1) (by omega)
      rw [show n + 1 - 1 - j = n - 1 - (j - 1) by omega, this, Nat.div_div_eq_div_mul, show 256 * 256 ^ (j - 1) = 256 ^ j by
        rw [Nat.mul_comm, ← Nat.pow_succ]; congr 1; omega]
theorem be_cons (n v : Nat) : be (n + 1) v = UInt8.ofNat (v / 256 ^ n % 256) :: be n v := by
  induction n generalizing v with
  | zero => simp [be]
  | succ n ih =>
    rw [be, ih (v / 256), List.cons_append, Nat.div_div_eq_div_mul, show 256 * 256 ^ n = 256 ^ (n + 1) by rw [Nat.mul_comm, ← Nat.pow_succ]]
    rfl
theorem num_snoc (l : List UInt8) (c : UInt8) : num (l ++ [c]) = num l * 256 + c.toNat := by simp [num]
theorem num_lt (l : List UInt8) : num l < 256 ^ l.length := by
  generalize hn : l.length = n
  induction n generalizing l with
  | zero =>
    have : l = [] := List.length_eq_zero_iff.1 hn
    subst this; simp [num]
  | succ n ih =>
    obtain ⟨m, c, rfl⟩ : ∃ m c, l = m ++ [c] := ⟨l.dropLast, l.getLast (by intro h; simp [h] at hn), (List.dropLast_concat_getLast _).symm⟩
    have := ih m (by simpa using hn)
    have hc := c.toNat_lt
    rw [num_snoc, Nat.pow_succ]
    omega
theorem num_be (n v : Nat) (h : v < 256 ^ n) : num (be n v) = v := by
  induction n generalizing v with
  | zero => simp at h; subst h; rfl
  | succ n ih =>
    rw [be, num_snoc, ih (v / 256) (by rw [Nat.div_lt_iff_lt_mul (by omega)]; rw [Nat.pow_succ] at h; exact h), UInt8.toNat_ofNat']
    omega
theorem be_num (l : List UInt8) : be l.length (num l) = l := by
  generalize hn : l.length = n
  induction n generalizing l with
  | zero =>
    have : l = [] := List.length_eq_zero_iff.1 hn
    subst this; rfl
  | succ n ih =>
    obtain ⟨m, c, rfl⟩ : ∃ m c, l = m ++ [c] := ⟨l.dropLast, l.getLast (by intro h; simp [h] at hn), (List.dropLast_concat_getLast _).symm⟩
    have hc := c.toNat_lt
    rw [be, num_snoc, show (num m * 256 + c.toNat) / 256 = num m by omega, show (num m * 256 + c.toNat) % 256 = c.toNat by omega, ih m (by simpa using hn)]
    congr 2
    exact UInt8.toNat_inj.1 (by rw [UInt8.toNat_ofNat']; omega)
/-- A number as so many bytes, or that it is none: the bytes, the error's number. -/
def fixed (v : Nat) (n : Int) : List UInt8 × Nat := if n < 1 ∨ 8 < n ∨ 256 ^ n.toNat ≤ v then ([], 1) else (be n.toNat v, 0)
def number (l : List UInt8) : Nat × Nat := if l.length < 1 ∨ 8 < l.length then (0, 1) else (num l, 0)
theorem fixed_no (v : Nat) (n : Int) (h : n < 1 ∨ 8 < n ∨ 256 ^ n.toNat ≤ v) : fixed v n = ([], 1) := if_pos h
theorem fixed_yes (v n : Nat) (h1 : 1 ≤ n) (h8 : n ≤ 8) (h : v < 256 ^ n) : fixed v n = (be n v, 0) := by
  unfold fixed
  rw [if_neg (by rw [Int.toNat_natCast]; omega), Int.toNat_natCast]
theorem number_no (l : List UInt8) (h : l.length < 1 ∨ 8 < l.length) : number l = (0, 1) := if_pos h
theorem number_yes (l : List UInt8) (h : ¬ (l.length < 1 ∨ 8 < l.length)) : number l = (num l, 0) := if_neg h
theorem num_U64 (l : List UInt8) (h : l.length ≤ 8) : U64 (num l) :=
  Nat.lt_of_lt_of_le (num_lt l) (Nat.pow_le_pow_right (show 0 < 256 by omega) h)

end Go.Proofs.YtbblkgdejgoncaaGreatDoor

/- Small facts on worlds: which blocks may have turned. No program in sight. -/
namespace Go.Proofs.YtbblkgdejgoncaaGreatDoor
open Go Go.RowKit

/-- Of what was there nothing has turned but the blocks that S names. -/
structure Touch (S : Nat → Prop) (w w' : World) : Prop where
  os : w'.os = w.os
  tape : w'.tape = w.tape
  output : w'.output = w.output
  size : w.heap.size ≤ w'.heap.size
  block : ∀ k, k < w.heap.size → ¬ S k → w'.heap[k]? = w.heap[k]?

theorem Touch.refl (S : Nat → Prop) (w : World) : Touch S w w := ⟨rfl, rfl, rfl, Nat.le_refl _, fun _ _ _ => rfl⟩
theorem Touch.trans {S : Nat → Prop} {a b c : World} (h : Touch S a b) (k : Touch S b c) : Touch S a c :=
  ⟨k.os.trans h.os, k.tape.trans h.tape, k.output.trans h.output, Nat.le_trans h.size k.size, fun i hi hn => (k.block i (Nat.lt_of_lt_of_le hi h.size) hn).trans (h.block i hi hn)⟩
theorem Touch.mono {S S' : Nat → Prop} {a b : World} (h : Touch S a b) (hs : ∀ k, k < a.heap.size → S k → S' k) : Touch S' a b :=
  ⟨h.os, h.tape, h.output, h.size, fun i hi hn => h.block i hi (fun hk => hn (hs i hi hk))⟩
theorem Touch.of_grown {w w' : World} {b : Nat} (h : w.grownBy w' (some b)) : Touch (· = b) w w' :=
  ⟨h.os, h.tape, h.output, h.size, fun k hk hn => h.block k hk (fun e => hn (Option.some.inj e))⟩
theorem Touch.of_below {S : Nat → Prop} {w w' : World} (h : Below w.heap.size w w') : Touch S w w' := ⟨h.os, h.tape, h.output, h.size, fun k hk _ => h.block k hk⟩
theorem Touch.alloc {S : Nat → Prop} {a b : World} (h : Touch S a b) (o : Obj) : Touch S a (b.alloc o) := h.trans (.of_below ((Below.refl _ _).alloc (Nat.le_refl _) o))
theorem Touch.drew {S : Nat → Prop} {a b : World} (h : Touch S a b) : Touch S a b.drew := ⟨h.os, h.tape, h.output, h.size, h.block⟩
theorem Touch.set {S : Nat → Prop} {a b : World} (h : Touch S a b) (x i : Nat) (v : Value) (hx : S x ∨ a.heap.size ≤ x) : Touch S a (b.setCell ⟨x, i, none⟩ v) :=
  ⟨h.os, h.tape, h.output, by simp [World.setCell]; exact h.size, fun k hk hn => by
    rw [Below.heap_setCell _ _ _ _ (fun e => by subst e; rcases hx with hx | hx; exact hn hx; exact absurd hk (Nat.not_lt.2 hx))]
    exact h.block k hk hn⟩
/-- A step that touches blocks of its own world, seen from an elder world. -/
theorem Touch.step {S S' : Nat → Prop} {a b c : World} (h : Touch S a b) (k : Touch S' b c) (hs : ∀ i, i < a.heap.size → S' i → S i) : Touch S a c :=
  ⟨k.os.trans h.os, k.tape.trans h.tape, k.output.trans h.output, Nat.le_trans h.size k.size, fun i hi hn =>
    (k.block i (Nat.lt_of_lt_of_le hi h.size) (fun hk => hn (hs i hi hk))).trans (h.block i hi hn)⟩
theorem Touch.below {S : Nat → Prop} {B : Nat} {w w' : World} (h : Touch S w w') (hB : B ≤ w.heap.size) (hs : ∀ k, S k → B ≤ k) : Below B w w' :=
  ⟨h.os, h.tape, h.output, h.size, fun k hk => h.block k (by omega) (fun hk' => by have := hs k hk'; omega)⟩
theorem Blk.touch {S : Nat → Prop} {w w' : World} {b : Nat} {cs : Array Value} {T : TypeId} (h : Blk w b cs T) (ht : Touch S w w') (hn : ¬ S b) : Blk w' b cs T := by
  unfold Blk
  rw [ht.block b h.lt hn]; exact h

theorem cell_touch {S : Nat → Prop} {w w' : World} {b i : Nat} (ht : Touch S w w') (hb : b < w.heap.size) (hn : ¬ S b) : w'.cell? ⟨b, i, none⟩ = w.cell? ⟨b, i, none⟩ :=
  World.cell?_of_block (w := w) (ht.block b hb hn)

end Go.Proofs.YtbblkgdejgoncaaGreatDoor

/- The walks of Number, the program's and the reference's. -/
namespace Go.Proofs.YtbblkgdejgoncaaGreatDoor
open Go.RowKit
theorem Tryz.infoByte : (Tryz.prog.info? 5).map (fun i => (i.zero, i.size, i.bytes)) = some (some (.int .u8 0), 1, 1) := by kernel_rfl
theorem data_length (s : ByteArray) : s.data.toList.length = s.size := by simp
theorem data_append (a b : ByteArray) : (a ++ b).data.toList = a.data.toList ++ b.data.toList := by simp

theorem take_bytes (s : ByteArray) (k : Nat) (h : k < s.size) : s.data.toList.take (k + 1) = s.data.toList.take k ++ [s[k]] := by
  rw [List.take_succ_eq_append_getElem (by simpa using h)]; rfl

theorem or_byte (A : Nat) (c : UInt8) (h : A < 72057594037927936) : bits BinOp.or IntKind.u64 (IntKind.u64.wrap ((A : Int) * 256)) (c.toNat : Int) = ((A * 256 + c.toNat : Nat) : Int) := by
  have hc := c.toNat_lt
  have e : IntKind.u64.wrap ((A : Int) * 256) = ((A * 256 : Nat) : Int) := by
    have := U64.wrap (n := A * 256) (by unfold U64; omega)
    simpa using this
  rw [e, u64_or_nat _ _ (by omega) (by omega)]
  have h2 : A * 256 ||| c.toNat = A * 256 + c.toNat := by
    have := Nat.two_pow_add_eq_or_of_lt (i := 8) (b := c.toNat) (by omega) A
    rw [show A * 256 = 2 ^ 8 * A by omega, ← this]
  rw [h2]

set_option maxRecDepth 100000 in
set_option maxHeartbeats 400000 in
theorem number_any (s : ByteArray) (w : World) (hs : s.size ≤ 9223372036854775807) :
    Calls Tryz.prog 101 #[.string s] w fun e w' => e = .returned (.tuple #[.int .u64 ((number s.data.toList).1 : Int), .int .i64 ((number s.data.toList).2 : Int)]) ∧ w = w' := by
  by_cases h1 : s.size < 1
  · have Hf := Lib.hid (number_no s.data.toList (by rw [data_length]; omega))
    go_enter Tryz.func101, Tryz.ntmps101
    go_wp2
    go_ret2
    exact ⟨by rw [Hf.out]; rfl, rfl⟩
  by_cases h8 : 8 < s.size
  · have Hf := Lib.hid (number_no s.data.toList (by rw [data_length]; omega))
    go_enter Tryz.func101, Tryz.ntmps101
    go_wp2
    go_ret2
    exact ⟨by rw [Hf.out]; rfl, rfl⟩
  have Hf := Lib.hid (number_yes s.data.toList (by rw [data_length]; omega))
  go_enter Tryz.func101, Tryz.ntmps101
  go_wp2
  go_loop [4, 5, 16] (fun v _ i => ∃ k A : Nat, k ≤ s.size ∧ i = .int .i64 k ∧ v = .int .u64 A ∧ A = num (s.data.toList.take k)) (fun _ _ i => s.size - (intOf i).toNat)
  case atStart => exact ⟨0, 0, by omega, rfl, rfl, rfl⟩
  case round =>
    obtain ⟨k, A, hk, rfl, rfl, hA⟩ := hrel
    by_cases hlt : k < s.size
    · have hA7 : A < 72057594037927936 := by
        rw [hA]
        refine Nat.lt_of_lt_of_le (num_lt _) ?_
        refine Nat.le_trans (Nat.pow_le_pow_right (show 0 < 256 by omega) (show _ ≤ 7 from ?_)) (by decide)
        simp; omega
      have hX := or_byte A s[k] hA7
      have hX2 := Lib.hid (num_snoc (s.data.toList.take k) s[k])
      have hc256 := s[k].toNat_lt
      have HA := Lib.hid hA
      clear hA hA7
      go_wp2
      go_round
      case rel => exact ⟨k + 1, _, by omega, by go_num, rfl, by rw [take_bytes _ _ hlt, hX2.out, ← HA.out]⟩
      case measure => simp [intOf]; omega
    · have HA := Lib.hid hA
      clear hA
      go_wp2
      go_ret2
      exact ⟨by rw [Hf.out, HA.out, List.take_of_length_le (by simp; omega)]; rfl, rfl⟩

end Go.Proofs.YtbblkgdejgoncaaGreatDoor

/- The walks of Fixed, the program's and the reference's. -/
namespace Go.Proofs.YtbblkgdejgoncaaGreatDoor
open Go.RowKit
theorem bytes_one (w : World) (x : Int) (c : UInt8) (h : Value.int .u8 x = byteV c) :
    (convert 96 9 (.slice (some ⟨w.heap.size, 0, none⟩) 1 1)).run Tryz.prog (w.alloc (.cells #[.int .u8 x] 5)) = .ok (.string ⟨#[c]⟩) (w.alloc (.cells #[.int .u8 x] 5)) := by
  have := run_convert_bytes_back (P := Tryz.prog) (w.alloc (.cells #[.int .u8 x] 5)) 96 9 5 ⟨w.heap.size, 0, none⟩ 1 [c] Tryz.underlying96 Tryz.underlying5 Tryz.underlying9 (fun j hj => by
    obtain rfl : j = 0 := by simpa using hj
    rw [addr_add0, cell_alloc_new]
    rw [h]
    rfl)
  exact this

/-- What lies in the row of Fixed behind k rounds. -/
def FixAt (arr : Array Value) (V n k : Nat) : Prop := arr.size = n ∧ ∀ j, j < k → arr[n - 1 - j]? = some (byteV (UInt8.ofNat (V / 256 ^ j % 256)))

theorem FixAt.set {arr : Array Value} {V n k : Nat} (h : FixAt arr V n k) (hk : k < n) : FixAt (arr.setIfInBounds (n - 1 - k) (byteV (UInt8.ofNat (V / 256 ^ k % 256)))) V n (k + 1) := by
  obtain ⟨h1, h2⟩ := h
  refine ⟨by simp [h1], fun j hj => ?_⟩
  rw [Array.getElem?_setIfInBounds]
  by_cases e : j = k
  · subst e
    simp [h1, show n - 1 - j < n by omega]
  · rw [if_neg (by omega)]
    exact h2 j (by omega)
theorem FixAt.done {arr : Array Value} {V n : Nat} (h : FixAt arr V n n) (j : Nat) (hj : j < (be n V).length) : arr[j]? = some (.int .u8 (((be n V)[j]).toNat : Int)) := by
  rw [be_length] at hj
  have h1 := h.2 (n - 1 - j) (by omega)
  have h2 := be_get n V (n - 1 - j) (by omega)
  rw [show n - 1 - (n - 1 - j) = j by omega] at h1 h2
  rw [List.getElem?_eq_getElem (by rw [be_length]; omega)] at h2
  rw [h1, Option.some.inj h2]
  rfl

theorem ret_strE {s : ByteArray} {l : List UInt8} {x y : Int} (h : s.data.toList = l) (hy : x = y) : Ending.returned (.tuple #[.string s, .int .i64 x]) = .returned (.tuple #[str l, .int .i64 y]) := by
  subst h; rw [hy]; rfl
theorem shr_byte (V k : Nat) : IntKind.u8.wrap ((V : Int) / (2 : Int) ^ (8 * k)) = ((UInt8.ofNat (V / 256 ^ k % 256)).toNat : Int) := by
  rw [byte_mod _ (Nat.mod_lt _ (by omega)), IntKind.wrap_u8', show (256 : Nat) ^ k = 2 ^ (8 * k) by rw [Nat.pow_mul]]
  simp

set_option maxRecDepth 100000 in
set_option maxHeartbeats 400000 in
theorem fixed_walk (V n : Nat) (w : World) (h1 : 1 ≤ n) (h8 : n ≤ 8) (h : V < 256 ^ n) :
    Calls Tryz.prog 83 #[.int .u64 V, .int .i64 n] w fun e w' => e = .returned (.tuple #[str (be n V), .int .i64 0]) ∧ Below w.heap.size w w' := by
  obtain ⟨i0, hi, hz0, hz1, hz2⟩ := info_parts Tryz.infoByte
  have hmk : ∀ w, (Instr.makeSlice 96 (.int .i64 (n : Int)) (.int .i64 (n : Int))).run Tryz.prog w = .ok (.slice (some ⟨w.heap.size, 0, none⟩) n n) (w.alloc (.cells (madeCells (Value.int .u8 0).cells (n * 1)) 5)) := fun w => by
    have := run_make (P := Tryz.prog) w 96 5 i0 (.int .u8 0) Tryz.underlying96 hi hz0 .i64 .i64 n n (by omega) (by omega) (by rw [hz2]; omega) (by omega)
    rw [hz1] at this
    simpa using this
  obtain ⟨C, hC, hCs⟩ : ∃ C, C = madeCells (Value.int .u8 0).cells (n * 1) ∧ C.size = n := ⟨_, rfl, by rw [size_madeCells]; omega⟩
  rw [← hC] at hmk
  have hdec : ((n : Int) < 8) → ((V : Int) / (2 : Int) ^ (8 * n) != 0) = false := fun _ => by
    have : V / 2 ^ (8 * n) = 0 := Nat.div_eq_of_lt (by rw [Nat.pow_mul]; exact h)
    have e : ((V : Int) / (2 : Int) ^ (8 * n)) = ((V / 2 ^ (8 * n) : Nat) : Int) := by simp
    rw [e, this]; rfl
  have HC := Lib.hid hCs
  have Hh := Lib.hid h
  clear hC hCs h hi hz0 hz1 hz2
  by_cases hn8 : (n : Int) < 8
  all_goals
    first
      | (have hdec' := hdec hn8)
      | skip
    clear hdec
    go_enter Tryz.func83, Tryz.ntmps83
    go_wp2
    go_loopw [7, 29] (fun _ i wr => ∃ k : Nat, k ≤ n ∧ i = .int .i64 k ∧ ∃ arr, FixAt arr V n k ∧ wr = w.alloc (.cells arr 5)) (fun _ i _ => n - (intOf i).toNat)
    case atStart => exact ⟨0, by omega, rfl, C, ⟨HC.out, fun j hj => by omega⟩, rfl⟩
    case round =>
      obtain ⟨k, hk, rfl, arr, harr, rfl⟩ := hrel
      have Harr := Lib.hid harr
      clear harr
      by_cases hlt : k < n
      · have hw := shr_byte V k
        have hbv : Value.int .u8 ((UInt8.ofNat (V / 256 ^ k % 256)).toNat : Int) = byteV (UInt8.ofNat (V / 256 ^ k % 256)) := rfl
        have Hset := Lib.hid (Harr.out.set hlt)
        generalize UInt8.ofNat (V / 256 ^ k % 256) = c at *
        have Hbv := Lib.hid hbv
        clear hbv
        obtain ⟨x, hx⟩ : ∃ x, arr[n - 1 - k]? = some x := ⟨_, Array.getElem?_eq_getElem (by rw [Harr.out.1]; omega)⟩
        have hidx : ((n : Int) - 1 - (k : Int)).toNat = n - 1 - k := by omega
        go_wp2
        go_roundw
        case rel => exact ⟨k + 1, by omega, by go_num, _, Hset.out, by rw [← Hbv.out]⟩
        case measure => simp [intOf]; omega
      · obtain rfl : k = n := by omega
        have hcv := run_convert_bytes_back (P := Tryz.prog) (w.alloc (.cells arr 5)) 96 9 5 ⟨w.heap.size, 0, none⟩ k (be k V) Tryz.underlying96 Tryz.underlying5 Tryz.underlying9 (fun j hj => by
          rw [addr_add0, cell_alloc_new]; exact Harr.out.done j hj)
        rw [be_length] at hcv
        go_wp2
        go_ret2
        exact ⟨rfl, (Below.refl _ _).alloc (Nat.le_refl _) _⟩

set_option maxRecDepth 100000 in
set_option maxHeartbeats 400000 in
theorem fixed_any (V : Nat) (n : Int) (w : World) (hV : U64 V) (hn0 : -9223372036854775808 ≤ n) (hn1 : n ≤ 9223372036854775807) :
    Calls Tryz.prog 83 #[.int .u64 V, .int .i64 n] w fun e w' => e = .returned (.tuple #[str (fixed V n).1, .int .i64 ((fixed V n).2 : Int)]) ∧ Below w.heap.size w w' := by
  by_cases hno : n < 1 ∨ 8 < n ∨ 256 ^ n.toNat ≤ V
  · have Hf := Lib.hid (fixed_no V n hno)
    by_cases h1 : n < 1
    · clear hno
      go_enter Tryz.func83, Tryz.ntmps83
      go_wp2
      go_ret2
      exact ⟨by rw [Hf.out]; rfl, Below.refl _ _⟩
    by_cases h8 : 8 < n
    · clear hno
      go_enter Tryz.func83, Tryz.ntmps83
      go_wp2
      go_ret2
      exact ⟨by rw [Hf.out]; rfl, Below.refl _ _⟩
    obtain ⟨n, rfl⟩ := Int.eq_ofNat_of_zero_le (show 0 ≤ n by omega)
    have hbig : 256 ^ n ≤ V := by
      rcases hno with h | h | h
      · exact absurd h h1
      · exact absurd h h8
      · simpa using h
    have hn8 : n < 8 := by
      by_cases h : n < 8
      · exact h
      · have : (256 : Nat) ^ 8 ≤ 256 ^ n := Nat.pow_le_pow_right (by omega) (by omega)
        unfold U64 at hV; omega
    have hdec : ((V : Int) / (2 : Int) ^ (8 * n) != 0) = true := by
      have h2 : 0 < V / 2 ^ (8 * n) := Nat.div_pos (by rw [Nat.pow_mul]; exact hbig) (Nat.pow_pos (by omega))
      have e : ((V : Int) / (2 : Int) ^ (8 * n)) = ((V / 2 ^ (8 * n) : Nat) : Int) := by simp
      rw [e, bne_iff_ne]; omega
    clear hno hbig
    go_enter Tryz.func83, Tryz.ntmps83
    go_wp2
    go_ret2
    exact ⟨by rw [Hf.out]; rfl, Below.refl _ _⟩
  · obtain ⟨n, rfl⟩ := Int.eq_ofNat_of_zero_le (show 0 ≤ n by omega)
    have h : V < 256 ^ n := by
      have : ¬ (256 ^ (n : Int).toNat ≤ V) := fun h => hno (.inr (.inr h))
      rw [Int.toNat_natCast] at this; omega
    rw [fixed_yes V n (by omega) (by omega) h]
    exact fixed_walk V n w (by omega) (by omega) h

end Go.Proofs.YtbblkgdejgoncaaGreatDoor

/- The walks of layer 23: sealed blocks. -/
set_option linter.unusedSimpArgs false
set_option linter.unusedVariables false
namespace Go.Proofs.YtbblkgdejgoncaaGreatDoor
open Go Go.RowKit

section
theorem infSealW_5 : Tryz.prog.info? 5 = some Tryz.t5 := by kernel_rfl
theorem infSealW_152 : Tryz.prog.info? 152 = some Tryz.t152 := by kernel_rfl


/-- A seal as bytes. -/
def markL (e i : Nat) : List UInt8 := be 4 e ++ be 4 i
def sealL (e i : Nat) (d : List UInt8) : List UInt8 := if e = 0 ∨ d.length ≠ 48 then [] else be 4 e ++ be 4 i ++ d ++ be 4 e ++ be 4 i
def sealE (e : Nat) (d : List UInt8) : Nat := if e = 0 ∨ d.length ≠ 48 then 1 else 0
def openOk (b : List UInt8) : Bool := if b.length = 64 ∧ b.take 8 = b.drop 56 ∧ num (b.take 4) ≠ 0 then true else false
def openE (b : List UInt8) : Nat := if openOk b then num (b.take 4) else 0
def openI (b : List UInt8) : Nat := if openOk b then num ((b.take 8).drop 4) else 0
def openD (b : List UInt8) : List UInt8 := if openOk b then (b.take 56).drop 8 else []
theorem openE_lt (b : List UInt8) : openE b < 4294967296 := by
  unfold openE
  split
  · have h := num_lt (b.take 4)
    have : (256 : Nat) ^ (b.take 4).length ≤ 256 ^ 4 := Nat.pow_le_pow_right (by omega) (by simp; omega)
    omega
  · omega
theorem openI_lt (b : List UInt8) : openI b < 4294967296 := by
  unfold openI
  split
  · have h := num_lt ((b.take 8).drop 4)
    have : (256 : Nat) ^ ((b.take 8).drop 4).length ≤ 256 ^ 4 := Nat.pow_le_pow_right (by omega) (by simp; omega)
    omega
  · omega
theorem fixed4 (v : Nat) (h : v < 4294967296) : fixed v 4 = (be 4 v, 0) := by
  have : ¬ ((4 : Int) < 1 ∨ 8 < (4 : Int) ∨ 256 ^ (4 : Int).toNat ≤ v) := by
    have : (256 : Nat) ^ (4 : Int).toNat = 4294967296 := by decide
    omega
  unfold fixed
  simp [this, h]
theorem ct_fixed4 (v : Nat) (h : v < 4294967296) : Ct Tryz.prog 83 [.int .u64 (v : Int), .int .i64 4] [] [] (fun v' post => v' = .tuple #[.string (bs (be 4 v)), .int .i64 0] ∧ post = []) :=
  ct_below (fun w => by
    have := fixed_any v 4 w (by unfold U64; omega) (by omega) (by omega)
    rw [fixed4 v h] at this
    exact this)
theorem num4_lt (l : List UInt8) (h : l.length ≤ 4) : num l < 4294967296 := by
  have h1 := num_lt l
  have : (256 : Nat) ^ l.length ≤ 256 ^ 4 := Nat.pow_le_pow_right (by omega) h
  omega
theorem number4 (l : List UInt8) (h : l.length = 4) : number l = (num l, 0) := by
  unfold number
  simp [h]
theorem ct_number4 (l : List UInt8) (h : l.length = 4) : Ct Tryz.prog 101 [.string (bs l)] [] [] (fun v' post => v' = .tuple #[.int .u64 ((num l : Nat) : Int), .int .i64 0] ∧ post = []) :=
  ct_same (fun w => by
    have := number_any (bs l) w (by rw [bs_size]; omega)
    rw [bs_data, number4 l h] at this
    exact this)
theorem eight_cells (cs : Array Value) (l : List UInt8) (h : l.length = 8) (hc : cs.size = 8) : laid cs 0 (bcells (l.take 8)) = (bcells l).toArray := by
  unfold laid
  have h1 : l.take 8 = l := List.take_of_length_le (by omega)
  rw [h1]
  have h2 : cs.toList.drop (0 + (bcells l).length) = [] := List.drop_eq_nil_of_le (by rw [bcells_length]; simp; omega)
  rw [h2]
  simp

set_option maxRecDepth 100000 in
set_option maxHeartbeats 1000000 in
theorem seal_of (l : List UInt8) (h : l.length = 8) :
    Ct Tryz.prog 88 [.string (bs l)] [] [] fun v post => v = .agg (bcells l).toArray ∧ post = [] := by
 refine ct_of Tryz.func88 rfl rfl (fun w0 => ?_)
 show G _ _ [(0, _)] _ _
 refine G_seq ?_
 refine G_region (l := [0]) rfl ?_
 refine G_new rfl rfl rfl rfl (N_allocA rfl infSealW_152 rfl) (fun b2 => ?_)
 refine G_done ?_
 refine G_seq ?_
 refine G_region (l := [0]) rfl ?_
 refine G_new rfl rfl rfl rfl (N_allocA rfl infSealW_152 rfl) (fun b3 => ?_)
 refine G_done ?_
 refine G_seq ?_
 refine G_region (l := [0, 1, 2]) rfl ?_
 refine G_val rfl rfl rfl rfl (V_aslice rfl Tryz.underlying152 infSealW_5 rfl) ?_
 refine G_val rfl rfl rfl rfl (V_move rfl rfl) ?_
 refine G_putV (l1 := []) (L' := [_, _]) rfl rfl rfl rfl rfl (P_copyS rfl rfl Tryz.underlying96 infSealW_5 rfl rfl rfl (mem_at 0 rfl) (by first | omega | (simp; done) | (simp; omega) | (simp at *; omega))) rfl ?_
 refine G_done ?_
 refine G_seq ?_
 rw [eight_cells _ l h rfl]
 refine G_region (l := [0, 1]) rfl ?_
 refine G_val rfl rfl rfl rfl (V_loadW (s := 8) rfl rfl (mem_at 0 rfl) Tryz.underlying152 rfl infSealW_152 rfl (by (simp [bcells_length]; omega))) ?_
 refine G_put (l1 := [_]) (L' := [_, _]) rfl rfl rfl rfl (P_storeA (s := 8) rfl rfl rfl (mem_at 1 rfl) (by (simp [bcells_length]; omega)) infSealW_152 rfl (by (simp [bcells_length]; omega)) (by exact bcells_all _)) rfl ?_
 refine G_done ?_
 refine G_ret (post := []) Tryz.func88 rfl (RVs_cons (RV_cell (s := 8) rfl (mem_at 1 rfl) Tryz.underlying152 rfl infSealW_152 rfl (by (simp [bcells_length]; omega))) RVs_nil) [] rfl ?_
 dsimp only [packed]
 exact ⟨rfl, rfl⟩

set_option maxRecDepth 100000 in
set_option maxHeartbeats 1000000 in
theorem seal_number (b off cap : Nat) (cs : Array Value) (T : TypeId) (l : List UInt8) (h : l.length = 4) (hc : (cs.toList.drop off).take 4 = bcells l) :
    Ct Tryz.prog 89 [.slice (some ⟨b, off, none⟩) 4 cap] [(some b, .cells cs T (0, 0))] [] fun v post => v = .int .u32 ((num l : Nat) : Int) ∧ post = [] := by
 have hn := num4_lt l (by omega)
 refine ct_of Tryz.func89 rfl rfl (fun w0 => ?_)
 show G _ _ [(0, _)] _ _
 refine G_seq ?_
 refine G_region (l := [0]) rfl ?_
 refine G_val rfl rfl rfl rfl (V_assign rfl rfl) ?_
 refine G_done ?_
 refine G_seq ?_
 refine G_region (l := [0, 1, 2, 3, 4, 5, 6, 7]) rfl ?_
 refine G_val rfl rfl rfl rfl (V_move rfl rfl) ?_
 refine G_val rfl rfl rfl rfl (V_bytesS (l := l) rfl rfl Tryz.underlying96 Tryz.underlying5 Tryz.underlying9 (mem_at 0 rfl) h hc) ?_
 refine G_call (L2 := []) rfl rfl rfl rfl rfl rfl Tryz.call101 (ct_number4 _ (by first | omega | (simp; done) | (simp; omega) | (simp at *; omega))) [] [] rfl rfl ?_
 rintro v post ⟨rfl, rfl⟩
 refine G_val rfl rfl rfl rfl (V_move rfl rfl) ?_
 refine G_val rfl rfl rfl rfl (V_extract rfl rfl rfl) ?_
 refine G_val rfl rfl rfl rfl (V_extract rfl rfl rfl) ?_
 refine G_val rfl rfl rfl rfl (V_assign rfl rfl) ?_
 refine G_val rfl rfl rfl rfl (V_assign rfl rfl) ?_
 refine G_done ?_
 refine G_seq ?_
 refine G_region (l := [0, 1, 2]) rfl ?_
 refine G_val rfl rfl rfl rfl (V_move rfl rfl) ?_
 refine G_val rfl rfl rfl rfl ((V_conv rfl rfl Tryz.underlying124 Tryz.underlying50).int (wrap_u32 (by omega))) ?_
 refine G_val rfl rfl rfl rfl (V_assign rfl rfl) ?_
 refine G_done ?_
 refine G_ret (post := []) Tryz.func89 rfl (RVs_cons (RV_tmp rfl) RVs_nil) [] rfl ?_
 dsimp only [packed]
 exact ⟨rfl, rfl⟩

set_option maxRecDepth 100000 in
set_option maxHeartbeats 1000000 in
theorem seal_seal (e i : Nat) (d : List UInt8) (he : e < 4294967296) (hi : i < 4294967296) (hd : d.length ≤ 9223372036854775000) :
    Ct Tryz.prog 63 [.int .u32 (e : Int), .int .u32 (i : Int), .string (bs d)] [] [] fun v post => v = .tuple #[.string (bs (sealL e i d)), .int .i64 ((sealE e d : Nat) : Int)] ∧ post = [] := by
 have hb1 := be_length 4 e
 have hb2 := be_length 4 i
 refine ct_of Tryz.func63 rfl rfl (fun w0 => ?_)
 show G _ _ [(0, _), (1, _), (2, _)] _ _
 refine G_seq ?_
 refine G_region (l := [0, 1]) rfl ?_
 refine G_val rfl rfl rfl rfl (V_assign rfl rfl) ?_
 refine G_val rfl rfl rfl rfl (V_assign rfl rfl) ?_
 refine G_done ?_
 refine G_seq ?_
 refine G_seq ?_
 refine G_region (l := [0, 1, 2, 3, 4, 5, 6]) rfl ?_
 refine G_val rfl rfl rfl rfl (V_move rfl rfl) ?_
 refine G_val rfl rfl rfl rfl (V_eql rfl rfl rfl) ?_
 refine G_val rfl rfl rfl rfl (V_move rfl rfl) ?_
 refine G_splitD 14 rfl (fun hc1 => ?_) (fun hc1 => ?_)
 ·
  refine G_off rfl rfl rfl rfl ?_
  refine G_off rfl rfl rfl rfl ?_
  refine G_off rfl rfl rfl rfl ?_
  refine G_val rfl rfl rfl rfl (V_pickT rfl rfl rfl) ?_
  refine G_done ?_
  refine G_then rfl ?_
  refine G_seq ?_
  refine G_region (l := [0, 1]) rfl ?_
  refine G_val rfl rfl rfl rfl (V_assign rfl rfl) ?_
  refine G_val rfl rfl rfl rfl (V_assign rfl rfl) ?_
  refine G_done ?_
  refine G_ret (post := []) Tryz.func63 rfl (RVs_cons (RV_tmp rfl) (RVs_cons (RV_tmp rfl) RVs_nil)) [] rfl ?_
  dsimp only [packed]
  refine ⟨?_, rfl⟩; unfold sealL sealE; first | (rw [if_pos (by omega), if_pos (by omega)]; rfl) | (rw [if_neg (by omega), if_neg (by omega)]; rfl)
 refine G_val rfl rfl rfl rfl (V_move rfl rfl) ?_
 refine G_val rfl rfl rfl rfl (V_slen rfl rfl Tryz.underlying9 rfl) ?_
 refine G_val rfl rfl rfl rfl (V_neq rfl rfl rfl) ?_
 refine G_val rfl rfl rfl rfl (V_pickF rfl rfl rfl) ?_
 refine G_done ?_
 refine G_ifD rfl (fun hc2 => ?_) (fun hc2 => ?_)
 ·
  refine G_seq ?_
  refine G_region (l := [0, 1]) rfl ?_
  refine G_val rfl rfl rfl rfl (V_assign rfl rfl) ?_
  refine G_val rfl rfl rfl rfl (V_assign rfl rfl) ?_
  refine G_done ?_
  refine G_ret (post := []) Tryz.func63 rfl (RVs_cons (RV_tmp rfl) (RVs_cons (RV_tmp rfl) RVs_nil)) [] rfl ?_
  dsimp only [packed]
  refine ⟨?_, rfl⟩; unfold sealL sealE; first | (rw [if_pos (by omega), if_pos (by omega)]; rfl) | (rw [if_neg (by omega), if_neg (by omega)]; rfl)
 refine G_skip ?_
 refine G_seq ?_
 refine G_region (l := [0, 1, 2, 3, 4, 5, 6, 7]) rfl ?_
 refine G_val rfl rfl rfl rfl (V_move rfl rfl) ?_
 refine G_val rfl rfl rfl rfl ((V_conv rfl rfl Tryz.underlying50 Tryz.underlying124).int (wrap_u64 (by omega))) ?_
 refine G_call (L2 := []) rfl rfl rfl rfl rfl rfl Tryz.call83 (ct_fixed4 _ (by omega)) [] [] rfl rfl ?_
 rintro v post ⟨rfl, rfl⟩
 refine G_val rfl rfl rfl rfl (V_move rfl rfl) ?_
 refine G_val rfl rfl rfl rfl (V_extract rfl rfl rfl) ?_
 refine G_val rfl rfl rfl rfl (V_extract rfl rfl rfl) ?_
 refine G_val rfl rfl rfl rfl (V_assign rfl rfl) ?_
 refine G_val rfl rfl rfl rfl (V_assign rfl rfl) ?_
 refine G_done ?_
 refine G_seq ?_
 refine G_region (l := [0, 1, 2, 3, 4, 5, 6, 7]) rfl ?_
 refine G_val rfl rfl rfl rfl (V_move rfl rfl) ?_
 refine G_val rfl rfl rfl rfl ((V_conv rfl rfl Tryz.underlying50 Tryz.underlying124).int (wrap_u64 (by omega))) ?_
 refine G_call (L2 := []) rfl rfl rfl rfl rfl rfl Tryz.call83 (ct_fixed4 _ (by omega)) [] [] rfl rfl ?_
 rintro v post ⟨rfl, rfl⟩
 refine G_val rfl rfl rfl rfl (V_move rfl rfl) ?_
 refine G_val rfl rfl rfl rfl (V_extract rfl rfl rfl) ?_
 refine G_val rfl rfl rfl rfl (V_extract rfl rfl rfl) ?_
 refine G_val rfl rfl rfl rfl (V_assign rfl rfl) ?_
 refine G_val rfl rfl rfl rfl (V_assign rfl rfl) ?_
 refine G_done ?_
 refine G_seq ?_
 refine G_region (l := [0, 1, 2, 3, 4, 5, 6, 7, 8, 9, 10]) rfl ?_
 refine G_val rfl rfl rfl rfl (V_move rfl rfl) ?_
 refine G_val rfl rfl rfl rfl (V_move rfl rfl) ?_
 refine G_val rfl rfl rfl rfl (V_sadd rfl rfl rfl (by first | omega | (simp; done) | (simp; omega) | (simp at *; omega))) ?_
 refine G_val rfl rfl rfl rfl (V_move rfl rfl) ?_
 refine G_val rfl rfl rfl rfl (V_sadd rfl rfl rfl (by first | omega | (simp; done) | (simp; omega) | (simp at *; omega))) ?_
 refine G_val rfl rfl rfl rfl (V_move rfl rfl) ?_
 refine G_val rfl rfl rfl rfl (V_sadd rfl rfl rfl (by first | omega | (simp; done) | (simp; omega) | (simp at *; omega))) ?_
 refine G_val rfl rfl rfl rfl (V_move rfl rfl) ?_
 refine G_val rfl rfl rfl rfl (V_sadd rfl rfl rfl (by first | omega | (simp; done) | (simp; omega) | (simp at *; omega))) ?_
 refine G_val rfl rfl rfl rfl (V_assign rfl rfl) ?_
 refine G_val rfl rfl rfl rfl (V_assign rfl rfl) ?_
 refine G_done ?_
 refine G_ret (post := []) Tryz.func63 rfl (RVs_cons (RV_tmp rfl) (RVs_cons (RV_tmp rfl) RVs_nil)) [] rfl ?_
 dsimp only [packed]
 refine ⟨?_, rfl⟩; unfold sealL sealE; first | (rw [if_pos (by omega), if_pos (by omega)]; rfl) | (rw [if_neg (by omega), if_neg (by omega)]; rfl)


def openT (b : List UInt8) : Value := .tuple #[.int .u32 ((openE b : Nat) : Int), .int .u32 ((openI b : Nat) : Int), .string (bs (openD b)), .bool (openOk b)]
theorem open_not {b : List UInt8} (h : openOk b = false) : openT b = .tuple #[.int .u32 0, .int .u32 0, .string (bs []), .bool false] := by
  unfold openT openE openI openD
  simp [h]
theorem open_len {b : List UInt8} (h : ¬ (b.length : Int) = 64) : openOk b = false := by
  unfold openOk; simp; omega
theorem open_neq {b : List UInt8} (h : ¬ b.take 8 = b.drop 56) : openOk b = false := by
  unfold openOk; simp [h]
theorem open_zero {b : List UInt8} (h : ((num (b.take 4) : Nat) : Int) = 0) : openOk b = false := by
  unfold openOk
  have : num (b.take 4) = 0 := by omega
  simp [this]
theorem open_ok {b : List UInt8} (h1 : (b.length : Int) = 64) (h2 : b.take 8 = b.drop 56) (h3 : ¬ ((num (b.take 4) : Nat) : Int) = 0) : openOk b = true := by
  unfold openOk
  have : ¬ num (b.take 4) = 0 := by omega
  simp [this, h2]; omega
theorem open_yes {b : List UInt8} (h : openOk b = true) : openT b = .tuple #[.int .u32 ((num (b.take 4) : Nat) : Int), .int .u32 ((num ((b.take 8).drop 4) : Nat) : Int), .string (bs ((b.take 56).drop 8)), .bool true] := by
  unfold openT openE openI openD
  simp [h]
def openA (b : List UInt8) : Value := .agg #[.int .u32 ((openE b : Nat) : Int), .int .u32 ((openI b : Nat) : Int), .string (bs (openD b)), .bool (openOk b)]
theorem openA_not {b : List UInt8} (h : openOk b = false) : openA b = .agg #[.int .u32 0, .int .u32 0, .string (bs []), .bool false] := by
  unfold openA openE openI openD
  simp [h]
theorem openA_yes {b : List UInt8} (h : openOk b = true) : openA b = .agg #[.int .u32 ((num (b.take 4) : Nat) : Int), .int .u32 ((num ((b.take 8).drop 4) : Nat) : Int), .string (bs ((b.take 56).drop 8)), .bool true] := by
  unfold openA openE openI openD
  simp [h]
theorem take4 (b : List UInt8) : ((bcells (b.take 8)).toArray.toList.drop 0).take 4 = bcells (b.take 4) := by simp [bcells_take, List.take_take]
theorem drop4 (b : List UInt8) (h : b.length = 64) : ((bcells (b.take 8)).toArray.toList.drop 4).take 4 = bcells ((b.take 8).drop 4) := by
  simp only [bcells_take, bcells_drop]
  rw [List.take_of_length_le (by simp; omega)]
theorem key8 (l : List UInt8) (h : l.length = 8) : Tryz.prog.keyLits 2 152 (bcells l).toArray.toList = some (l.map fun c => .int .u8 (c.toNat : Int)) :=
  keyLits_bytes (D := 0) Tryz.underlying152 Tryz.underlying5 (by kernel_rfl) (by kernel_rfl) l h

set_option maxRecDepth 100000 in
set_option maxHeartbeats 1000000 in
theorem seal_open (b : List UInt8) (hb : b.length ≤ 9223372036854775807) :
    Ct Tryz.prog 75 [.string (bs b)] [] [] fun v post => v = openT b ∧ post = [] := by
 refine ct_of Tryz.func75 rfl rfl (fun w0 => ?_)
 show G _ _ [(0, _)] _ _
 refine G_seq ?_
 refine G_region (l := [0, 1, 2, 3]) rfl ?_
 refine G_val rfl rfl rfl rfl (V_assign rfl rfl) ?_
 refine G_val rfl rfl rfl rfl (V_assign rfl rfl) ?_
 refine G_val rfl rfl rfl rfl (V_assign rfl rfl) ?_
 refine G_val rfl rfl rfl rfl (V_assign rfl rfl) ?_
 refine G_done ?_
 refine G_seq ?_
 refine G_seq ?_
 refine G_region (l := [0, 1, 2]) rfl ?_
 refine G_val rfl rfl rfl rfl (V_move rfl rfl) ?_
 refine G_val rfl rfl rfl rfl (V_slen rfl rfl Tryz.underlying9 rfl) ?_
 refine G_val rfl rfl rfl rfl (V_neq rfl rfl rfl) ?_
 refine G_done ?_
 refine G_ifD rfl (fun hc1 => ?_) (fun hc1 => ?_)
 ·
  refine G_seq ?_
  refine G_region (l := [0, 1, 2, 3]) rfl ?_
  refine G_val rfl rfl rfl rfl (V_assign rfl rfl) ?_
  refine G_val rfl rfl rfl rfl (V_assign rfl rfl) ?_
  refine G_val rfl rfl rfl rfl (V_assign rfl rfl) ?_
  refine G_val rfl rfl rfl rfl (V_assign rfl rfl) ?_
  refine G_done ?_
  refine G_ret (post := []) Tryz.func75 rfl (RVs_cons (RV_tmp rfl) (RVs_cons (RV_tmp rfl) (RVs_cons (RV_tmp rfl) (RVs_cons (RV_tmp rfl) RVs_nil)))) [] rfl ?_
  dsimp only [packed]
  first
    | exact ⟨(open_not (open_len (by omega))).symm, rfl⟩
    | exact ⟨(open_not (open_neq (fun h => absurd h (by assumption)))).symm, rfl⟩
    | exact ⟨(open_not (open_neq (fun h => absurd (congrArg _ h) (by assumption)))).symm, rfl⟩
    | exact ⟨(open_not (open_zero (by assumption))).symm, rfl⟩
    | exact ⟨(open_yes (open_ok (by omega) (lits_bytes_inj (by first | assumption | exact Classical.not_not.1 (by assumption))) (by assumption))).symm, rfl⟩
    | exact ⟨(open_yes (open_ok (by omega) (by first | assumption | exact Classical.not_not.1 (by assumption)) (by assumption))).symm, rfl⟩
 refine G_skip ?_
 refine G_seq ?_
 refine G_region (l := [0]) rfl ?_
 refine G_val rfl rfl rfl rfl (V_assign rfl rfl) ?_
 refine G_done ?_
 refine G_seq ?_
 refine GH_start (Lq := []) (isq := []) (m := 11) mixedK rfl rfl ?_
 refine GH_join (X := Nat × Nat) (fun xj => match xj with | ⟨b7, b8⟩ => [(0, .string (bs b)), (6, .int .i64 56), (7, .pointer (some ⟨b7, 0, none⟩)), (8, .pointer (some ⟨b8, 0, none⟩))]) (fun xj => match xj with | ⟨b7, b8⟩ => [(some b7, .cells (bcells (b.take 8)).toArray 152 (0, 0)), (some b8, .cells (bcells (b.drop 56)).toArray 152 (0, 0))]) ?rest4 (fun jn4 => ?main4)
 case rest4 =>
  intro xj
  obtain ⟨b7, b8⟩ := xj
  show G _ _ [(0, .string (bs b)), (6, .int .i64 56), (7, .pointer (some ⟨b7, 0, none⟩)), (8, .pointer (some ⟨b8, 0, none⟩))] [(some b7, .cells (bcells (b.take 8)).toArray 152 (0, 0)), (some b8, .cells (bcells (b.drop 56)).toArray 152 (0, 0))] _
  refine G_seq ?_
  refine G_region (l := [0, 1, 2]) rfl ?_
  refine G_val rfl rfl rfl rfl (V_asliceH (h := 4) rfl Tryz.underlying152 infSealW_5 rfl rfl rfl (by first | omega | (simp; done) | (simp; omega) | (simp at *; omega))) ?_
  refine G_call (L2 := [_, _]) rfl rfl rfl rfl rfl rfl Tryz.call89 (seal_number _ _ _ _ _ (b.take 4) (by simp; omega) (take4 b)) [] [0] rfl rfl ?_
  rintro v post ⟨rfl, rfl⟩
  show G _ _ _ [_, _] _
  refine G_val rfl rfl rfl rfl (V_assign rfl rfl) ?_
  refine G_done ?_
  refine G_seq ?_
  refine G_seq ?_
  refine G_region (l := [0, 1, 2, 3, 4, 5, 6]) rfl ?_
  refine G_val rfl rfl rfl rfl (V_loadW (s := 8) rfl rfl (mem_at 0 rfl) Tryz.underlying152 rfl infSealW_152 rfl (by (simp [bcells_length]; omega))) ?_
  refine G_val rfl rfl rfl rfl (V_loadW (s := 8) rfl rfl (mem_at 1 rfl) Tryz.underlying152 rfl infSealW_152 rfl (by (simp [bcells_length]; omega))) ?_
  refine G_val rfl rfl rfl rfl (V_aggneq (m := 6) rfl Tryz.eqGuardType152 (by kernel_rfl) (by decide) (formed_of Tryz.underlying152 rfl (by kernel_rfl : Tryz.prog.cellsOf 152 = 8) (by (simp [bcells_length]; omega))) (formed_of Tryz.underlying152 rfl (by kernel_rfl : Tryz.prog.cellsOf 152 = 8) (by (simp [bcells_length]; omega))) rfl rfl (key8 _ (by simp; omega)) (key8 _ (by simp; omega))) ?_
  refine G_val rfl rfl rfl rfl (V_move rfl rfl) ?_
  refine G_splitD 25 rfl (fun hc2 => ?_) (fun hc2 => ?_)
  ·
   refine G_off rfl rfl rfl rfl ?_
   refine G_off rfl rfl rfl rfl ?_
   refine G_val rfl rfl rfl rfl (V_pickT rfl rfl rfl) ?_
   refine G_done ?_
   refine G_then rfl ?_
   refine G_seq ?_
   refine G_region (l := [0, 1, 2, 3]) rfl ?_
   refine G_val rfl rfl rfl rfl (V_assign rfl rfl) ?_
   refine G_val rfl rfl rfl rfl (V_assign rfl rfl) ?_
   refine G_val rfl rfl rfl rfl (V_assign rfl rfl) ?_
   refine G_val rfl rfl rfl rfl (V_assign rfl rfl) ?_
   refine G_done ?_
   refine G_ret (post := []) Tryz.func75 rfl (RVs_cons (RV_tmp rfl) (RVs_cons (RV_tmp rfl) (RVs_cons (RV_tmp rfl) (RVs_cons (RV_tmp rfl) RVs_nil)))) [] rfl ?_
   dsimp only [packed]
   first
     | exact ⟨(open_not (open_len (by omega))).symm, rfl⟩
     | exact ⟨(open_not (open_neq (fun h => absurd h (by assumption)))).symm, rfl⟩
     | exact ⟨(open_not (open_neq (fun h => absurd (congrArg _ h) (by assumption)))).symm, rfl⟩
     | exact ⟨(open_not (open_zero (by assumption))).symm, rfl⟩
     | exact ⟨(open_yes (open_ok (by omega) (lits_bytes_inj (by first | assumption | exact Classical.not_not.1 (by assumption))) (by assumption))).symm, rfl⟩
     | exact ⟨(open_yes (open_ok (by omega) (by first | assumption | exact Classical.not_not.1 (by assumption)) (by assumption))).symm, rfl⟩
  refine G_val rfl rfl rfl rfl (V_move rfl rfl) ?_
  refine G_val rfl rfl rfl rfl (V_eql rfl rfl rfl) ?_
  refine G_val rfl rfl rfl rfl (V_pickF rfl rfl rfl) ?_
  refine G_done ?_
  refine G_ifD rfl (fun hc3 => ?_) (fun hc3 => ?_)
  ·
   refine G_seq ?_
   refine G_region (l := [0, 1, 2, 3]) rfl ?_
   refine G_val rfl rfl rfl rfl (V_assign rfl rfl) ?_
   refine G_val rfl rfl rfl rfl (V_assign rfl rfl) ?_
   refine G_val rfl rfl rfl rfl (V_assign rfl rfl) ?_
   refine G_val rfl rfl rfl rfl (V_assign rfl rfl) ?_
   refine G_done ?_
   refine G_ret (post := []) Tryz.func75 rfl (RVs_cons (RV_tmp rfl) (RVs_cons (RV_tmp rfl) (RVs_cons (RV_tmp rfl) (RVs_cons (RV_tmp rfl) RVs_nil)))) [] rfl ?_
   dsimp only [packed]
   first
     | exact ⟨(open_not (open_len (by omega))).symm, rfl⟩
     | exact ⟨(open_not (open_neq (fun h => absurd h (by assumption)))).symm, rfl⟩
     | exact ⟨(open_not (open_neq (fun h => absurd (congrArg _ h) (by assumption)))).symm, rfl⟩
     | exact ⟨(open_not (open_zero (by assumption))).symm, rfl⟩
     | exact ⟨(open_yes (open_ok (by omega) (lits_bytes_inj (by first | assumption | exact Classical.not_not.1 (by assumption))) (by assumption))).symm, rfl⟩
     | exact ⟨(open_yes (open_ok (by omega) (by first | assumption | exact Classical.not_not.1 (by assumption)) (by assumption))).symm, rfl⟩
  refine G_skip ?_
  refine G_seq ?_
  refine G_draw mixedK (by kernel_rfl) ?_
  refine GQ_val rfl rfl rfl rfl (V_move rfl rfl) ?_
  refine GQ_val rfl rfl rfl rfl (V_asliceL (l := 4) rfl Tryz.underlying152 infSealW_5 rfl rfl rfl rfl (by first | omega | (simp; done) | (simp; omega) | (simp at *; omega)) rfl) ?_
  refine GQ_call rfl rfl rfl rfl rfl rfl Tryz.call89 (seal_number _ _ _ _ _ ((b.take 8).drop 4) (by simp; omega) (drop4 b (by omega))) [0] rfl (fun v post hp => (hp : _ ∧ _).1) ?_
  refine GQ_val rfl rfl rfl rfl (V_move rfl rfl) ?_
  refine GQ_val rfl rfl rfl rfl (V_move rfl rfl) ?_
  refine GQ_val rfl rfl rfl rfl (V_ssliceN (lo := 8) (hi := _) rfl Tryz.underlying9 rfl rfl rfl rfl rfl (by first | omega | (simp; done) | (simp; omega) | (simp at *; omega)) (by first | omega | (simp; done) | (simp; omega) | (simp at *; omega))) ?_
  refine GQ_val rfl rfl rfl rfl (V_assign rfl rfl) ?_
  refine GQ_val rfl rfl rfl rfl (V_assign rfl rfl) ?_
  refine GQ_val rfl rfl rfl rfl (V_assign rfl rfl) ?_
  refine GQ_val rfl rfl rfl rfl (V_assign rfl rfl) ?_
  refine GQ_done rfl ?_
  refine G_ret (post := []) Tryz.func75 rfl (RVs_cons (RV_tmp rfl) (RVs_cons (RV_tmp rfl) (RVs_cons (RV_tmp rfl) (RVs_cons (RV_tmp rfl) RVs_nil)))) [] rfl ?_
  dsimp only [packed]
  first
    | exact ⟨(open_not (open_len (by omega))).symm, rfl⟩
    | exact ⟨(open_not (open_neq (fun h => absurd h (by assumption)))).symm, rfl⟩
    | exact ⟨(open_not (open_neq (fun h => absurd (congrArg _ h) (by assumption)))).symm, rfl⟩
    | exact ⟨(open_not (open_zero (by assumption))).symm, rfl⟩
    | exact ⟨(open_yes (open_ok (by omega) (lits_bytes_inj (by first | assumption | exact Classical.not_not.1 (by assumption))) (by assumption))).symm, rfl⟩
    | exact ⟨(open_yes (open_ok (by omega) (by first | assumption | exact Classical.not_not.1 (by assumption)) (by assumption))).symm, rfl⟩
 case main4 =>
  refine GH_take 0 rfl rfl rfl rfl (by kernel_rfl) (by kernel_rfl) (by kernel_rfl) (fun _ _ => (V_move rfl rfl)) ?_
  refine GH_take 1 rfl rfl rfl rfl (by kernel_rfl) (by kernel_rfl) (by kernel_rfl) (fun _ _ => (V_ssliceHN (hi := 8) rfl Tryz.underlying9 rfl rfl rfl (by first | omega | (simp; done) | (simp; omega) | (simp at *; omega)))) ?_
  refine GH_take 3 rfl rfl rfl rfl (by kernel_rfl) (by kernel_rfl) (by kernel_rfl) (fun _ _ => (V_move rfl rfl)) ?_
  refine GH_take 4 rfl rfl rfl rfl (by kernel_rfl) (by kernel_rfl) (by kernel_rfl) (fun _ _ => (V_move rfl rfl)) ?_
  refine GH_take 5 rfl rfl rfl rfl (by kernel_rfl) (by kernel_rfl) (by kernel_rfl) (fun _ _ => (V_ssliceLN (lo := _) rfl Tryz.underlying9 rfl rfl rfl (by first | omega | (simp; done) | (simp; omega) | (simp at *; omega)))) ?_
  refine GH_all [2, 7, 8] (by kernel_rfl) (by decide) ?_
  refine (And.intro ?_ (And.intro ?_ (And.intro ?_ trivial)))
  ·
   refine GHop_call (L2 := []) rfl rfl rfl rfl rfl rfl Tryz.call88 (seal_of _ (by simp; omega)) [] [] rfl rfl [] (by rintro v post ⟨rfl, rfl⟩; exact ⟨_, rfl⟩) ?_
   rintro v post ⟨rfl, rfl⟩
   refine GH_all [6, 7, 8] (by kernel_rfl) (by decide) ?_
   refine (And.intro ?_ (And.intro ?_ (And.intro ?_ trivial)))
   ·
    refine GHop_call (L2 := []) rfl rfl rfl rfl rfl rfl Tryz.call88 (seal_of _ (by simp; omega)) [] [] rfl rfl [] (by rintro v post ⟨rfl, rfl⟩; exact ⟨_, rfl⟩) ?_
    rintro v post ⟨rfl, rfl⟩
    refine GH_all [7, 8] (by kernel_rfl) (by decide) ?_
    refine (And.intro ?_ (And.intro ?_ trivial))
    ·
     refine GHop_new rfl rfl rfl rfl (N_allocA rfl infSealW_152 rfl) [] (fun _ => ⟨_, rfl⟩) (fun b7 => ?_)
     refine GH_all [8] (by kernel_rfl) (by decide) ?_
     refine (And.intro ?_ trivial)
     ·
      refine GHop_new rfl rfl rfl rfl (N_allocA rfl infSealW_152 rfl) [] (fun _ => ⟨_, rfl⟩) (fun b8 => ?_)
      refine GH_all [9] (by kernel_rfl) (by decide) ?_
      refine (And.intro ?_ trivial)
      ·
       refine GHop_put (l1 := [_]) (L' := [_, _]) rfl rfl rfl rfl (P_storeA (s := 8) rfl rfl rfl (mem_at 1 rfl) (by (simp [bcells_length]; omega)) infSealW_152 rfl (by (simp [bcells_length]; omega)) (by exact bcells_all _)) rfl [] rfl ?_
       refine GH_all [10] (by kernel_rfl) (by decide) ?_
       refine (And.intro ?_ trivial)
       ·
        refine GHop_put (l1 := []) (L' := [_, _]) rfl rfl rfl rfl (P_storeA (s := 8) rfl rfl rfl (mem_at 0 rfl) (by (simp [bcells_length]; omega)) infSealW_152 rfl (by (simp [bcells_length]; omega)) (by exact bcells_all _)) rfl [] rfl ?_
        refine GH_done (by kernel_rfl) ?_
        exact G_sub (by exact (And.intro rfl (And.intro rfl (And.intro rfl (And.intro rfl trivial))))) [1, 0] (by exact ⟨_, rfl⟩) (jn4 (b7, b8))
    ·
     refine GHop_new rfl rfl rfl rfl (N_allocA rfl infSealW_152 rfl) [] (fun _ => ⟨_, rfl⟩) (fun b8 => ?_)
     refine GH_all [7] (by kernel_rfl) (by decide) ?_
     refine (And.intro ?_ trivial)
     ·
      refine GHop_new rfl rfl rfl rfl (N_allocA rfl infSealW_152 rfl) [] (fun _ => ⟨_, rfl⟩) (fun b7 => ?_)
      refine GH_all [9] (by kernel_rfl) (by decide) ?_
      refine (And.intro ?_ trivial)
      ·
       refine GHop_put (l1 := []) (L' := [_, _]) rfl rfl rfl rfl (P_storeA (s := 8) rfl rfl rfl (mem_at 0 rfl) (by (simp [bcells_length]; omega)) infSealW_152 rfl (by (simp [bcells_length]; omega)) (by exact bcells_all _)) rfl [] rfl ?_
       refine GH_all [10] (by kernel_rfl) (by decide) ?_
       refine (And.intro ?_ trivial)
       ·
        refine GHop_put (l1 := [_]) (L' := [_, _]) rfl rfl rfl rfl (P_storeA (s := 8) rfl rfl rfl (mem_at 1 rfl) (by (simp [bcells_length]; omega)) infSealW_152 rfl (by (simp [bcells_length]; omega)) (by exact bcells_all _)) rfl [] rfl ?_
        refine GH_done (by kernel_rfl) ?_
        exact G_sub (by exact (And.intro rfl (And.intro rfl (And.intro rfl (And.intro rfl trivial))))) [0, 0] (by exact ⟨_, rfl⟩) (jn4 (b7, b8))
   ·
    refine GHop_new rfl rfl rfl rfl (N_allocA rfl infSealW_152 rfl) [] (fun _ => ⟨_, rfl⟩) (fun b7 => ?_)
    refine GH_all [6, 8] (by kernel_rfl) (by decide) ?_
    refine (And.intro ?_ (And.intro ?_ trivial))
    ·
     refine GHop_call (L2 := [_]) rfl rfl rfl rfl rfl rfl Tryz.call88 (seal_of _ (by simp; omega)) [] [] rfl rfl [] (by rintro v post ⟨rfl, rfl⟩; exact ⟨_, rfl⟩) ?_
     rintro v post ⟨rfl, rfl⟩
     show GH _ _ _ _ _ _ _ [_] _
     refine GH_all [8] (by kernel_rfl) (by decide) ?_
     refine (And.intro ?_ trivial)
     ·
      refine GHop_new rfl rfl rfl rfl (N_allocA rfl infSealW_152 rfl) [] (fun _ => ⟨_, rfl⟩) (fun b8 => ?_)
      refine GH_all [9] (by kernel_rfl) (by decide) ?_
      refine (And.intro ?_ trivial)
      ·
       refine GHop_put (l1 := [_]) (L' := [_, _]) rfl rfl rfl rfl (P_storeA (s := 8) rfl rfl rfl (mem_at 1 rfl) (by (simp [bcells_length]; omega)) infSealW_152 rfl (by (simp [bcells_length]; omega)) (by exact bcells_all _)) rfl [] rfl ?_
       refine GH_all [10] (by kernel_rfl) (by decide) ?_
       refine (And.intro ?_ trivial)
       ·
        refine GHop_put (l1 := []) (L' := [_, _]) rfl rfl rfl rfl (P_storeA (s := 8) rfl rfl rfl (mem_at 0 rfl) (by (simp [bcells_length]; omega)) infSealW_152 rfl (by (simp [bcells_length]; omega)) (by exact bcells_all _)) rfl [] rfl ?_
        refine GH_done (by kernel_rfl) ?_
        exact G_sub (by exact (And.intro rfl (And.intro rfl (And.intro rfl (And.intro rfl trivial))))) [1, 0] (by exact ⟨_, rfl⟩) (jn4 (b7, b8))
    ·
     refine GHop_new rfl rfl rfl rfl (N_allocA rfl infSealW_152 rfl) [] (fun _ => ⟨_, rfl⟩) (fun b8 => ?_)
     refine GH_all [6] (by kernel_rfl) (by decide) ?_
     refine (And.intro ?_ trivial)
     ·
      refine GHop_call (L2 := [_, _]) rfl rfl rfl rfl rfl rfl Tryz.call88 (seal_of _ (by simp; omega)) [] [] rfl rfl [] (by rintro v post ⟨rfl, rfl⟩; exact ⟨_, rfl⟩) ?_
      rintro v post ⟨rfl, rfl⟩
      show GH _ _ _ _ _ _ _ [_, _] _
      refine GH_all [9] (by kernel_rfl) (by decide) ?_
      refine (And.intro ?_ trivial)
      ·
       refine GHop_put (l1 := [_]) (L' := [_, _]) rfl rfl rfl rfl (P_storeA (s := 8) rfl rfl rfl (mem_at 1 rfl) (by (simp [bcells_length]; omega)) infSealW_152 rfl (by (simp [bcells_length]; omega)) (by exact bcells_all _)) rfl [] rfl ?_
       refine GH_all [10] (by kernel_rfl) (by decide) ?_
       refine (And.intro ?_ trivial)
       ·
        refine GHop_put (l1 := []) (L' := [_, _]) rfl rfl rfl rfl (P_storeA (s := 8) rfl rfl rfl (mem_at 0 rfl) (by (simp [bcells_length]; omega)) infSealW_152 rfl (by (simp [bcells_length]; omega)) (by exact bcells_all _)) rfl [] rfl ?_
        refine GH_done (by kernel_rfl) ?_
        exact G_sub (by exact (And.intro rfl (And.intro rfl (And.intro rfl (And.intro rfl trivial))))) [1, 0] (by exact ⟨_, rfl⟩) (jn4 (b7, b8))
   ·
    refine GHop_new rfl rfl rfl rfl (N_allocA rfl infSealW_152 rfl) [] (fun _ => ⟨_, rfl⟩) (fun b8 => ?_)
    refine GH_all [6, 7] (by kernel_rfl) (by decide) ?_
    refine (And.intro ?_ (And.intro ?_ trivial))
    ·
     refine GHop_call (L2 := [_]) rfl rfl rfl rfl rfl rfl Tryz.call88 (seal_of _ (by simp; omega)) [] [] rfl rfl [] (by rintro v post ⟨rfl, rfl⟩; exact ⟨_, rfl⟩) ?_
     rintro v post ⟨rfl, rfl⟩
     show GH _ _ _ _ _ _ _ [_] _
     refine GH_all [7] (by kernel_rfl) (by decide) ?_
     refine (And.intro ?_ trivial)
     ·
      refine GHop_new rfl rfl rfl rfl (N_allocA rfl infSealW_152 rfl) [] (fun _ => ⟨_, rfl⟩) (fun b7 => ?_)
      refine GH_all [9] (by kernel_rfl) (by decide) ?_
      refine (And.intro ?_ trivial)
      ·
       refine GHop_put (l1 := []) (L' := [_, _]) rfl rfl rfl rfl (P_storeA (s := 8) rfl rfl rfl (mem_at 0 rfl) (by (simp [bcells_length]; omega)) infSealW_152 rfl (by (simp [bcells_length]; omega)) (by exact bcells_all _)) rfl [] rfl ?_
       refine GH_all [10] (by kernel_rfl) (by decide) ?_
       refine (And.intro ?_ trivial)
       ·
        refine GHop_put (l1 := [_]) (L' := [_, _]) rfl rfl rfl rfl (P_storeA (s := 8) rfl rfl rfl (mem_at 1 rfl) (by (simp [bcells_length]; omega)) infSealW_152 rfl (by (simp [bcells_length]; omega)) (by exact bcells_all _)) rfl [] rfl ?_
        refine GH_done (by kernel_rfl) ?_
        exact G_sub (by exact (And.intro rfl (And.intro rfl (And.intro rfl (And.intro rfl trivial))))) [0, 0] (by exact ⟨_, rfl⟩) (jn4 (b7, b8))
    ·
     refine GHop_new rfl rfl rfl rfl (N_allocA rfl infSealW_152 rfl) [] (fun _ => ⟨_, rfl⟩) (fun b7 => ?_)
     refine GH_all [6] (by kernel_rfl) (by decide) ?_
     refine (And.intro ?_ trivial)
     ·
      refine GHop_call (L2 := [_, _]) rfl rfl rfl rfl rfl rfl Tryz.call88 (seal_of _ (by simp; omega)) [] [] rfl rfl [] (by rintro v post ⟨rfl, rfl⟩; exact ⟨_, rfl⟩) ?_
      rintro v post ⟨rfl, rfl⟩
      show GH _ _ _ _ _ _ _ [_, _] _
      refine GH_all [9] (by kernel_rfl) (by decide) ?_
      refine (And.intro ?_ trivial)
      ·
       refine GHop_put (l1 := []) (L' := [_, _]) rfl rfl rfl rfl (P_storeA (s := 8) rfl rfl rfl (mem_at 0 rfl) (by (simp [bcells_length]; omega)) infSealW_152 rfl (by (simp [bcells_length]; omega)) (by exact bcells_all _)) rfl [] rfl ?_
       refine GH_all [10] (by kernel_rfl) (by decide) ?_
       refine (And.intro ?_ trivial)
       ·
        refine GHop_put (l1 := [_]) (L' := [_, _]) rfl rfl rfl rfl (P_storeA (s := 8) rfl rfl rfl (mem_at 1 rfl) (by (simp [bcells_length]; omega)) infSealW_152 rfl (by (simp [bcells_length]; omega)) (by exact bcells_all _)) rfl [] rfl ?_
        refine GH_done (by kernel_rfl) ?_
        exact G_sub (by exact (And.intro rfl (And.intro rfl (And.intro rfl (And.intro rfl trivial))))) [0, 0] (by exact ⟨_, rfl⟩) (jn4 (b7, b8))
  ·
   refine GHop_new rfl rfl rfl rfl (N_allocA rfl infSealW_152 rfl) [] (fun _ => ⟨_, rfl⟩) (fun b7 => ?_)
   refine GH_all [2, 8] (by kernel_rfl) (by decide) ?_
   refine (And.intro ?_ (And.intro ?_ trivial))
   ·
    refine GHop_call (L2 := [_]) rfl rfl rfl rfl rfl rfl Tryz.call88 (seal_of _ (by simp; omega)) [] [] rfl rfl [] (by rintro v post ⟨rfl, rfl⟩; exact ⟨_, rfl⟩) ?_
    rintro v post ⟨rfl, rfl⟩
    show GH _ _ _ _ _ _ _ [_] _
    refine GH_all [6, 8] (by kernel_rfl) (by decide) ?_
    refine (And.intro ?_ (And.intro ?_ trivial))
    ·
     refine GHop_call (L2 := [_]) rfl rfl rfl rfl rfl rfl Tryz.call88 (seal_of _ (by simp; omega)) [] [] rfl rfl [] (by rintro v post ⟨rfl, rfl⟩; exact ⟨_, rfl⟩) ?_
     rintro v post ⟨rfl, rfl⟩
     show GH _ _ _ _ _ _ _ [_] _
     refine GH_all [8] (by kernel_rfl) (by decide) ?_
     refine (And.intro ?_ trivial)
     ·
      refine GHop_new rfl rfl rfl rfl (N_allocA rfl infSealW_152 rfl) [] (fun _ => ⟨_, rfl⟩) (fun b8 => ?_)
      refine GH_all [9] (by kernel_rfl) (by decide) ?_
      refine (And.intro ?_ trivial)
      ·
       refine GHop_put (l1 := [_]) (L' := [_, _]) rfl rfl rfl rfl (P_storeA (s := 8) rfl rfl rfl (mem_at 1 rfl) (by (simp [bcells_length]; omega)) infSealW_152 rfl (by (simp [bcells_length]; omega)) (by exact bcells_all _)) rfl [] rfl ?_
       refine GH_all [10] (by kernel_rfl) (by decide) ?_
       refine (And.intro ?_ trivial)
       ·
        refine GHop_put (l1 := []) (L' := [_, _]) rfl rfl rfl rfl (P_storeA (s := 8) rfl rfl rfl (mem_at 0 rfl) (by (simp [bcells_length]; omega)) infSealW_152 rfl (by (simp [bcells_length]; omega)) (by exact bcells_all _)) rfl [] rfl ?_
        refine GH_done (by kernel_rfl) ?_
        exact G_sub (by exact (And.intro rfl (And.intro rfl (And.intro rfl (And.intro rfl trivial))))) [1, 0] (by exact ⟨_, rfl⟩) (jn4 (b7, b8))
    ·
     refine GHop_new rfl rfl rfl rfl (N_allocA rfl infSealW_152 rfl) [] (fun _ => ⟨_, rfl⟩) (fun b8 => ?_)
     refine GH_all [6] (by kernel_rfl) (by decide) ?_
     refine (And.intro ?_ trivial)
     ·
      refine GHop_call (L2 := [_, _]) rfl rfl rfl rfl rfl rfl Tryz.call88 (seal_of _ (by simp; omega)) [] [] rfl rfl [] (by rintro v post ⟨rfl, rfl⟩; exact ⟨_, rfl⟩) ?_
      rintro v post ⟨rfl, rfl⟩
      show GH _ _ _ _ _ _ _ [_, _] _
      refine GH_all [9] (by kernel_rfl) (by decide) ?_
      refine (And.intro ?_ trivial)
      ·
       refine GHop_put (l1 := [_]) (L' := [_, _]) rfl rfl rfl rfl (P_storeA (s := 8) rfl rfl rfl (mem_at 1 rfl) (by (simp [bcells_length]; omega)) infSealW_152 rfl (by (simp [bcells_length]; omega)) (by exact bcells_all _)) rfl [] rfl ?_
       refine GH_all [10] (by kernel_rfl) (by decide) ?_
       refine (And.intro ?_ trivial)
       ·
        refine GHop_put (l1 := []) (L' := [_, _]) rfl rfl rfl rfl (P_storeA (s := 8) rfl rfl rfl (mem_at 0 rfl) (by (simp [bcells_length]; omega)) infSealW_152 rfl (by (simp [bcells_length]; omega)) (by exact bcells_all _)) rfl [] rfl ?_
        refine GH_done (by kernel_rfl) ?_
        exact G_sub (by exact (And.intro rfl (And.intro rfl (And.intro rfl (And.intro rfl trivial))))) [1, 0] (by exact ⟨_, rfl⟩) (jn4 (b7, b8))
   ·
    refine GHop_new rfl rfl rfl rfl (N_allocA rfl infSealW_152 rfl) [] (fun _ => ⟨_, rfl⟩) (fun b8 => ?_)
    refine GH_all [2] (by kernel_rfl) (by decide) ?_
    refine (And.intro ?_ trivial)
    ·
     refine GHop_call (L2 := [_, _]) rfl rfl rfl rfl rfl rfl Tryz.call88 (seal_of _ (by simp; omega)) [] [] rfl rfl [] (by rintro v post ⟨rfl, rfl⟩; exact ⟨_, rfl⟩) ?_
     rintro v post ⟨rfl, rfl⟩
     show GH _ _ _ _ _ _ _ [_, _] _
     refine GH_all [6] (by kernel_rfl) (by decide) ?_
     refine (And.intro ?_ trivial)
     ·
      refine GHop_call (L2 := [_, _]) rfl rfl rfl rfl rfl rfl Tryz.call88 (seal_of _ (by simp; omega)) [] [] rfl rfl [] (by rintro v post ⟨rfl, rfl⟩; exact ⟨_, rfl⟩) ?_
      rintro v post ⟨rfl, rfl⟩
      show GH _ _ _ _ _ _ _ [_, _] _
      refine GH_all [9] (by kernel_rfl) (by decide) ?_
      refine (And.intro ?_ trivial)
      ·
       refine GHop_put (l1 := [_]) (L' := [_, _]) rfl rfl rfl rfl (P_storeA (s := 8) rfl rfl rfl (mem_at 1 rfl) (by (simp [bcells_length]; omega)) infSealW_152 rfl (by (simp [bcells_length]; omega)) (by exact bcells_all _)) rfl [] rfl ?_
       refine GH_all [10] (by kernel_rfl) (by decide) ?_
       refine (And.intro ?_ trivial)
       ·
        refine GHop_put (l1 := []) (L' := [_, _]) rfl rfl rfl rfl (P_storeA (s := 8) rfl rfl rfl (mem_at 0 rfl) (by (simp [bcells_length]; omega)) infSealW_152 rfl (by (simp [bcells_length]; omega)) (by exact bcells_all _)) rfl [] rfl ?_
        refine GH_done (by kernel_rfl) ?_
        exact G_sub (by exact (And.intro rfl (And.intro rfl (And.intro rfl (And.intro rfl trivial))))) [1, 0] (by exact ⟨_, rfl⟩) (jn4 (b7, b8))
  ·
   refine GHop_new rfl rfl rfl rfl (N_allocA rfl infSealW_152 rfl) [] (fun _ => ⟨_, rfl⟩) (fun b8 => ?_)
   refine GH_all [2, 7] (by kernel_rfl) (by decide) ?_
   refine (And.intro ?_ (And.intro ?_ trivial))
   ·
    refine GHop_call (L2 := [_]) rfl rfl rfl rfl rfl rfl Tryz.call88 (seal_of _ (by simp; omega)) [] [] rfl rfl [] (by rintro v post ⟨rfl, rfl⟩; exact ⟨_, rfl⟩) ?_
    rintro v post ⟨rfl, rfl⟩
    show GH _ _ _ _ _ _ _ [_] _
    refine GH_all [6, 7] (by kernel_rfl) (by decide) ?_
    refine (And.intro ?_ (And.intro ?_ trivial))
    ·
     refine GHop_call (L2 := [_]) rfl rfl rfl rfl rfl rfl Tryz.call88 (seal_of _ (by simp; omega)) [] [] rfl rfl [] (by rintro v post ⟨rfl, rfl⟩; exact ⟨_, rfl⟩) ?_
     rintro v post ⟨rfl, rfl⟩
     show GH _ _ _ _ _ _ _ [_] _
     refine GH_all [7] (by kernel_rfl) (by decide) ?_
     refine (And.intro ?_ trivial)
     ·
      refine GHop_new rfl rfl rfl rfl (N_allocA rfl infSealW_152 rfl) [] (fun _ => ⟨_, rfl⟩) (fun b7 => ?_)
      refine GH_all [9] (by kernel_rfl) (by decide) ?_
      refine (And.intro ?_ trivial)
      ·
       refine GHop_put (l1 := []) (L' := [_, _]) rfl rfl rfl rfl (P_storeA (s := 8) rfl rfl rfl (mem_at 0 rfl) (by (simp [bcells_length]; omega)) infSealW_152 rfl (by (simp [bcells_length]; omega)) (by exact bcells_all _)) rfl [] rfl ?_
       refine GH_all [10] (by kernel_rfl) (by decide) ?_
       refine (And.intro ?_ trivial)
       ·
        refine GHop_put (l1 := [_]) (L' := [_, _]) rfl rfl rfl rfl (P_storeA (s := 8) rfl rfl rfl (mem_at 1 rfl) (by (simp [bcells_length]; omega)) infSealW_152 rfl (by (simp [bcells_length]; omega)) (by exact bcells_all _)) rfl [] rfl ?_
        refine GH_done (by kernel_rfl) ?_
        exact G_sub (by exact (And.intro rfl (And.intro rfl (And.intro rfl (And.intro rfl trivial))))) [0, 0] (by exact ⟨_, rfl⟩) (jn4 (b7, b8))
    ·
     refine GHop_new rfl rfl rfl rfl (N_allocA rfl infSealW_152 rfl) [] (fun _ => ⟨_, rfl⟩) (fun b7 => ?_)
     refine GH_all [6] (by kernel_rfl) (by decide) ?_
     refine (And.intro ?_ trivial)
     ·
      refine GHop_call (L2 := [_, _]) rfl rfl rfl rfl rfl rfl Tryz.call88 (seal_of _ (by simp; omega)) [] [] rfl rfl [] (by rintro v post ⟨rfl, rfl⟩; exact ⟨_, rfl⟩) ?_
      rintro v post ⟨rfl, rfl⟩
      show GH _ _ _ _ _ _ _ [_, _] _
      refine GH_all [9] (by kernel_rfl) (by decide) ?_
      refine (And.intro ?_ trivial)
      ·
       refine GHop_put (l1 := []) (L' := [_, _]) rfl rfl rfl rfl (P_storeA (s := 8) rfl rfl rfl (mem_at 0 rfl) (by (simp [bcells_length]; omega)) infSealW_152 rfl (by (simp [bcells_length]; omega)) (by exact bcells_all _)) rfl [] rfl ?_
       refine GH_all [10] (by kernel_rfl) (by decide) ?_
       refine (And.intro ?_ trivial)
       ·
        refine GHop_put (l1 := [_]) (L' := [_, _]) rfl rfl rfl rfl (P_storeA (s := 8) rfl rfl rfl (mem_at 1 rfl) (by (simp [bcells_length]; omega)) infSealW_152 rfl (by (simp [bcells_length]; omega)) (by exact bcells_all _)) rfl [] rfl ?_
        refine GH_done (by kernel_rfl) ?_
        exact G_sub (by exact (And.intro rfl (And.intro rfl (And.intro rfl (And.intro rfl trivial))))) [0, 0] (by exact ⟨_, rfl⟩) (jn4 (b7, b8))
   ·
    refine GHop_new rfl rfl rfl rfl (N_allocA rfl infSealW_152 rfl) [] (fun _ => ⟨_, rfl⟩) (fun b7 => ?_)
    refine GH_all [2] (by kernel_rfl) (by decide) ?_
    refine (And.intro ?_ trivial)
    ·
     refine GHop_call (L2 := [_, _]) rfl rfl rfl rfl rfl rfl Tryz.call88 (seal_of _ (by simp; omega)) [] [] rfl rfl [] (by rintro v post ⟨rfl, rfl⟩; exact ⟨_, rfl⟩) ?_
     rintro v post ⟨rfl, rfl⟩
     show GH _ _ _ _ _ _ _ [_, _] _
     refine GH_all [6] (by kernel_rfl) (by decide) ?_
     refine (And.intro ?_ trivial)
     ·
      refine GHop_call (L2 := [_, _]) rfl rfl rfl rfl rfl rfl Tryz.call88 (seal_of _ (by simp; omega)) [] [] rfl rfl [] (by rintro v post ⟨rfl, rfl⟩; exact ⟨_, rfl⟩) ?_
      rintro v post ⟨rfl, rfl⟩
      show GH _ _ _ _ _ _ _ [_, _] _
      refine GH_all [9] (by kernel_rfl) (by decide) ?_
      refine (And.intro ?_ trivial)
      ·
       refine GHop_put (l1 := []) (L' := [_, _]) rfl rfl rfl rfl (P_storeA (s := 8) rfl rfl rfl (mem_at 0 rfl) (by (simp [bcells_length]; omega)) infSealW_152 rfl (by (simp [bcells_length]; omega)) (by exact bcells_all _)) rfl [] rfl ?_
       refine GH_all [10] (by kernel_rfl) (by decide) ?_
       refine (And.intro ?_ trivial)
       ·
        refine GHop_put (l1 := [_]) (L' := [_, _]) rfl rfl rfl rfl (P_storeA (s := 8) rfl rfl rfl (mem_at 1 rfl) (by (simp [bcells_length]; omega)) infSealW_152 rfl (by (simp [bcells_length]; omega)) (by exact bcells_all _)) rfl [] rfl ?_
        refine GH_done (by kernel_rfl) ?_
        exact G_sub (by exact (And.intro rfl (And.intro rfl (And.intro rfl (And.intro rfl trivial))))) [0, 0] (by exact ⟨_, rfl⟩) (jn4 (b7, b8))

end
end Go.Proofs.YtbblkgdejgoncaaGreatDoor

/- Sealed blocks, in plain lists: what opens is a sealed block, and the other way round. -/
set_option linter.unusedSimpArgs false
set_option linter.unusedVariables false
namespace Go.Proofs.YtbblkgdejgoncaaGreatDoor
open Go Go.RowKit

section



theorem openD_len (s : List UInt8) : (openD s).length ≤ s.length := by
  unfold openD
  split
  · simp; omega
  · simp
theorem be4_num (l : List UInt8) (h : l.length = 4) : be 4 (num l) = l := by
  have := be_num l
  rwa [h] at this
theorem sealL_open {s : List UInt8} (h : openOk s = true) : sealL (openE s) (openI s) (openD s) = s := by
  have h' := h
  unfold openOk at h'
  have h' : s.length = 64 ∧ s.take 8 = s.drop 56 ∧ num (s.take 4) ≠ 0 := by simpa using h'
  obtain ⟨h1, h2, h3⟩ := h'
  unfold openE openI openD
  simp only [h, if_true]
  unfold sealL
  have hd : ((s.take 56).drop 8).length = 48 := by simp; omega
  rw [if_neg (by simp only [hd]; omega), be4_num _ (by simp; omega), be4_num _ (by simp; omega)]
  have e1 : s.take 4 ++ (s.take 8).drop 4 = s.take 8 := by
    have : s.take 4 = (s.take 8).take 4 := by rw [List.take_take]; rfl
    rw [this, List.take_append_drop]
  rw [List.append_assoc _ (s.take 4), e1]
  have e2 : s.take 8 = (s.take 56).take 8 := by rw [List.take_take]; rfl
  rw [List.append_assoc (s.take 8)]
  conv => lhs; arg 2; arg 2; rw [h2]
  conv => lhs; arg 1; rw [e2]
  rw [← List.append_assoc, List.take_append_drop, List.take_append_drop]
theorem sealE_open {s : List UInt8} (h : openOk s = true) : sealE (openE s) (openD s) = 0 := by
  have h' := h
  unfold openOk at h'
  have h' : s.length = 64 ∧ s.take 8 = s.drop 56 ∧ num (s.take 4) ≠ 0 := by simpa using h'
  obtain ⟨h1, h2, h3⟩ := h'
  unfold openE openD
  simp only [h, if_true]
  unfold sealE
  have hd : ((s.take 56).drop 8).length = 48 := by simp; omega
  rw [if_neg (by simp only [hd]; omega)]
theorem sealE_cases (e : Nat) (d : List UInt8) : sealE e d = 0 ↔ ¬ (e = 0 ∨ d.length ≠ 48) := by
  unfold sealE; split <;> simp_all
theorem sealL_length {e i : Nat} {d : List UInt8} (h : sealE e d = 0) : (sealL e i d).length = 64 := by
  rw [sealE_cases] at h
  unfold sealL
  rw [if_neg h]
  simp [be_length]
  omega
theorem sealL_parts {e i : Nat} {d : List UInt8} (h : sealE e d = 0) : (sealL e i d).take 4 = be 4 e ∧ ((sealL e i d).take 8).drop 4 = be 4 i ∧ ((sealL e i d).take 56).drop 8 = d ∧ (sealL e i d).take 8 = (sealL e i d).drop 56 := by
  rw [sealE_cases] at h
  have hd : d.length = 48 := by omega
  unfold sealL
  rw [if_neg h]
  have h4 := be_length 4 e
  have h5 := be_length 4 i
  have h8 : (be 4 e ++ be 4 i).length = 8 := by simp [h4, h5]
  have h56 : (be 4 e ++ be 4 i ++ d).length = 56 := by simp [h4, h5, hd]
  have t8 : (be 4 e ++ be 4 i ++ d ++ be 4 e ++ be 4 i).take 8 = be 4 e ++ be 4 i := by
    rw [List.append_assoc, List.append_assoc, List.append_assoc, ← List.append_assoc (be 4 e)]
    rw [List.take_append_of_le_length (by omega), List.take_of_length_le (by omega)]
  have t4 : (be 4 e ++ be 4 i).take 4 = be 4 e := by rw [List.take_append_of_le_length (by omega), List.take_of_length_le (by omega)]
  refine ⟨?_, ?_, ?_, ?_⟩
  · have : (be 4 e ++ be 4 i ++ d ++ be 4 e ++ be 4 i).take 4 = ((be 4 e ++ be 4 i ++ d ++ be 4 e ++ be 4 i).take 8).take 4 := by rw [List.take_take]; rfl
    rw [this, t8, t4]
  · rw [t8]; exact List.drop_left' h4
  · rw [List.append_assoc (be 4 e ++ be 4 i ++ d), List.take_left' h56]
    exact List.drop_left' h8
  · rw [t8, List.append_assoc (be 4 e ++ be 4 i ++ d), List.drop_left' h56]
theorem openOk_seal {e i : Nat} {d : List UInt8} (he : e < 4294967296) (h : sealE e d = 0) : openOk (sealL e i d) = true := by
  obtain ⟨h1, h2, h3, h4⟩ := sealL_parts (i := i) h
  have hl := sealL_length (i := i) h
  rw [sealE_cases] at h
  unfold openOk
  rw [if_pos]
  refine ⟨hl, h4, ?_⟩
  rw [h1, num_be 4 e (by omega)]
  omega
theorem open_seal {e i : Nat} {d : List UInt8} (he : e < 4294967296) (hi : i < 4294967296) (h : sealE e d = 0) : openE (sealL e i d) = e ∧ openI (sealL e i d) = i ∧ openD (sealL e i d) = d := by
  obtain ⟨h1, h2, h3, h4⟩ := sealL_parts (i := i) h
  have ho := openOk_seal (i := i) he h
  unfold openE openI openD
  simp only [ho, if_true]
  rw [h1, h2, h3, num_be 4 e (by omega), num_be 4 i (by omega)]
  exact ⟨rfl, rfl, rfl⟩
theorem sealL_le (e i : Nat) (d : List UInt8) : (sealL e i d).length ≤ d.length + 16 := by
  unfold sealL
  split
  · simp
  · simp [be_length]
    omega
theorem openOk_not {e i : Nat} {d : List UInt8} (h : ¬ sealE e d = 0) : openOk (sealL e i d) = false := by
  rw [sealE_cases] at h
  have h' : e = 0 ∨ d.length ≠ 48 := Classical.not_not.1 h
  unfold sealL
  rw [if_pos h']
  rfl

end
end Go.Proofs.YtbblkgdejgoncaaGreatDoor

/- The sum of a text (layer 2) as a plain function on 32-bit words, and the facts on single bits and bytes that the walks need. No program in sight. -/
namespace Go.Proofs.YtbblkgdejgoncaaGreatDoor
open Go

def sumT (x : BitVec 32) : BitVec 32 := (x <<< 1) ^^^ (if x.msb then 0x04c11db7#32 else 0)
def sumTn : Nat → BitVec 32 → BitVec 32
  | 0, x => x
  | n + 1, x => sumT (sumTn n x)
def sumByte (x : BitVec 32) (c : UInt8) : BitVec 32 := sumTn 8 (x ^^^ (BitVec.ofNat 32 c.toNat <<< 24))
def sumCrc (x : BitVec 32) (l : List UInt8) : BitVec 32 := l.foldl sumByte x
/-- A word as a value of the model's. -/
def U32 (x : BitVec 32) : Value := .int .u32 (x.toNat : Int)

theorem u32_word (a : Int) (h0 : 0 ≤ a) (h1 : a ≤ 4294967295) : ∃ x : BitVec 32, a = (x.toNat : Int) :=
  ⟨BitVec.ofNat 32 a.toNat, by rw [BitVec.toNat_ofNat]; omega⟩
theorem ret_int {k : IntKind} {a b : Int} (h : a = b) : Ending.returned (.int k a) = .returned (.int k b) := by rw [h]
theorem ret_bool {a b : Bool} (h : a = b) : Ending.returned (.bool a) = .returned (.bool b) := by rw [h]
theorem val_int {k : IntKind} {a b : Int} (h : a = b) : Value.int k a = .int k b := by rw [h]
theorem take_snoc (s : ByteArray) (k : Nat) (h : k < s.size) : s.data.toList.take (k + 1) = s.data.toList.take k ++ [s[k]] := by
  rw [List.take_succ_eq_append_getElem (by simpa using h)]; rfl

theorem sumCrc_snoc (x : BitVec 32) (l : List UInt8) (c : UInt8) : sumCrc x (l ++ [c]) = sumByte (sumCrc x l) c := by
  simp [sumCrc]
theorem sumCrc_append (x : BitVec 32) (l m : List UInt8) : sumCrc x (l ++ m) = sumCrc (sumCrc x l) m := by
  simp [sumCrc]

theorem sum_in_byte (y : BitVec 32) (c : UInt8) : bits BinOp.xor IntKind.u32 (y.toNat : Int) ((c.toNat : Int) % (4294967296 : Int) * (16777216 : Int) % (4294967296 : Int)) = ((y ^^^ (BitVec.ofNat 32 c.toNat <<< 24)).toNat : Int) := by
  have hc := c.toNat_lt
  have e : ((c.toNat : Int) % (4294967296 : Int) * (16777216 : Int) % (4294967296 : Int)) = ((BitVec.ofNat 32 c.toNat <<< 24).toNat : Int) := by
    rw [BitVec.toNat_shiftLeft, BitVec.toNat_ofNat, Nat.shiftLeft_eq]
    omega
  rw [e, u32_xor_nat _ _ y.isLt (BitVec.isLt _), BitVec.toNat_xor]
theorem sum_in_bit (z : BitVec 32) : bits BinOp.xor IntKind.u32 ((z.toNat : Int) * (2 : Int) % (4294967296 : Int)) ((z.toNat : Int) / (2147483648 : Int) * (79764919 : Int)) = ((sumT z).toNat : Int) := by
  have hz := z.isLt
  have e1 : ((z.toNat : Int) * (2 : Int) % (4294967296 : Int)) = ((z <<< 1).toNat : Int) := by
    rw [BitVec.toNat_shiftLeft, Nat.shiftLeft_eq]; omega
  have e2 : ((z.toNat : Int) / (2147483648 : Int) * (79764919 : Int)) = ((if z.msb then 0x04c11db7#32 else 0).toNat : Int) := by
    have hm := BitVec.msb_eq_decide z
    by_cases h : 2147483648 ≤ z.toNat
    · have : z.msb = true := by rw [hm]; simpa using h
      rw [this]; simp; omega
    · have : z.msb = false := by rw [hm]; simpa using h
      rw [this]; simp; omega
  rw [e1, e2, u32_xor_nat _ _ (BitVec.isLt _) (BitVec.isLt _), sumT, BitVec.toNat_xor]
theorem sum_step_high (z : BitVec 32) (h : 2147483648 ≤ z.toNat) : bits BinOp.xor IntKind.u32 (((z.toNat : Int) - (2147483648 : Int)) * (2 : Int)) (79764919 : Int) = ((sumT z).toNat : Int) := by
  have hz := z.isLt
  rw [← sum_in_bit]; congr 1 <;> omega
theorem sum_step_low (z : BitVec 32) (h : z.toNat < 2147483648) : (z.toNat : Int) * (2 : Int) = ((sumT z).toNat : Int) := by
  have hz := z.isLt
  have hm : z.msb = false := by rw [BitVec.msb_eq_decide]; simpa using h
  rw [sumT, hm]
  simp [BitVec.toNat_shiftLeft, Nat.shiftLeft_eq]
  omega

end Go.Proofs.YtbblkgdejgoncaaGreatDoor
