/- What the law DumpEncodes needs, part 1. Short names: Za = G_val, Zb = V_fieldAddr, Zc = V_move, Zd = G_region, Ze = V_nilCheck, Zf = mem_at, Zg = G_done, Zh = GH_tk, Zi = G_seq, Zj = V_load1, Zk = V_assign, Zl = V_indexAddrN, Zm = slot_int, Zn = N_buildAll, Zo = RVs_nil, Zp = G_block, Zq = P_store1, Zr = nth_of, Zs = G_inBlock, Zt = G_off, Zu = G_skip, Zv = wrap_i64, Zw = GH_done, Zx = GP_take, Zy = RVs_cons, Zz = GHop_call, Ya = GH_start, Yb = subA_cons, Yc = G_sub, Yd = subA_nil, Ye = take_map_next, Yf = V_len, Yg = insK_at, Yh = G_call, Yi = rb_field, Yj = reads_int, Yk = V_pickT, Yl = G_ifD, Ym = mixedK, Yn = G_callM, Yo = GQ_val, Yp = src_mem, Yq = GPop_append, Yr = G_new, Ys = cell_at, Yt = V_nilCheckF, Yu = V_add, Yv = ct_of, Yw = fmap_next, Yx = G_exit, Yy = RV_tmp, Yz = GHop_new, Xa = G_ret, Xb = N_allocA, Xc = G_loop, Xd = insOf_ok, Xe = V_extract, Xf = GHop_append, Xg = GPop_put, Xh = V_lss, Xi = GHop_put, Xj = gis_any, Xk = P_storeA, Xl = G_put, Xm = V_loadA, Xn = GHop_val, Xo = cbld_write, Xp = insOf_v, Xq = GHop_callM, Xr = G_splitD, Xs = wrap_u64, Xt = wanted_of, Xu = V_pickF, Xv = getI, Xw = ct_chain, Xx = anyt_next, Xy = G_subT. -/
import Derived.WalkKit
import Derived.Lib.Hide
import Derived.Deep.Quiet
import Derived.BigQuiet
import Derived.Lib.QuietBelow
import Derived.IntWalk
import Derived.WalkLawsBesides
import Derived.WalkSpells
import Derived.Laws.StructEq
import Derived.Deep.RegionHeld3
import Derived.Test.YtjnaeoelnmhjfaaProg
import Derived.Laws.MakeOwn
import Derived.Laws.CopyRow
import Derived.DeepKeys
import Derived.Laws.IdiomStrings
import Derived.Laws.RangeString
import Derived.Lib.FrozenHead
import Derived.Lib.UnsafeStr
import Derived.Lib.Builder
import Derived.Laws.Externs
import Derived.Test.YtjnaeoelnmhjfaaRows
import Derived.Lib.MakeNoZero
import Derived.RangeFuncRecord
import Derived.Lib.Bytealg

set_option linter.unusedSimpArgs false
set_option linter.unusedVariables false
namespace Go.Proofs.Ytjnaeoelnmhjfaa
open Go Go.RowKit

/-- What is known of a slot. -/
def fget : List (Nat × Value) → Nat → Option Value
  | [], _ => none
  | (k, v) :: r, t => match Nat.beq k t with
    | true => some v
    | false => fget r t

structure Knows (ds : List Deferred) (n : Nat) (env : List (Nat × Value)) (a : Act) : Prop where
  size : a.tmps.size = n
  defers : a.defers = ds
  get : ∀ t v, fget env t = some v → a.tmps.getD t undef = v

theorem fget_cons (k : Nat) (v : Value) (r : List (Nat × Value)) (t : Nat) : fget ((k, v) :: r) t = if k = t then some v else fget r t := by
  simp only [fget]
  by_cases h : k = t
  · subst h; simp
  · have : Nat.beq k t = false := by rw [← Bool.not_eq_true]; intro e; exact h (Nat.eq_of_beq_eq_true e)
    simp [this, h]

theorem Knows.put {ds : List Deferred} {n : Nat} {env : List (Nat × Value)} {a : Act} (h : Knows ds n env a) {d : Nat} (hd : Nat.blt d n = true) (v : Value) : Knows ds n ((d, v) :: env) (a.put (some d) v) := by
  have hd : d < n := by simpa [Nat.blt_eq] using hd
  refine ⟨by simp [Act.put, h.size], by simp [Act.put, h.defers], fun t u ht => ?_⟩
  have hs := h.size
  rw [fget_cons] at ht
  simp only [Act.put, Array.getD_eq_getD_getElem?, Array.getElem?_setIfInBounds]
  by_cases e : d = t
  · rw [if_pos e] at ht
    subst e
    have : d < a.tmps.size := by omega
    cases ht
    simp [this]
  · rw [if_neg e] at ht
    rw [if_neg e]
    have := h.get t u ht
    rwa [Array.getD_eq_getD_getElem?] at this

theorem Knows.putNone {ds : List Deferred} {n : Nat} {env : List (Nat × Value)} {a : Act} (h : Knows ds n env a) (v : Value) : Knows ds n env (a.put none v) := h

/-- An operand's value. -/
def fev (env : List (Nat × Value)) : Operand → Option Value
  | .tmp t => fget env t
  | .const v => some v
  | .global g => some (.pointer (some ⟨g, 0, none⟩))
  | .func f => some (.func (.func f) #[] #[])

theorem Knows.eval {ds : List Deferred} {n : Nat} {env : List (Nat × Value)} {a : Act} (h : Knows ds n env a) {x : Operand} {v : Value} (hx : fev env x = some v) : a.eval x = v := by
  cases x <;> simp only [fev, Option.some.injEq] at hx
  · exact h.get _ _ hx
  all_goals exact hx

def fevs (env : List (Nat × Value)) : List Operand → Option (List Value)
  | [] => some []
  | x :: xs => match fev env x with
    | none => none
    | some v => match fevs env xs with
      | none => none
      | some vs => some (v :: vs)

theorem Knows.evals {ds : List Deferred} {n : Nat} {env : List (Nat × Value)} {a : Act} (h : Knows ds n env a) : ∀ {xs : List Operand} {vs : List Value}, fevs env xs = some vs → xs.map a.eval = vs
  | [], vs, hx => by simp only [fevs, Option.some.injEq] at hx; subst hx; rfl
  | x :: xs, vs, hx => by
    simp only [fevs] at hx
    split at hx
    · cases hx
    · rename_i v hv
      split at hx
      · cases hx
      · rename_i us hus
        simp only [Option.some.injEq] at hx
        subst hx
        simp [h.eval hv, h.evals hus]

/-- What slots a list tells is told by another. -/
def FSub : List (Nat × Value) → List (Nat × Value) → Prop
  | [], _ => True
  | (t, v) :: r, env => fget env t = some v ∧ FSub r env

theorem FSub.get {env : List (Nat × Value)} : ∀ {e : List (Nat × Value)}, FSub e env → ∀ t v, fget e t = some v → fget env t = some v
  | [], _, t, v, h => by simp [fget] at h
  | (k, u) :: r, hs, t, v, h => by
    rw [fget_cons] at h
    by_cases e : k = t
    · rw [if_pos e] at h
      cases h
      subst e
      exact hs.1
    · rw [if_neg e] at h
      exact FSub.get hs.2 t v h

theorem Knows.sub {ds : List Deferred} {n : Nat} {env e : List (Nat × Value)} {a : Act} (h : Knows ds n env a) (hs : FSub e env) : Knows ds n e a :=
  ⟨h.size, h.defers, fun t v ht => h.get t v (hs.get t v ht)⟩

/-- Blocks apart. -/
def Apart (x y : Option Nat × Obj) : Prop := ∀ b, x.1 = some b → y.1 ≠ some b
theorem Apart.symm {x y : Option Nat × Obj} (h : Apart x y) : Apart y x := fun b hy hx => h b hx hy

def hkeys : List (Option Nat × Obj) → List Nat
  | [] => []
  | (none, _) :: r => hkeys r
  | (some b, _) :: r => b :: hkeys r

theorem mem_hkeys {b : Nat} : ∀ {L : List (Option Nat × Obj)}, b ∈ hkeys L ↔ ∃ o, (some b, o) ∈ L
  | [] => by simp [hkeys]
  | (none, o) :: r => by simp [hkeys, mem_hkeys (L := r)]
  | (some c, o) :: r => by
    simp only [hkeys, List.mem_cons, mem_hkeys (L := r), Prod.mk.injEq, Option.some.injEq]
    constructor
    · rintro (rfl | ⟨o', h⟩)
      · exact ⟨o, .inl ⟨rfl, rfl⟩⟩
      · exact ⟨o', .inr h⟩
    · rintro ⟨o', ⟨rfl, rfl⟩ | h⟩
      · exact .inl rfl
      · exact .inr ⟨o', h⟩

/-- What lies where: A may be read alone (blocks may be told twice there); L's blocks are apart, from each other and from A's. -/
structure Has (w : World) (A L : List (Option Nat × Obj)) : Prop where
  liesA : ∀ b o, (some b, o) ∈ A → w.heap[b]? = some o
  apart : L.Pairwise Apart
  lies : ∀ b o, (some b, o) ∈ L → w.heap[b]? = some o
  cross : ∀ x ∈ A, ∀ y ∈ L, Apart x y

theorem Has.perm {w : World} {A L L' : List (Option Nat × Obj)} (h : Has w A L) (hp : L.Perm L') : Has w A L' :=
  ⟨h.liesA, hp.pairwise h.apart (fun h => h.symm), fun b o hm => h.lies b o (hp.mem_iff.2 hm), fun x hx y hy => h.cross x hx y (hp.mem_iff.2 hy)⟩
theorem Has.left {w : World} {A L M : List (Option Nat × Obj)} (h : Has w A (L ++ M)) : Has w A L :=
  ⟨h.liesA, (List.pairwise_append.1 h.apart).1, fun b o hm => h.lies b o (List.mem_append_left _ hm), fun x hx y hy => h.cross x hx y (List.mem_append_left _ hy)⟩
theorem Has.dropA {w : World} {A L : List (Option Nat × Obj)} (h : Has w A L) : Has w [] L := ⟨fun _ _ h => (by cases h), h.apart, h.lies, fun _ h => (by cases h)⟩
theorem Has.both {w : World} {A L : List (Option Nat × Obj)} (h : Has w A L) {b : Nat} {o : Obj} (hm : (some b, o) ∈ A ++ L) : w.heap[b]? = some o := by
  rcases List.mem_append.1 hm with hm | hm
  · exact h.liesA b o hm
  · exact h.lies b o hm
theorem lt_of_lies {w : World} {b : Nat} {o : Obj} (h : w.heap[b]? = some o) : b < w.heap.size := by
  rcases Nat.lt_or_ge b w.heap.size with h' | h'
  · exact h'
  · rw [Array.getElem?_eq_none h'] at h; cases h
theorem Has.lt {w : World} {A L : List (Option Nat × Obj)} (h : Has w A L) {b : Nat} {o : Obj} (hm : (some b, o) ∈ A ++ L) : b < w.heap.size := lt_of_lies (h.both hm)
theorem has_nil (w : World) : Has w [] [] := ⟨fun _ _ h => (by cases h), .nil, fun _ _ h => (by cases h), fun _ h => (by cases h)⟩

structure Chg (w0 : World) (S : List Nat) (w : World) : Prop where
  os : w.os = w0.os
  tape : w.tape = w0.tape
  output : w.output = w0.output
  size : w0.heap.size ≤ w.heap.size
  block : ∀ k, k < w0.heap.size → k ∉ S → w.heap[k]? = w0.heap[k]?

theorem Chg.refl (w : World) (S : List Nat) : Chg w S w := ⟨rfl, rfl, rfl, Nat.le_refl _, fun _ _ _ => rfl⟩
theorem Chg.trans {w0 w1 w2 : World} {S T : List Nat} (h : Chg w0 S w1) (k : Chg w1 T w2) (hT : ∀ b ∈ T, b ∈ S ∨ w0.heap.size ≤ b) : Chg w0 S w2 :=
  ⟨k.os.trans h.os, k.tape.trans h.tape, k.output.trans h.output, Nat.le_trans h.size k.size, fun i hi hS =>
    (k.block i (Nat.lt_of_lt_of_le hi h.size) (fun ht => by rcases hT i ht with h | h; exact hS h; omega)).trans (h.block i hi hS)⟩

structure Mem (w0 : World) (A : List (Option Nat × Obj)) (S : List Nat) (L : List (Option Nat × Obj)) (w : World) : Prop where
  has : Has w A L
  own : ∀ b o, (some b, o) ∈ L → b ∈ S ∨ w0.heap.size ≤ b
  chg : Chg w0 S w

/-- Some entries, by their places (each counted in what is left), and the others. -/
def tk : List Nat → List (Option Nat × Obj) → Option (List (Option Nat × Obj) × List (Option Nat × Obj))
  | [], L => some ([], L)
  | i :: is, L => match L[i]? with
    | none => none
    | some x => match tk is (L.eraseIdx i) with
      | none => none
      | some (l, r) => some (x :: l, r)

theorem perm_eraseIdx {α : Type} : ∀ (L : List α) (i : Nat) (x : α), L[i]? = some x → L.Perm (x :: L.eraseIdx i)
  | [], i, x, h => by simp at h
  | y :: L, 0, x, h => by simp at h; subst h; exact .refl _
  | y :: L, i + 1, x, h => by
    simp only [List.eraseIdx_cons_succ]
    exact (List.Perm.cons y (perm_eraseIdx L i x (by simpa using h))).trans (.swap x y _)

theorem tk_perm : ∀ {is : List Nat} {L l r : List (Option Nat × Obj)}, tk is L = some (l, r) → L.Perm (l ++ r)
  | [], L, l, r, h => by simp only [tk, Option.some.injEq, Prod.mk.injEq] at h; obtain ⟨rfl, rfl⟩ := h; exact .refl _
  | i :: is, L, l, r, h => by
    simp only [tk] at h
    split at h
    · cases h
    · rename_i x hx
      split at h
      · cases h
      · rename_i l' r' ht
        simp only [Option.some.injEq, Prod.mk.injEq] at h
        obtain ⟨rfl, rfl⟩ := h
        exact (perm_eraseIdx L i x hx).trans (.cons x (tk_perm ht))

/-- Some entries, by their places (a place may come twice). -/
def pk : List Nat → List (Option Nat × Obj) → Option (List (Option Nat × Obj))
  | [], _ => some []
  | i :: is, L => match L[i]? with
    | none => none
    | some x => match pk is L with
      | none => none
      | some l => some (x :: l)
theorem pk_mem : ∀ {is : List Nat} {L l : List (Option Nat × Obj)}, pk is L = some l → ∀ x ∈ l, x ∈ L
  | [], L, l, h, x, hx => by simp only [pk, Option.some.injEq] at h; subst h; cases hx
  | i :: is, L, l, h, x, hx => by
    simp only [pk] at h
    split at h
    · cases h
    · rename_i y hy
      split at h
      · cases h
      · rename_i l' hl
        simp only [Option.some.injEq] at h
        subst h
        rcases List.mem_cons.1 hx with e | hx
        · subst e; exact List.mem_of_getElem? hy
        · exact pk_mem hl x hx

theorem Mem.sub {w0 w : World} {A L L' R : List (Option Nat × Obj)} {S : List Nat} (h : Mem w0 A S L w) (hp : L.Perm (L' ++ R)) : Mem w0 A S L' w :=
  ⟨(h.has.perm hp).left, fun b o hm => h.own b o (hp.mem_iff.2 (List.mem_append_left _ hm)), h.chg⟩
theorem Mem.lies {w0 w : World} {A L : List (Option Nat × Obj)} {S : List Nat} (h : Mem w0 A S L w) {b : Nat} {o : Obj} (hm : (some b, o) ∈ L) : w.heap[b]? = some o := h.has.lies b o hm
theorem Mem.drew {w0 w : World} {A L : List (Option Nat × Obj)} {S : List Nat} (h : Mem w0 A S L w) (k : Nat) : Mem w0 A S L { w with drawn := k } :=
  ⟨⟨h.has.liesA, h.has.apart, h.has.lies, h.has.cross⟩, h.own, ⟨h.chg.os, h.chg.tape, h.chg.output, h.chg.size, h.chg.block⟩⟩

/-- A call under way: its function, the world in which it began, what it may read, what it may write, what it must show at its return. -/
structure Cx where
  P : Program
  f : FuncId
  w0 : World
  A : List (Option Nat × Obj)
  S : List Nat
  R : Value → List (Option Nat × Obj) → Prop
  ds : List Deferred

def GoesTo (c : Cx) (todo : List Item) (a : Act) (w : World) : Prop :=
  ∀ (b : Frame), b.fn = c.f → b.kind = .normal → ∀ cs, ∃ v post w' fr, c.R v post ∧ Mem c.w0 [] c.S post w' ∧ Steps c.P (lone (b.at a todo) cs w) (lone fr cs w') ∧ fr.fn = c.f ∧ fr.leaving c.P w' (.returned v)

theorem goes_of {c : Cx} {todo todo' : List Item} {a a' : Act} {w w' : World} (hs : ∀ (b : Frame) cs, step c.P (lone (b.at a todo) cs w) = .next (lone (b.at a' todo') cs w')) (h : GoesTo c todo' a' w') : GoesTo c todo a w :=
  fun b hb hk cs => let ⟨v, p, w2, fr, hR, hm, hst, e⟩ := h b hb hk cs; ⟨v, p, w2, fr, hR, hm, .head (hs b cs) hst, e⟩

def G (c : Cx) (n : Nat) (env : List (Nat × Value)) (L : List (Option Nat × Obj)) (todo : List Item) : Prop :=
  ∀ a w, Knows c.ds n env a → Mem c.w0 c.A c.S L w → GoesTo c todo a w

section
variable {c : Cx} {n : Nat} {env : List (Nat × Value)} {L : List (Option Nat × Obj)} {k : List Item}
theorem Zu (h : G c n env L k) : G c n env L (.code .skip :: k) := fun a w hk hm => goes_of (fun _ _ => step_skip) (h a w hk hm)
theorem Zs {id : Nat} (h : G c n env L k) : G c n env L (.inBlock id :: k) := fun a w hk hm => goes_of (fun _ _ => step_inBlock) (h a w hk hm)
theorem Zi {x y : Code} (h : G c n env L (.code x :: .code y :: k)) : G c n env L (.code (.seq x y) :: k) := fun a w hk hm => goes_of (fun _ _ => step_seq) (h a w hk hm)
theorem Zp {id : Nat} {x : Code} (h : G c n env L (.code x :: .inBlock id :: k)) : G c n env L (.code (.block id x) :: k) := fun a w hk hm => goes_of (fun _ _ => step_block) (h a w hk hm)
theorem Yx {id : Nat} {k' : List Item} (he : exitTo id k = some k') (h : G c n env L k') : G c n env L (.code (.exit id) :: k) := fun a w hk hm => goes_of (fun _ _ => step_exit he) (h a w hk hm)
theorem G_then {x : Operand} {p q : Code} (hx : fev env x = some (.bool true)) (h : G c n env L (.code p :: k)) : G c n env L (.code (.cond x p q) :: k) :=
  fun a w hk hm => goes_of (fun _ _ => step_cond (hk.eval hx)) (h a w hk hm)
theorem G_else {x : Operand} {p q : Code} (hx : fev env x = some (.bool false)) (h : G c n env L (.code q :: k)) : G c n env L (.code (.cond x p q) :: k) :=
  fun a w hk hm => goes_of (fun _ _ => step_cond (hk.eval hx)) (h a w hk hm)
theorem G_if {x : Operand} {p q : Code} {t : Bool} (hx : fev env x = some (.bool t)) (hT : t = true → G c n env L (.code p :: k)) (hF : t = false → G c n env L (.code q :: k)) : G c n env L (.code (.cond x p q) :: k) := by
  cases t
  · exact G_else hx (hF rfl)
  · exact G_then hx (hT rfl)
/-- A truth is decided. -/
theorem G_split {todo : List Item} (d : Nat) {t : Bool} (hx : fget env d = some (.bool t)) (hT : t = true → G c n ((d, .bool true) :: env) L todo) (hF : t = false → G c n ((d, .bool false) :: env) L todo) : G c n env L todo := by
  have key : G c n ((d, .bool t) :: env) L todo := by
    cases t
    · exact hF rfl
    · exact hT rfl
  refine fun a w hk hm => key a w ⟨hk.size, hk.defers, fun u v hu => hk.get u v ?_⟩ hm
  rw [fget_cons] at hu
  by_cases e : d = u
  · rw [if_pos e] at hu
    subst e
    rw [hx, hu]
  · rwa [if_neg e] at hu
theorem Yc {todo : List Item} {e : List (Nat × Value)} {L' : List (Option Nat × Obj)} (he : FSub e env) (is : List Nat) (hl : ∃ M, tk is L = some (L', M)) (h : G c n e L' todo) : G c n env L todo :=
  let ⟨_, hl⟩ := hl
  fun a w hk hm => h a w (hk.sub he) (hm.sub (tk_perm hl))
end
end Go.Proofs.Ytjnaeoelnmhjfaa

set_option linter.unusedSimpArgs false
set_option linter.unusedVariables false
namespace Go.Proofs.Ytjnaeoelnmhjfaa
open Go Go.RowKit

section
variable {c : Cx} {n : Nat} {env : List (Nat × Value)} {L : List (Option Nat × Obj)} {k : List Item}

theorem Xc {X : Type} {body : Code} (J : X → Prop) (μ : X → Nat) (E : X → List (Nat × Value)) (H : X → List (Option Nat × Obj))
    (round : ∀ x, J x → (∀ x', J x' → μ x' < μ x → G c n (E x') (H x') (.inLoop body :: k)) → G c n (E x) (H x) (.code body :: .inLoop body :: k))
    (x0 : X) (h0 : J x0) : G c n (E x0) (H x0) (.code (.loop body) :: k) := by
  have key : ∀ m x, μ x = m → J x → G c n (E x) (H x) (.code body :: .inLoop body :: k) := by
    intro m
    induction m using Nat.strongRecOn with
    | _ m ih =>
      intro x hm hJ
      refine round x hJ fun x' hJ' hlt a w hk hmm => goes_of (fun _ _ => step_inLoop) (ih (μ x') (hm ▸ hlt) x' rfl hJ' a w hk hmm)
  exact fun a w hk hm => goes_of (fun _ _ => step_loop) (key _ x0 rfl h0 a w hk hm)

/-- A result, as it stands at the return. -/
def rvrun (tmps : Array Value) (r : ResultVar) : Sem Value := match r with
  | .tmp t => pure (tmps.getD t undef)
  | .cell x t => do loadVar t (← asAddr (tmps.getD x undef))

def RV (c : Cx) (n : Nat) (env : List (Nat × Value)) (L : List (Option Nat × Obj)) (r : ResultVar) (v : Value) : Prop :=
  ∀ a w, Knows c.ds n env a → Mem c.w0 c.A c.S L w → (rvrun a.tmps r).run c.P w = .ok v w

def RVs (c : Cx) (n : Nat) (env : List (Nat × Value)) (L : List (Option Nat × Obj)) : List ResultVar → List Value → Prop
  | [], [] => True
  | r :: rs, v :: vs => RV c n env L r v ∧ RVs c n env L rs vs
  | _, _ => False

theorem Zo : RVs c n env L [] [] := trivial
theorem Zy {r : ResultVar} {v : Value} {rs : List ResultVar} {vs : List Value} (h : RV c n env L r v) (hs : RVs c n env L rs vs) : RVs c n env L (r :: rs) (v :: vs) := ⟨h, hs⟩

def packed (vs : List Value) : Value := match vs with
  | [v] => v
  | vs => .tuple vs.toArray

theorem RVs.run {a : Act} {w : World} (hk : Knows c.ds n env a) (hm : Mem c.w0 c.A c.S L w) : ∀ {rs : List ResultVar} {vs : List Value}, RVs c n env L rs vs → (rs.mapM (rvrun a.tmps)).run c.P w = .ok vs w
  | [], [], _ => rfl
  | r :: rs, v :: vs, h => by
    have h0 := h.1 a w hk hm
    have ih := RVs.run hk hm h.2
    rw [List.mapM_cons]
    simp [h0, ih]
  | [], _ :: _, h => h.elim
  | _ :: _, [], h => h.elim

theorem goes_ret {fn : Func} {rs : List ResultVar} {vs : List Value} {post : List (Option Nat × Obj)} (hr : fn.results = rs.toArray)
    (hv : RVs c n env L rs vs) {a : Act} {w : World} (hk : Knows c.ds n env a) (hm : Mem c.w0 c.A c.S L w) : (results fn a.tmps).run c.P w = .ok (packed vs) w := by
  have h1 := hv.run hk hm
  have he : results fn a.tmps = (do
      let vs ← fn.results.mapM (rvrun a.tmps)
      pure (if h : vs.size = 1 then vs[0] else .tuple vs)) := by
    unfold results
    have : (rvrun a.tmps) = (fun | .tmp t => pure (a.tmps.getD t undef) | .cell x t => do loadVar t (← asAddr (a.tmps.getD x undef)) : ResultVar → Sem Value) := by
      funext r
      cases r <;> rfl
    rw [this]
    rfl
  rw [he, hr]
  simp only [List.mapM_toArray, Sem.run_bind, Sem.run_map, h1, Result.andThen_ok, Sem.run_pure]
  unfold packed
  match vs with
  | [] => rfl
  | [v] => rfl
  | _ :: _ :: _ => rfl

theorem Mem.dropA {w0 w : World} {A L : List (Option Nat × Obj)} {S : List Nat} (h : Mem w0 A S L w) : Mem w0 [] S L w := ⟨h.has.dropA, h.own, h.chg⟩

theorem Xa {fn : Func} {rs : List ResultVar} {vs : List Value} {post M : List (Option Nat × Obj)} (hf : c.P.funcs[c.f]? = some fn) (hr : fn.results = rs.toArray)
    (hv : RVs c n env L rs vs) (is : List Nat) (hl : tk is L = some (post, M)) (hR : c.R (packed vs) post) (hds : c.ds = [] := by rfl) : G c n env L (.code .ret :: k) := by
  intro a w hk hm b hb hkind cs
  have h3 := goes_ret (post := post) hr hv hk hm
  exact ⟨packed vs, post, w, _, hR, (hm.sub (tk_perm hl)).dropA, .one step_ret, hb, rfl, hk.defers.trans hds, hkind, fn, by rw [← hf, ← hb]; rfl, h3⟩

theorem G_end {fn : Func} {rs : List ResultVar} {vs : List Value} {post M : List (Option Nat × Obj)} (hf : c.P.funcs[c.f]? = some fn) (hr : fn.results = rs.toArray)
    (hv : RVs c n env L rs vs) (is : List Nat) (hl : tk is L = some (post, M)) (hR : c.R (packed vs) post) (hds : c.ds = [] := by rfl) : G c n env L [] := by
  intro a w hk hm b hb hkind cs
  have h3 := goes_ret (post := post) hr hv hk hm
  exact ⟨packed vs, post, w, _, hR, (hm.sub (tk_perm hl)).dropA, .one step_end, hb, rfl, hk.defers.trans hds, hkind, fn, by rw [← hf, ← hb]; rfl, h3⟩

theorem Yy {t : Nat} {v : Value} (h : fget env t = some v) : RV c n env L (.tmp t) v := fun a w hk _ => by
  have := hk.get t v h
  show (pure (a.tmps.getD t undef) : Sem Value).run c.P w = _
  rw [this]
  rfl

/-- A CONTRACT: called with these arguments where these blocks lie (A: read alone; L: may be written), it returns a value and leaves blocks of which R holds; nothing else that was there has turned. -/
def Ct (P : Program) (f : FuncId) (args : List Value) (A L : List (Option Nat × Obj)) (R : Value → List (Option Nat × Obj) → Prop) : Prop :=
  ∀ w0, Has w0 A L → Calls P f args.toArray w0 fun e w' => ∃ v post, e = .returned v ∧ R v post ∧ Mem w0 [] (hkeys L) post w'

def fargs : Nat → List Value → List (Nat × Value)
  | _, [] => []
  | i, v :: vs => (i, v) :: fargs (i + 1) vs

theorem fget_fargs : ∀ (vs : List Value) (i t : Nat) (v : Value), fget (fargs i vs) t = some v → ∃ j, t = i + j ∧ vs[j]? = some v
  | [], i, t, v, h => by simp [fargs, fget] at h
  | u :: vs, i, t, v, h => by
    simp only [fargs] at h
    rw [fget_cons] at h
    by_cases e : i = t
    · rw [if_pos e] at h
      exact ⟨0, by omega, by simpa using h⟩
    · rw [if_neg e] at h
      obtain ⟨j, h1, h2⟩ := fget_fargs vs (i + 1) t v h
      exact ⟨j + 1, by omega, by simpa using h2⟩

theorem Yv {P : Program} {f : FuncId} {fn : Func} {body : Code} {args : List Value} {A L : List (Option Nat × Obj)} {R : Value → List (Option Nat × Obj) → Prop}
    (hf : P.funcs[f]? = some fn) (hb : fn.body = some body) (hn : Nat.ble args.length fn.ntmps = true)
    (h : ∀ w0, G ⟨P, f, w0, A, hkeys L, R, []⟩ fn.ntmps (fargs 0 args) L [.code body]) : Ct P f args A L R := by
  intro w0 hw cs
  let b : Frame := { (default : Frame) with fn := f, kind := .normal }
  have hn : args.length ≤ fn.ntmps := by simpa using hn
  have henter : Frame.enter P f args.toArray .normal =
      b.at { tmps := args.toArray ++ Array.replicate (fn.ntmps - args.toArray.size) undef, defers := [] } [.code body] := by
    simp [Frame.enter, Frame.at, hf, hb, b]
  obtain ⟨v, post, w', fr, hR, hm, hst, hfn, hl⟩ := h w0 { tmps := args.toArray ++ Array.replicate (fn.ntmps - args.toArray.size) undef, defers := [] } w0
    ⟨by simp; omega, rfl, fun t v ht => by
      obtain ⟨j, rfl, hj⟩ := fget_fargs _ _ _ _ ht
      have hlt : j < args.length := by
        rcases Nat.lt_or_ge j args.length with h | h
        · exact h
        · rw [List.getElem?_eq_none h] at hj; cases hj
      rw [Nat.zero_add, Array.getD_eq_getD_getElem?, Array.getElem?_append_left (by simpa using hlt)]
      simp [hj]⟩
    ⟨hw, fun b o hm => .inl (mem_hkeys.2 ⟨o, hm⟩), Chg.refl _ _⟩ b rfl rfl cs
  rw [← henter] at hst
  exact ⟨.returned v, w', fr, ⟨v, post, rfl, hR, hm⟩, hst, hfn, hl⟩

/-- Whether an operation is wanted. -/
def fguard (ops : Array Oper) (env : List (Nat × Value)) (o : Oper) : Option Bool := match o.guard with
  | none => some true
  | some (j, want) => match (ops[j]?).bind (·.dst) with
    | none => none
    | some d => match fget env d with
      | some (.bool b) => some (b == want)
      | some (.tuple _) => some false
      | _ => none

theorem Xt {ds : List Deferred} {ops : Array Oper} {o : Oper} {a : Act} {g : Bool} (hk : Knows ds n env a) (h : fguard ops env o = some g) : Region.wanted o (yielded ops a.tmps) = g := by
  unfold fguard at h
  unfold Region.wanted
  split at h
  · rename_i hg
    simp only [Option.some.injEq] at h
    subst h
    simp [hg]
  · rename_i j want hg
    split at h
    · cases h
    · rename_i d hd
      split at h
      · rename_i b hb
        simp only [Option.some.injEq] at h
        subst h
        have h1 := hk.get _ _ hb
        have h2 : a.tmps[d]? = some (.bool b) := by
          rw [Array.getD_eq_getD_getElem?] at h1
          cases h3 : a.tmps[d]? with
          | none => rw [h3] at h1; simp [undef] at h1
          | some x => rw [h3] at h1; simpa using h1
        rw [hg]
        simp only [yielded, hd, Option.bind_some, h2]
        cases b <;> cases want <;> rfl
      · rename_i vs hb
        simp only [Option.some.injEq] at h
        subst h
        have h1 := hk.get _ _ hb
        rw [hg]
        rw [Array.getD_eq_getD_getElem?] at h1
        cases h3 : a.tmps[d]? with
        | none => simp only [yielded, hd, Option.bind_some, h3]; cases want <;> rfl
        | some x =>
          rw [h3] at h1
          simp only [Option.getD_some] at h1
          subst h1
          simp only [yielded, hd, Option.bind_some, h3]; cases want <;> rfl
      · cases h

theorem goes_op {ops : Array Oper} {i : Nat} {rest : List Nat} {o : Oper} {a : Act} {w : World} (ho : ops[i]? = some o) (hw : Region.wanted o (yielded ops a.tmps) = true)
    (h : o.upon c.P a (fun a' w' => GoesTo c (.inRegion ops rest :: k) a' w') (fun _ _ _ => False) ((execOp a.eval o).run c.P w)) : GoesTo c (.inRegion ops (i :: rest) :: k) a w := by
  intro b hb hkind cs
  have hg := stepG_op (P := c.P) (b := b) (k := k) (cs := cs) (w := w) (rest := rest) ho hw
  have hfin : ∀ v, (b.at a (.inRegion ops (i :: rest) :: k)).finish v = b.at (a.put o.dst v) (.inRegion ops rest :: k) := by
    intro v; rw [Frame.finish_at, ho]; rfl
  unfold Oper.upon at h
  split at h
  · rename_i v w' hr
    obtain ⟨v', p, w2, fr, hR, hm, hst, e⟩ := h b hb hkind cs
    refine ⟨v', p, w2, fr, hR, hm, .head (step_lone_go ?_) hst, e⟩
    rw [hg, ← hfin]; simp [stepG.apply, hr]
  · rename_i w' hr
    obtain ⟨v', p, w2, fr, hR, hm, hst, e⟩ := h b hb hkind cs
    refine ⟨v', p, w2, fr, hR, hm, .head (step_lone_go ?_) hst, e⟩
    rw [hg, ← hfin]; simp [stepG.apply, hr]
  · rename_i d w' hr
    obtain ⟨v', p, w2, fr, hR, hm, hst, e⟩ := h b hb hkind cs
    refine ⟨v', p, w2, fr, hR, hm, .head (step_lone_go ?_) hst, e⟩
    have : ({ b.at a (.inRegion ops (i :: rest) :: k) with defers := d :: a.defers } : Frame).finish undef =
        b.at ({ a with defers := d :: a.defers }.put o.dst undef) (.inRegion ops rest :: k) := by
      have := Frame.finish_at b { a with defers := d :: a.defers } ops i rest k undef
      rw [ho] at this; exact this
    rw [hg]; simp only [stepG.apply, Sem.runT_eq, hr, GStep.bare_after]
    exact congrArg (fun fr => GStep.go { frame := fr, callers := cs, status := .running, dying := none } w') this
  · rename_i f args w' hr
    obtain ⟨e, w'', fr, hR, hsteps, _, hleave⟩ := h (b.at a (.inRegion ops (i :: rest) :: k) :: cs)
    have henter : step c.P (lone (b.at a (.inRegion ops (i :: rest) :: k)) cs w) =
        .next (lone (Frame.enter c.P f args .normal) (b.at a (.inRegion ops (i :: rest) :: k) :: cs) w') :=
      step_lone_go (by rw [hg]; simp [stepG.apply, hr, Frame.at])
    cases e with
    | returned v =>
      obtain ⟨v', p, w2, fr', hR', hm, hst, e⟩ := hR b hb hkind cs
      refine ⟨v', p, w2, fr', hR', hm, .head henter (hsteps.trans (.head ?_ hst)), e⟩
      rw [← hfin]; exact step_leave_returned hleave
    | panicked chain => exact hR.elim
    | outgrown => obtain ⟨_, _, hR⟩ := hR; exact hR.elim
  · rename_i row args w' hr
    obtain ⟨v, w'', hR, hsteps⟩ := h (b.at a (.inRegion ops (i :: rest) :: k)) cs
    have henter : step c.P (lone (b.at a (.inRegion ops (i :: rest) :: k)) cs w) =
        .next (lone (Frame.ofRow c.P row args .normal) (b.at a (.inRegion ops (i :: rest) :: k) :: cs) w') :=
      step_lone_go (by rw [hg]; simp [stepG.apply, hr, Frame.at])
    obtain ⟨v', p, w2, fr', hR', hm, hst, e⟩ := hR b hb hkind cs
    refine ⟨v', p, w2, fr', hR', hm, .head henter (hsteps.trans ?_), e⟩
    rw [hfin]; exact hst
  · exact h.elim
  · exact h.elim

theorem Zd {id : Nat} {ops : Array Oper} {l : List Nat} (hl : List.range ops.size = l) (h : G c n env L (.inRegion ops l :: k)) : G c n env L (.code (.region id ops false) :: k) :=
  fun a w hk hm => goes_of (fun _ _ => step_region) (by rw [hl]; exact h a w hk hm)
theorem Zg {ops : Array Oper} (h : G c n env L k) : G c n env L (.inRegion ops [] :: k) := fun a w hk hm => goes_of (fun _ _ => step_region_end) (h a w hk hm)

theorem Zt {ops : Array Oper} {i : Nat} {rest : List Nat} {o : Oper} {d : Nat} (ho : ops[i]? = some o) (hd : o.dst = some d) (hn : Nat.blt d n = true) (hg : fguard ops env o = some false)
    (h : G c n ((d, undef) :: env) L (.inRegion ops rest :: k)) : G c n env L (.inRegion ops (i :: rest) :: k) := by
  intro a w hk hm
  refine goes_of (a' := a.put o.dst undef) (w' := w) (todo' := .inRegion ops rest :: k) (fun b cs => ?_) (h _ w (hd ▸ hk.put hn undef) hm)
  have := step_op_skip (P := c.P) (b := b) (a := a) (k := k) (cs := cs) (w := w) (ops := ops) (i := i) (rest := rest) (by simp [ho, Xt hk hg])
  rw [ho] at this
  exact this
/-- An operation that only tells a value. -/
def Val (c : Cx) (n : Nat) (env : List (Nat × Value)) (L : List (Option Nat × Obj)) (o : Oper) (v : Value) : Prop :=
  ∀ a w, Knows c.ds n env a → Mem c.w0 c.A c.S L w → (execOp a.eval o).run c.P w = .ok (.value v) w

theorem Za {ops : Array Oper} {i : Nat} {rest : List Nat} {o : Oper} {d : Nat} {v : Value} (ho : ops[i]? = some o) (hd : o.dst = some d) (hn : Nat.blt d n = true) (hg : fguard ops env o = some true)
    (hv : Val c n env L o v) (h : G c n ((d, v) :: env) L (.inRegion ops rest :: k)) : G c n env L (.inRegion ops (i :: rest) :: k) := by
  intro a w hk hm
  refine goes_op ho (Xt hk hg) ?_
  rw [hv a w hk hm, Oper.upon_value, hd]
  exact h _ w (hk.put hn v) hm

/-- An operation that makes a block. -/
def New (c : Cx) (n : Nat) (env : List (Nat × Value)) (L : List (Option Nat × Obj)) (o : Oper) (mk : Nat → Value) (ob : Obj) : Prop :=
  ∀ a w, Knows c.ds n env a → Mem c.w0 c.A c.S L w → (execOp a.eval o).run c.P w = .ok (.value (mk w.heap.size)) (w.alloc ob)

theorem Mem.alloc {w0 w : World} {A L : List (Option Nat × Obj)} {S : List Nat} (h : Mem w0 A S L w) (ob : Obj) : Mem w0 A S ((some w.heap.size, ob) :: L) (w.alloc ob) := by
  have hlt : ∀ b o, (some b, o) ∈ A ++ L → b < w.heap.size := fun b o hm => h.has.lt hm
  refine ⟨⟨fun b o hm => ?_, List.pairwise_cons.2 ⟨fun x hx b hb hx' => ?_, h.has.apart⟩, fun b o hm => ?_, fun x hx y hy b hxb hyb => ?_⟩, fun b o hm => ?_, ?_⟩
  · have hm' : (some b, o) ∈ A ++ L := List.mem_append_left _ hm
    rw [Below.heap_alloc _ _ _ (hlt _ _ hm')]
    exact h.has.liesA b o hm
  · obtain ⟨xb, xo⟩ := x
    simp only at hb hx'
    subst hx'
    cases hb
    have := hlt _ _ (List.mem_append_right A hx)
    omega
  · rcases List.mem_cons.1 hm with e | hm
    · cases e
      show (w.heap.push _)[w.heap.size]? = _
      simp
    · rw [Below.heap_alloc _ _ _ (hlt _ _ (List.mem_append_right A hm))]
      exact h.has.lies b o hm
  · rcases List.mem_cons.1 hy with e | hy
    · subst e
      obtain ⟨xb, xo⟩ := x
      simp only at hxb hyb
      subst hxb
      cases hyb
      have := hlt _ _ (List.mem_append_left L hx)
      omega
    · exact h.has.cross x hx y hy b hxb hyb
  · rcases List.mem_cons.1 hm with e | hm
    · cases e
      exact .inr h.chg.size
    · exact h.own b o hm
  · refine ⟨h.chg.os, h.chg.tape, h.chg.output, by have := h.chg.size; simp; omega, fun i hi hS => ?_⟩
    rw [Below.heap_alloc _ _ _ (by have := h.chg.size; omega)]
    exact h.chg.block i hi hS

theorem Yr {ops : Array Oper} {i : Nat} {rest : List Nat} {o : Oper} {d : Nat} {mk : Nat → Value} {ob : Obj} (ho : ops[i]? = some o) (hd : o.dst = some d) (hn : Nat.blt d n = true) (hg : fguard ops env o = some true)
    (hv : New c n env L o mk ob) (h : ∀ b, G c n ((d, mk b) :: env) ((some b, ob) :: L) (.inRegion ops rest :: k)) : G c n env L (.inRegion ops (i :: rest) :: k) := by
  intro a w hk hm
  refine goes_op ho (Xt hk hg) ?_
  rw [hv a w hk hm, Oper.upon_value, hd]
  exact h w.heap.size _ _ (hk.put hn _) (hm.alloc ob)

/-- An operation that writes a block. -/
def Put (c : Cx) (n : Nat) (env : List (Nat × Value)) (L : List (Option Nat × Obj)) (o : Oper) (b : Nat) (ob : Obj) : Prop :=
  ∀ a w, Knows c.ds n env a → Mem c.w0 c.A c.S L w → ∃ w', (execOp a.eval o).run c.P w = .ok .skip w' ∧ w'.os = w.os ∧ w'.tape = w.tape ∧ w'.output = w.output ∧ w'.heap.size = w.heap.size ∧ w'.heap[b]? = some ob ∧ ∀ k, k ≠ b → w'.heap[k]? = w.heap[k]?

theorem Mem.put {w0 w w' : World} {A L : List (Option Nat × Obj)} {S : List Nat} {b : Nat} {o ob : Obj} {l1 l2 : List (Option Nat × Obj)} (h : Mem w0 A S L w) (hL : L = l1 ++ (some b, o) :: l2)
    (h1 : w'.os = w.os) (h2 : w'.tape = w.tape) (h3 : w'.output = w.output) (h4 : w'.heap.size = w.heap.size) (h5 : w'.heap[b]? = some ob) (h6 : ∀ k, k ≠ b → w'.heap[k]? = w.heap[k]?) : Mem w0 A S (l1 ++ (some b, ob) :: l2) w' := by
  subst hL
  have hp : ∀ x : Option Nat × Obj, (l1 ++ x :: l2).Perm (x :: (l1 ++ l2)) := fun x => List.perm_middle
  have hh := h.has.perm (hp _)
  obtain ⟨ha, hr⟩ := List.pairwise_cons.1 hh.apart
  have hown : b ∈ S ∨ w0.heap.size ≤ b := h.own b o (by simp)
  have hbase : Has w' A ((some b, ob) :: (l1 ++ l2)) := by
    refine ⟨fun b' o' hm => ?_, List.pairwise_cons.2 ⟨fun x hx b1 hb1 => ha x hx b1 hb1, hr⟩, fun b' o' hm => ?_, fun x hx y hy => ?_⟩
    · have hne : b' ≠ b := fun e => hh.cross _ hm (some b, o) (by simp) b' rfl (by rw [e])
      rw [h6 b' hne]
      exact hh.liesA b' o' hm
    · rcases List.mem_cons.1 hm with e | hm
      · cases e; exact h5
      · have hne : b' ≠ b := fun e => ha _ hm b rfl (by rw [e])
        rw [h6 b' hne]
        exact hh.lies b' o' (List.mem_cons_of_mem _ hm)
    · rcases List.mem_cons.1 hy with e | hy
      · subst e
        exact fun b1 hx1 hy1 => hh.cross x hx (some b, o) (by simp) b1 hx1 hy1
      · exact hh.cross x hx y (List.mem_cons_of_mem _ hy)
  refine ⟨hbase.perm (hp (some b, ob)).symm, fun b' o' hm => ?_, ⟨h1.trans h.chg.os, h2.trans h.chg.tape, h3.trans h.chg.output, by rw [h4]; exact h.chg.size, fun i hi hS => ?_⟩⟩
  · rcases List.mem_append.1 hm with hm | hm
    · exact h.own b' o' (List.mem_append_left _ hm)
    · rcases List.mem_cons.1 hm with e | hm
      · cases e; exact hown
      · exact h.own b' o' (List.mem_append_right _ (List.mem_cons_of_mem _ hm))
  · have hne : i ≠ b := fun e => by subst e; rcases hown with h' | h'; exact hS h'; omega
    rw [h6 i hne]
    exact h.chg.block i hi hS

theorem Xl {ops : Array Oper} {i : Nat} {rest : List Nat} {o : Oper} {b : Nat} {old ob : Obj} {l1 l2 L' : List (Option Nat × Obj)} (ho : ops[i]? = some o) (hd : o.dst = none) (hg : fguard ops env o = some true)
    (hL : L = l1 ++ (some b, old) :: l2) (hv : Put c n env L o b ob) (hL' : l1 ++ (some b, ob) :: l2 = L') (h : G c n env L' (.inRegion ops rest :: k)) : G c n env L (.inRegion ops (i :: rest) :: k) := by
  intro a w hk hm
  obtain ⟨w', hr, h1, h2, h3, h4, h5, h6⟩ := hv a w hk hm
  refine goes_op ho (Xt hk hg) ?_
  rw [hr, Oper.upon_skip, hd]
  subst hL'
  exact h _ w' (hk.putNone undef) (hm.put hL h1 h2 h3 h4 h5 h6)

theorem Mem.call {w0 w w' : World} {A L A' L' L2 post : List (Option Nat × Obj)} {S : List Nat} {is js : List Nat} (h : Mem w0 A S L w) (hL : tk is L = some (L', L2)) (_hA : pk js (A ++ L2) = some A')
    (hp : Mem w [] (hkeys L') post w') : Mem w0 A S (post ++ L2) w' := by
  have p1 := tk_perm hL
  have hb : Has w A (L' ++ L2) := h.has.perm p1
  have pw2 := List.pairwise_append.1 hb.apart
  have hlt2 : ∀ b o, (some b, o) ∈ A ++ L2 → b < w.heap.size := fun b o hm => by
    rcases List.mem_append.1 hm with hm | hm
    · exact lt_of_lies (hb.liesA b o hm)
    · exact lt_of_lies (hb.lies b o (List.mem_append_right _ hm))
  have hnot : ∀ b o, (some b, o) ∈ A ++ L2 → b ∉ hkeys L' := fun b o hm hin => by
    obtain ⟨o', ho'⟩ := mem_hkeys.1 hin
    rcases List.mem_append.1 hm with hm | hm
    · exact hb.cross _ hm _ (List.mem_append_left _ ho') b rfl rfl
    · exact pw2.2.2 _ ho' _ hm b rfl rfl
  have hcross : ∀ x ∈ A ++ L2, ∀ y ∈ post, Apart x y := fun x hx y hy b hxb hyb => by
    obtain ⟨xb, xo⟩ := x
    obtain ⟨yb, yo⟩ := y
    simp only at hxb hyb
    subst hxb hyb
    rcases hp.own b yo hy with h' | h'
    · exact hnot b xo hx h'
    · have := hlt2 _ _ hx
      omega
  refine ⟨⟨fun b o hm => ?_, List.pairwise_append.2 ⟨hp.has.apart, pw2.2.1, fun x hx y hy => (hcross y (List.mem_append_right _ hy) x hx).symm⟩, fun b o hm => ?_, fun x hx y hy => ?_⟩, fun b o hm => ?_, h.chg.trans hp.chg (fun b hb' => ?_)⟩
  · have hm' : (some b, o) ∈ A ++ L2 := List.mem_append_left _ hm
    rw [hp.chg.block b (hlt2 _ _ hm') (hnot b o hm')]
    exact hb.liesA b o hm
  · rcases List.mem_append.1 hm with hm | hm
    · exact hp.lies hm
    · have hm' : (some b, o) ∈ A ++ L2 := List.mem_append_right _ hm
      rw [hp.chg.block b (hlt2 _ _ hm') (hnot b o hm')]
      exact hb.lies b o (List.mem_append_right _ hm)
  · rcases List.mem_append.1 hy with hy | hy
    · exact hcross x (List.mem_append_left _ hx) y hy
    · exact hb.cross x hx y (List.mem_append_right _ hy)
  · rcases List.mem_append.1 hm with hm | hm
    · rcases hp.own b o hm with h' | h'
      · obtain ⟨o', ho'⟩ := mem_hkeys.1 h'
        exact h.own b o' (p1.mem_iff.2 (List.mem_append_left _ ho'))
      · exact .inr (Nat.le_trans h.chg.size h')
    · exact h.own b o (p1.mem_iff.2 (List.mem_append_right _ hm))
  · obtain ⟨o', ho'⟩ := mem_hkeys.1 hb'
    exact h.own b o' (p1.mem_iff.2 (List.mem_append_left _ ho'))

theorem Mem.has_call {w0 w : World} {A L A' L' L2 : List (Option Nat × Obj)} {S : List Nat} {is js : List Nat} (h : Mem w0 A S L w) (hL : tk is L = some (L', L2)) (hA : pk js (A ++ L2) = some A') : Has w A' L' := by
  have hb : Has w A (L' ++ L2) := h.has.perm (tk_perm hL)
  have hmem := pk_mem hA
  have pw2 := List.pairwise_append.1 hb.apart
  refine ⟨fun b o hm => ?_, pw2.1, fun b o hm => hb.lies b o (List.mem_append_left _ hm), fun x hx y hy => ?_⟩
  · rcases List.mem_append.1 (hmem _ hm) with hm | hm
    · exact hb.liesA b o hm
    · exact hb.lies b o (List.mem_append_right _ hm)
  · rcases List.mem_append.1 (hmem _ hx) with hx | hx
    · exact hb.cross x hx y (List.mem_append_left _ hy)
    · exact (pw2.2.2 y hy x hx).symm

theorem Yh {ops : Array Oper} {i : Nat} {rest : List Nat} {o : Oper} {d : Nat} {g : FuncId} {xs : Array Operand} {ts : Array TypeId} {args : List Value} {A' L' L2 : List (Option Nat × Obj)} {R' : Value → List (Option Nat × Obj) → Prop}
    (ho : ops[i]? = some o) (hd : o.dst = some d) (hn : Nat.blt d n = true) (hg : fguard ops env o = some true) (hop : o.op = .call ⟨.value (.func g), xs, ts⟩) (hxs : fevs env xs.toList = some args)
    (hcf : ∀ (az : Array Value) w, (callFunc g az).run c.P w = .ok (.enter g az) w) (hct : Ct c.P g args A' L' R') (is js : List Nat) (hL : tk is L = some (L', L2)) (hA : pk js (c.A ++ L2) = some A')
    (K : ∀ v post, R' v post → G c n ((d, v) :: env) (post ++ L2) (.inRegion ops rest :: k)) : G c n env L (.inRegion ops (i :: rest) :: k) := by
  intro a w hk hm
  refine goes_op ho (Xt hk hg) ?_
  have hx : xs.map a.eval = args.toArray := by
    apply Array.toList_inj.1
    simpa using hk.evals hxs
  have hr : (execOp a.eval o).run c.P w = .ok (.enter g args.toArray) w := by
    unfold execOp
    simp [hop, resolve, Act.eval, Deferred.ofValue, hx, invoke, hcf]
  rw [hr, Oper.upon_enter]
  refine (hct w (hm.has_call hL hA)).mono fun e w' ⟨v, post, he, hR, hp⟩ => ?_
  subst he
  simp only [hd]
  exact K v post hR _ w' (hk.put hn v) (hm.call hL hA hp)

end
end Go.Proofs.Ytjnaeoelnmhjfaa

namespace Go.Proofs.Ytjnaeoelnmhjfaa
open Go Go.RowKit Go.Sort

theorem addr_add (b o j : Nat) : (⟨b, o, none⟩ : Addr).add j = ⟨b, o + j, none⟩ := by
  unfold Addr.add; split <;> simp_all
theorem addr_add0 (b j : Nat) : (⟨b, 0, none⟩ : Addr).add j = ⟨b, j, none⟩ := by
  rw [addr_add, Nat.zero_add]
theorem cell_alloc_new (w : World) (arr : Array Value) (T : TypeId) (fr : Nat × Nat) (j : Nat) : (w.alloc (.cells arr T fr)).cell? ⟨w.heap.size, j, none⟩ = arr[j]? := by
  have h : (w.alloc (.cells arr T fr)).heap[w.heap.size]? = some (.cells arr T fr) := by
    show (w.heap.push _)[w.heap.size]? = _
    simp
  simp only [World.cell?, h]
  rfl
/-- A block of cells, known whole. -/
def Blk (w : World) (b : Nat) (cs : Array Value) (T : TypeId) : Prop := w.heap[b]? = some (.cells cs T (0, 0))
theorem Blk.cell {w : World} {b : Nat} {cs : Array Value} {T : TypeId} (h : Blk w b cs T) (i : Nat) : w.cell? ⟨b, i, none⟩ = cs[i]? := by
  have h : w.heap[b]? = some (.cells cs T (0, 0)) := h
  simp [World.cell?, h]
theorem Blk.free {w : World} {b : Nat} {cs : Array Value} {T : TypeId} (h : Blk w b cs T) (i : Nat) : w.frozen? ⟨b, i, none⟩ = false := by
  have h : w.heap[b]? = some (.cells cs T (0, 0)) := h
  simp [World.frozen?, h]
theorem Blk.lt {w : World} {b : Nat} {cs : Array Value} {T : TypeId} (h : Blk w b cs T) : b < w.heap.size := lt_of_block h
theorem Blk.set {w : World} {b : Nat} {cs : Array Value} {T : TypeId} (h : Blk w b cs T) (i : Nat) (v : Value) : Blk (w.setCell ⟨b, i, none⟩ v) b (cs.setIfInBounds i v) T := by
  have h' : w.heap[b]? = some (.cells cs T (0, 0)) := h
  have hlt := h.lt
  unfold Blk World.setCell
  show (w.heap.modify b _)[b]? = _
  rw [Array.getElem?_modify]
  simp [h']
theorem Blk.other {w : World} {b c : Nat} {cs : Array Value} {T : TypeId} (h : Blk w c cs T) (hne : c ≠ b) (i : Nat) (v : Value) : Blk (w.setCell ⟨b, i, none⟩ v) c cs T := by
  have h' : w.heap[c]? = some (.cells cs T (0, 0)) := h
  unfold Blk
  rw [Below.heap_setCell _ _ _ _ hne]; exact h'
theorem Blk.alloc {w : World} {b : Nat} {cs : Array Value} {T : TypeId} (h : Blk w b cs T) (o : Obj) : Blk (w.alloc o) b cs T := by
  unfold Blk
  rw [Below.heap_alloc _ _ _ h.lt]; exact h
theorem Blk.drew {w : World} {b : Nat} {cs : Array Value} {T : TypeId} (h : Blk w b cs T) : Blk w.drew b cs T := h
theorem Blk.grown {w w' : World} {b : Nat} {cs : Array Value} {T : TypeId} {row : Option Nat} (h : Blk w b cs T) (hg : w.grownBy w' row) (hne : some b ≠ row) : Blk w' b cs T := by
  unfold Blk
  rw [hg.block b h.lt hne]; exact h
/-- The cells of a row of bytes, behind which there may be more. -/
def BytesAt (arr : Array Value) (l : List UInt8) : Prop := ∀ (j : Nat) (v : UInt8), l[j]? = some v → arr[j]? = some (Value.int .u8 (v.toNat : Int))

theorem BytesAt.set {arr : Array Value} {l : List UInt8} (h : BytesAt arr l) (k : Nat) (f : UInt8 → UInt8) (v : UInt8) (hk : l[k]? = some v) (ha : k < arr.size) : BytesAt (arr.setIfInBounds k (.int .u8 ((f v).toNat : Int))) (l.modify k f) := by
  intro j x hj
  rw [List.getElem?_modify] at hj
  rw [Array.getElem?_setIfInBounds]
  by_cases e : k = j
  · subst e
    simp [hk] at hj
    subst hj
    simp [ha]
  · simp only [e, if_false] at hj ⊢
    exact h j x (by simpa using hj)

end Go.Proofs.Ytjnaeoelnmhjfaa

namespace Go.Proofs.Ytjnaeoelnmhjfaa
open Go Go.RowKit

/-- A byte as a value of the model's. -/
def byteV (c : UInt8) : Value := .int .u8 (c.toNat : Int)
/-- A text as a value of the model's. -/
def str (l : List UInt8) : Value := .string ⟨l.toArray⟩
/-- A list of bytes as a text. -/
def bs (l : List UInt8) : ByteArray := ⟨l.toArray⟩
theorem bs_data (l : List UInt8) : (bs l).data.toList = l := rfl
theorem bs_size (l : List UInt8) : (bs l).size = l.length := by unfold bs; simp [ByteArray.size]
theorem bs_eq {s : ByteArray} {l : List UInt8} (h : s.data.toList = l) : s = bs l := by subst h; rfl
theorem ret_str {s : ByteArray} {l : List UInt8} (h : s.data.toList = l) : Ending.returned (.string s) = .returned (str l) := by subst h; rfl
/-- A number that fits 64 bits (behind a name: the walk does not like the great numeral). -/
def U64 (n : Nat) : Prop := n < 18446744073709551616
/-- 'string(b)' of a row that the call owns. -/
theorem own_string {P : Program} {w : World} {base e : Nat} {v : Value} {l : List UInt8} (src dst : TypeId) (hs : P.underlying src = some (.slice e)) (he : P.underlying e = some (.int .u8)) (hd : P.underlying dst = some .string)
    (hown : w.ownsRow base e 1 v l.length (l.map byteV)) : (convert src dst v).run P w = .ok (str l) w := by
  rcases hown with ⟨_, ⟨rfl, h0⟩ | ⟨g, cap, cur, rfl, _, hh, _, _, _, htake⟩⟩
  · have : l = [] := List.length_eq_zero_iff.1 h0
    subst this
    rw [run_convert_bytes_string w src dst e none 0 0 hs he hd]
    simp [Conv.bytesToString, str]
    rfl
  · refine run_convert_bytes_back w src dst e ⟨g, 0, none⟩ cap l hs he hd (fun j hj => ?_)
    have h1 : w.cell? ((⟨g, 0, none⟩ : Addr).add j) = cur[j]? := by
      rw [addr_add0]; simp [World.cell?, hh]
    rw [h1]
    have h2 : (cur.toList.take (l.length * 1))[j]? = (l.map byteV)[j]? := by rw [htake]
    rw [List.getElem?_take_of_lt (by omega)] at h2
    simpa [List.getElem?_eq_getElem hj, byteV] using h2

def chain (v : Nat) : List UInt8 :=
  if _h : v < 128 then [UInt8.ofNat v] else UInt8.ofNat (v % 128 + 128) :: chain (v / 128)
  termination_by v
  decreasing_by omega

theorem chain_small (v : Nat) (h : v < 128) : chain v = [UInt8.ofNat v] := by rw [chain, dif_pos h]
theorem chain_big (v : Nat) (h : 128 ≤ v) : chain v = UInt8.ofNat (v % 128 + 128) :: chain (v / 128) := by rw [chain, dif_neg (by omega)]
theorem chain_pos (v : Nat) : 1 ≤ (chain v).length := by
  rw [chain]; split <;> simp
theorem chain_len (n v : Nat) (h : v < 128 ^ n) (hn : 1 ≤ n) : (chain v).length ≤ n := by
  induction n generalizing v with
  | zero => omega
  | succ n ih =>
    by_cases hv : v < 128
    · rw [chain_small v hv]; simp
    · rw [chain_big v (by omega), List.length_cons]
      have h1 : v / 128 < 128 ^ n := by
        rw [Nat.div_lt_iff_lt_mul (by omega)]; rw [Nat.pow_succ] at h; exact h
      have h2 : 1 ≤ n := by
        by_cases e : n = 0
        · subst e; simp at h; omega
        · omega
      have := ih _ h1 h2
      omega
theorem U64.div {n : Nat} (h : U64 n) (k : Nat) : U64 (n / k) := Nat.lt_of_le_of_lt (Nat.div_le_self _ _) h
theorem U64.wrap {n : Nat} (h : U64 n) : IntKind.u64.wrap (n : Int) = (n : Int) := by
  unfold U64 at h
  rw [IntKind.wrap_u64]; omega
theorem U64.wrap_div {n : Nat} (h : U64 n) (k : Nat) : IntKind.u64.wrap ((n : Int) / (k : Int)) = (n : Int) / (k : Int) := by
  have := (h.div k).wrap
  rw [Int.natCast_ediv] at this
  exact this
theorem chain_len64 (v : Nat) (h : U64 v) : (chain v).length ≤ 10 :=
  chain_len 10 v (by unfold U64 at h; omega) (by omega)

theorem byte_or (u : Nat) : bits BinOp.or IntKind.u8 ((u : Int) % (256 : Int)) (128 : Int) = ((UInt8.ofNat (u % 128 + 128)).toNat : Int) := by
  have h1 : ((u : Int) % (256 : Int)) = ((u % 256 : Nat) : Int) := by omega
  have h2 : ∀ m : Nat, m < 256 → m ||| 128 = m % 128 + 128 := by decide +kernel
  rw [h1]
  refine (u8_or_nat (u % 256) 128 (Nat.mod_lt _ (by omega)) (by omega)).trans ?_
  rw [h2 _ (Nat.mod_lt _ (by omega))]
  rw [UInt8.toNat_ofNat']
  omega
theorem byte_mod (u : Nat) (h : u < 256) : ((UInt8.ofNat u).toNat : Int) = (u : Int) := by
  rw [UInt8.toNat_ofNat']; omega

/-- The number of the chain with which some bytes begin: the number, its bytes, the error's number. -/
def unch : Nat → Nat → List UInt8 → Nat × Nat × Nat
  | i, _, [] => if 10 ≤ i then (0, 0, 3) else (0, 0, 2)
  | i, v, c :: r =>
    if 10 ≤ i then (0, 0, 3)
    else if 128 ≤ c.toNat then unch (i + 1) (v + (c.toNat - 128) * 128 ^ i) r
    else if (0 < i ∧ c.toNat = 0) ∨ (i = 9 ∧ 1 < c.toNat) then (0, 0, 3)
    else (v + c.toNat * 128 ^ i, i + 1, 0)
def unchain (l : List UInt8) : Nat × Nat × Nat := unch 0 0 l

theorem unch_ten (v : Nat) (l : List UInt8) : unch 10 v l = (0, 0, 3) := by
  cases l <;> simp [unch]
theorem unch_more (i v : Nat) (c : UInt8) (r : List UInt8) (hi : i < 10) (hc : 128 ≤ c.toNat) : unch i v (c :: r) = unch (i + 1) (v + (c.toNat - 128) * 128 ^ i) r := by
  rw [unch, if_neg (by omega), if_pos hc]
theorem unch_bad (i v : Nat) (c : UInt8) (r : List UInt8) (hi : i < 10) (hc : c.toNat < 128) (h : (0 < i ∧ c.toNat = 0) ∨ (i = 9 ∧ 1 < c.toNat)) : unch i v (c :: r) = (0, 0, 3) := by
  rw [unch, if_neg (by omega), if_neg (by omega), if_pos h]
theorem unch_last (i v : Nat) (c : UInt8) (r : List UInt8) (hi : i < 10) (hc : c.toNat < 128) (h : ¬ ((0 < i ∧ c.toNat = 0) ∨ (i = 9 ∧ 1 < c.toNat))) : unch i v (c :: r) = (v + c.toNat * 128 ^ i, i + 1, 0) := by
  rw [unch, if_neg (by omega), if_neg (by omega), if_neg h]

theorem or_place (v c k : Nat) (hv : v < 128 ^ k) : v ||| (c * 128 ^ k) = v + c * 128 ^ k := by
  have h : (128 : Nat) ^ k = 2 ^ (7 * k) := by rw [Nat.pow_mul]
  rw [h] at hv ⊢
  rw [Nat.or_comm, Nat.mul_comm, ← Nat.two_pow_add_eq_or_of_lt hv]; omega
theorem and_not_128 (c : UInt8) : bits BinOp.andNot IntKind.u8 (c.toNat : Int) (128 : Int) = ((c.toNat % 128 : Nat) : Int) := by
  have hc := c.toNat_lt
  refine (u8_andNot_nat c.toNat 128 hc (by omega)).trans ?_
  have h2 : ∀ m : Nat, m < 256 → m &&& (255 - 128) = m % 128 := by decide +kernel
  rw [h2 _ hc]
theorem and_128 (c : UInt8) : bits BinOp.and IntKind.u8 (c.toNat : Int) (128 : Int) = ((c.toNat / 128 * 128 : Nat) : Int) := by
  have hc := c.toNat_lt
  refine (u8_and_nat c.toNat 128 hc (by omega)).trans ?_
  have h2 : ∀ m : Nat, m < 256 → m &&& 128 = m / 128 * 128 := by decide +kernel
  rw [h2 _ hc]

/-- What a byte of a chain adds to the number so far. -/
theorem or_link (v : Nat) (c : UInt8) (k : Nat) (hk : k ≤ 9) (hv : v < 128 ^ k) :
    ∃ n : Nat, bits BinOp.or IntKind.u64 (v : Int) (IntKind.u64.wrap (IntKind.u64.wrap (bits BinOp.andNot IntKind.u8 (c.toNat : Int) (128 : Int)) * (2 : Int) ^ (7 * k))) = (n : Int) ∧ U64 n ∧
      (k ≤ 8 ∨ c.toNat % 128 ≤ 1 → n = v + c.toNat % 128 * 128 ^ k) := by
  have hc := c.toNat_lt
  have h : (128 : Nat) ^ k = 2 ^ (7 * k) := by rw [Nat.pow_mul]
  have hp : (128 : Nat) ^ k ≤ 128 ^ 9 := Nat.pow_le_pow_right (by omega) hk
  have hv64 : v < 18446744073709551616 := Nat.lt_of_lt_of_le hv (Nat.le_trans hp (by decide))
  have e1 : IntKind.u64.wrap (IntKind.u64.wrap (bits BinOp.andNot IntKind.u8 (c.toNat : Int) (128 : Int)) * (2 : Int) ^ (7 * k)) = ((c.toNat % 128 * 128 ^ k % 18446744073709551616 : Nat) : Int) := by
    rw [and_not_128, IntKind.wrap_u64, IntKind.wrap_u64, h]
    have : ((c.toNat % 128 : Nat) : Int) % 18446744073709551616 = ((c.toNat % 128 : Nat) : Int) := by omega
    rw [this]
    simp
  rw [e1]
  refine ⟨_, u64_or_nat _ _ hv64 (Nat.mod_lt _ (by omega)), ?_, ?_⟩
  · exact Nat.or_lt_two_pow (n := 64) hv64 (Nat.mod_lt _ (by omega))
  · intro hh
    have : c.toNat % 128 * 128 ^ k < 18446744073709551616 := by
      rcases hh with hh | hh
      · have h1 : (128 : Nat) ^ k ≤ 128 ^ 8 := Nat.pow_le_pow_right (by omega) hh
        have h2 : c.toNat % 128 * 128 ^ k ≤ 127 * 128 ^ 8 := Nat.mul_le_mul (by omega) h1
        exact Nat.lt_of_le_of_lt h2 (by decide)
      · have h2 : c.toNat % 128 * 128 ^ k ≤ 1 * 128 ^ 9 := Nat.mul_le_mul hh hp
        exact Nat.lt_of_le_of_lt h2 (by decide)
    rw [Nat.mod_eq_of_lt this]
    exact or_place v _ k hv

end Go.Proofs.Ytjnaeoelnmhjfaa

set_option linter.unusedSimpArgs false
set_option linter.unusedVariables false
namespace Go.Proofs.Ytjnaeoelnmhjfaa
open Go Go.RowKit

/-- The value at a place of a list. -/
def nth : List Value → Nat → Option Value
  | [], _ => none
  | v :: _, 0 => some v
  | _ :: vs, i + 1 => nth vs i
theorem nth_eq : ∀ (l : List Value) (i : Nat), nth l i = l[i]?
  | [], _ => by simp [nth]
  | v :: _, 0 => by simp [nth]
  | _ :: vs, i + 1 => by simp [nth, nth_eq vs i]
theorem Zr {cs : Array Value} {i : Nat} {v : Value} (h : cs[i]? = some v) : nth cs.toList i = some v := by rw [nth_eq]; simpa using h
theorem at_of {cs : Array Value} {i : Nat} {v : Value} (h : nth cs.toList i = some v) : cs[i]? = some v := by rw [nth_eq] at h; simpa using h
def isAggD : TypeDesc → Bool
  | .struct _ | .array _ _ => true
  | _ => false
section
variable {c : Cx} {n : Nat} {env : List (Nat × Value)} {L : List (Option Nat × Obj)} {k : List Item} {o : Oper}

theorem Zc {x : Operand} {v : Value} (hop : o.op = .move x) (hx : fev env x = some v) : Val c n env L o v := fun a w hk _ => by
  simp [execOp, hop, hk.eval hx]
theorem Zk {x : Operand} {v : Value} (hop : o.op = .assign x) (hx : fev env x = some v) : Val c n env L o v := fun a w hk _ => by
  simp [execOp, hop, hk.eval hx]
theorem Yk {x y z : Operand} {v : Value} (hop : o.op = .pick x y z) (hx : fev env x = some (.bool true)) (hy : fev env y = some v) : Val c n env L o v := fun a w hk _ => by
  simp [execOp, hop, hk.eval hx, hk.eval hy, asBool]
theorem Xu {x y z : Operand} {v : Value} (hop : o.op = .pick x y z) (hx : fev env x = some (.bool false)) (hz : fev env z = some v) : Val c n env L o v := fun a w hk _ => by
  simp [execOp, hop, hk.eval hx, hk.eval hz, asBool]
theorem Xe {x : Operand} {i : Nat} {vs : Array Value} {v : Value} (hop : o.op = .extract x i) (hx : fev env x = some (.tuple vs)) (hv : nth vs.toList i = some v) : Val c n env L o v := fun a w hk _ => by
  have hv := at_of hv
  simp [execOp, hop, hk.eval hx, Instr.extract, hv]
theorem V_func {fn : Fn} {xs ys : Array Operand} {us vs : List Value} (hop : o.op = .makeFunc fn xs ys) (hx : fevs env xs.toList = some us) (hy : fevs env ys.toList = some vs) : Val c n env L o (.func fn us.toArray vs.toArray) := fun a w hk _ => by
  have h1 : xs.map a.eval = us.toArray := by apply Array.toList_inj.1; simpa using hk.evals hx
  have h2 : ys.map a.eval = vs.toArray := by apply Array.toList_inj.1; simpa using hk.evals hy
  simp [execOp, hop, Instr.makeFunc, h1, h2]
theorem Ze {x : Operand} {p : Addr} (hop : o.op = .nilCheck x) (hx : fev env x = some (.pointer (some p))) : Val c n env L o (.pointer (some p)) := fun a w hk _ => by
  simp [execOp, hop, hk.eval hx]
theorem Yt {x : Operand} {f : FuncId} {us vs : Array Value} (hop : o.op = .nilCheck x) (hx : fev env x = some (.func (.func f) us vs)) : Val c n env L o (.func (.func f) us vs) := fun a w hk _ => by
  simp [execOp, hop, hk.eval hx]

-- integers
section
variable {x y : Operand} {t yt : TypeId} {q : IntKind} {p r : Int}
theorem V_eql (hop : o.op = .binOp .eql t x y yt) (hx : fev env x = some (.int q p)) (hy : fev env y = some (.int q r)) : Val c n env L o (.bool (decide (p = r))) := fun a w hk _ => by
  simp only [execOp, hop, hk.eval hx, hk.eval hy]; simp [go_sem]
  rfl
theorem V_neq (hop : o.op = .binOp .neq t x y yt) (hx : fev env x = some (.int q p)) (hy : fev env y = some (.int q r)) : Val c n env L o (.bool (decide (¬ p = r))) := fun a w hk _ => by
  simp only [execOp, hop, hk.eval hx, hk.eval hy]; simp [go_sem, bne]; rfl
theorem Xh (hop : o.op = .binOp .lss t x y yt) (hx : fev env x = some (.int q p)) (hy : fev env y = some (.int q r)) : Val c n env L o (.bool (decide (p < r))) := fun a w hk _ => by
  simp only [execOp, hop, hk.eval hx, hk.eval hy]; simp [go_sem]
theorem V_gtr (hop : o.op = .binOp .gtr t x y yt) (hx : fev env x = some (.int q p)) (hy : fev env y = some (.int q r)) : Val c n env L o (.bool (decide (r < p))) := fun a w hk _ => by
  simp only [execOp, hop, hk.eval hx, hk.eval hy]; simp [go_sem]
theorem Yu (hop : o.op = .binOp .add t x y yt) (hx : fev env x = some (.int q p)) (hy : fev env y = some (.int q r)) : Val c n env L o (.int q (q.wrap (p + r))) := fun a w hk _ => by
  simp only [execOp, hop, hk.eval hx, hk.eval hy]; simp [go_sem]
theorem Zv {e : Int} (h : -9223372036854775808 ≤ e ∧ e ≤ 9223372036854775807) : IntKind.i64.wrap e = e := by
  simp only [IntKind.wrap, IntKind.bits, IntKind.signed]
  simp
  omega
theorem Xs {e : Int} (h : 0 ≤ e ∧ e ≤ 18446744073709551615) : IntKind.u64.wrap e = e := by
  simp only [IntKind.wrap, IntKind.bits, IntKind.signed]
  simp
  omega
theorem Val.int {e e' : Int} (h : Val c n env L o (.int q e)) (he : e = e') : Val c n env L o (.int q e') := he ▸ h
theorem V_conv {d : TypeDesc} {u : TypeId} (hop : o.op = .convert t u x) (hx : fev env x = some (.int q p)) (ht : c.P.underlying t = some d) {q' : IntKind} (hu : c.P.underlying u = some (.int q')) : Val c n env L o (.int q' (q'.wrap p)) := fun a w hk _ => by
  simp [execOp, hop, hk.eval hx, convert, run_underlying ht, run_underlying hu, Conv.intToInt]
end

-- truths
theorem V_not {x : Operand} {t : TypeId} {b : Bool} (hop : o.op = .unOp .not t x) (hx : fev env x = some (.bool b)) : Val c n env L o (.bool (!b)) := fun a w hk _ => by
  simp [execOp, hop, hk.eval hx, Op.unary]
theorem V_notD {x : Operand} {t : TypeId} {p : Prop} {inst : Decidable p} (hop : o.op = .unOp .not t x) (hx : fev env x = some (.bool (decide p))) : Val c n env L o (.bool (decide (¬ p))) := fun a w hk _ => by
  simp [execOp, hop, hk.eval hx, Op.unary]
theorem V_beql {x y : Operand} {t yt : TypeId} {b e : Bool} (hop : o.op = .binOp .eql t x y yt) (ht : c.P.underlying t = some .bool) (hx : fev env x = some (.bool b)) (hy : fev env y = some (.bool e)) : Val c n env L o (.bool (decide (b = e))) := fun a w hk _ => by
  simp only [execOp, hop, hk.eval hx, hk.eval hy, eqGuard_at_bool, pure_bind]
  simp only [Sem.run_bind, run_eql_bool w t b e ht]
  cases b <;> cases e <;> rfl
theorem V_bneq {x y : Operand} {t yt : TypeId} {b e : Bool} (hop : o.op = .binOp .neq t x y yt) (ht : c.P.underlying t = some .bool) (hx : fev env x = some (.bool b)) (hy : fev env y = some (.bool e)) : Val c n env L o (.bool (decide (¬ b = e))) := fun a w hk _ => by
  simp only [execOp, hop, hk.eval hx, hk.eval hy, eqGuard_at_bool, pure_bind]
  simp only [Sem.run_bind, run_neq_bool w t b e ht]
  cases b <;> cases e <;> rfl

-- texts
theorem bs_toList (l : List UInt8) : (bs l).toList = l := by
  rw [ByteArray.toList_eq]; rfl
theorem list_beq (l m : List UInt8) : (l == m) = decide (l = m) := by
  by_cases h : l = m <;> simp [h]
section
variable {x y : Operand} {t yt : TypeId} {l m : List UInt8}
theorem V_seql (hop : o.op = .binOp .eql t x y yt) (hx : fev env x = some (.string (bs l))) (hy : fev env y = some (.string (bs m))) : Val c n env L o (.bool (decide (l = m))) := fun a w hk _ => by
  simp only [execOp, hop, hk.eval hx, hk.eval hy]; simp [go_sem, binOp, Op.stringOp, bs_toList, list_beq]
theorem V_sneq (hop : o.op = .binOp .neq t x y yt) (hx : fev env x = some (.string (bs l))) (hy : fev env y = some (.string (bs m))) : Val c n env L o (.bool (decide (¬ l = m))) := fun a w hk _ => by
  simp only [execOp, hop, hk.eval hx, hk.eval hy]; simp [go_sem, binOp, Op.stringOp, bs_toList, list_beq]
theorem bs_append (l m : List UInt8) : bs l ++ bs m = bs (l ++ m) := bs_eq (by simp [bs])
theorem V_sadd (hop : o.op = .binOp .add t x y yt) (hx : fev env x = some (.string (bs l))) (hy : fev env y = some (.string (bs m))) (h : l.length + m.length ≤ 9223372036854775807) : Val c n env L o (.string (bs (l ++ m))) := fun a w hk _ => by
  have h' : ¬ IntKind.i64.max < (((bs l).size + (bs m).size : Nat) : Int) := by rw [IntKind.max_i64, bs_size, bs_size]; omega
  simp only [execOp, hop, hk.eval hx, hk.eval hy, eqGuard_add, pure_bind, binOp, Op.stringOp]
  rw [if_neg (by simpa using h'), bs_append]
  rfl
theorem V_slen {ts : Array TypeId} {ty : TypeId} {p : String} {e : Array Edge} {gd : Option (Nat × Bool)} {d : Option Tmp} (hop : o = ⟨d, .call ⟨.builtin .len, #[x], ts⟩, ty, p, e, gd⟩) (ht : ts[0]? = some t) (hu : c.P.underlying t = some .string) (hx : fev env x = some (.string (bs l))) : Val c n env L o (.int .i64 (l.length : Int)) := fun a w hk _ => by
  subst hop
  simp [execOp, hk.eval hx, resolve, invoke, builtin, Builtin.len_, ht, run_underlying hu, goInt, bs_size]
theorem bs_extract (l : List UInt8) (i j : Nat) : (bs l).extract i j = bs ((l.take j).drop i) := bs_eq (by simp [bs, List.drop_take])
theorem V_ssliceL {lo : Int} {q : IntKind} {xl : Operand} (hop : o.op = .slice t x (some xl) none none) (hu : c.P.underlying t = some .string) (hx : fev env x = some (.string (bs l))) (hl : fev env xl = some (.int q lo))
    (h0 : 0 ≤ lo) (h1 : lo ≤ l.length) : Val c n env L o (.string (bs (l.drop lo.toNat))) := fun a w hk _ => by
  have e2 : 0 ≤ lo ∧ lo ≤ ((bs l).size : Int) := by rw [bs_size]; omega
  simp only [execOp, hop, hk.eval hx, hk.eval hl, Option.map_some, Option.map_none, Instr.sliceAt, Instr.slice, Instr.sliceBounds, Instr.sliceBound, asIntOf, Sem.run_bind, Sem.run_pure, Result.andThen_ok, run_underlying hu, Option.isSome_none, Bool.false_eq_true, if_false, if_pos e2, bs_extract]
  rw [bs_size, List.take_length]
end

-- slices, pointers
theorem Yf {x : Operand} {t e : TypeId} {ts : Array TypeId} {ty : TypeId} {p : String} {es : Array Edge} {gd : Option (Nat × Bool)} {d : Option Tmp} {b : Option Addr} {i j : Nat} (hop : o = ⟨d, .call ⟨.builtin .len, #[x], ts⟩, ty, p, es, gd⟩) (ht : ts[0]? = some t) (hu : c.P.underlying t = some (.slice e)) (hx : fev env x = some (.slice b i j)) : Val c n env L o (.int .i64 (i : Int)) := fun a w hk _ => by
  subst hop
  simp [execOp, hk.eval hx, resolve, invoke, builtin, Builtin.len_, ht, run_underlying hu, goInt]
theorem V_peqlN {x y : Operand} {t e yt : TypeId} {p : Option Addr} (hop : o.op = .binOp .eql t x y yt) (hu : c.P.underlying t = some (.pointer e)) (hx : fev env x = some (.pointer p)) (hy : fev env y = some (.pointer none)) : Val c n env L o (.bool p.isNone) := fun a w hk _ => by
  have hq : c.P.pointee t = e := by simp [Program.pointee, hu]
  simp only [execOp, hop, hk.eval hx, hk.eval hy, eqGuard_at_pointer, pure_bind]
  simp only [Sem.run_bind, run_eql_pointer_nil w t p (by rw [hq]; exact hu)]
  rfl
theorem V_pneqN {x y : Operand} {t e yt : TypeId} {p : Option Addr} (hop : o.op = .binOp .neq t x y yt) (hu : c.P.underlying t = some (.pointer e)) (hx : fev env x = some (.pointer p)) (hy : fev env y = some (.pointer none)) : Val c n env L o (.bool p.isSome) := fun a w hk _ => by
  have hq : c.P.pointee t = e := by simp [Program.pointee, hu]
  simp only [execOp, hop, hk.eval hx, hk.eval hy, eqGuard_at_pointer, pure_bind]
  simp only [Sem.run_bind, run_neq_pointer_nil w t p (by rw [hq]; exact hu)]
  cases p <;> rfl
theorem Zb {x : Operand} {t : TypeId} {i b off fo : Nat} {fs : Array Field} {f : Field} {ti : TypeInfo} (hop : o.op = .fieldAddr t x i) (hu : c.P.underlying t = some (.struct fs)) (hf : fs[i]? = some f) (hs : c.P.info? f.type = some ti) (hz : Nat.beq ti.size 0 = false) (hx : fev env x = some (.pointer (some ⟨b, off, none⟩))) (hfo : off + f.offset = fo) :
    Val c n env L o (.pointer (some ⟨b, fo, none⟩)) := fun a w hk _ => by
  have hz' : ¬ ti.size = 0 := fun e => by rw [e] at hz; simp at hz
  subst hfo
  simp [execOp, hop, hk.eval hx, Instr.fieldAt, run_underlying hu, hf, Instr.sureAddr, fieldPlace, sizeOf, typeInfo, hs, hz', Addr.add_lit]
theorem V_indexAddr {x y : Operand} {t e : TypeId} {ti : TypeInfo} {q : IntKind} {b off i j s : Nat} {z : Int} (hop : o.op = .indexAddr t x y) (hu : c.P.underlying t = some (.slice e)) (hs : c.P.info? e = some ti) (hz : ti.size = s) (hx : fev env x = some (.slice (some ⟨b, off, none⟩) i j)) (hy : fev env y = some (.int q z)) (h0 : 0 ≤ z) (h1 : z < i) :
    Val c n env L o (.pointer (some ⟨b, off + z.toNat * s, none⟩)) := fun a w hk _ => by
  subst hz
  simp [execOp, hop, hk.eval hx, hk.eval hy, Instr.indexAt, run_underlying hu, asIntOf, h0, h1, sizeOf, typeInfo, hs, Addr.add_lit]

-- structs
theorem Zj {x : Operand} {t T : TypeId} {b off : Nat} {cs : Array Value} {fr : Nat × Nat} {d : TypeDesc} {v : Value} (hop : o.op = .load t x) (hx : fev env x = some (.pointer (some ⟨b, off, none⟩))) (hm : (some b, Obj.cells cs T fr) ∈ c.A ++ L) (hv : nth cs.toList off = some v)
    (hd : c.P.underlying t = some d) (hd1 : isAggD d = false) : Val c n env L o v := fun a w hk hmm => by
  have hv := at_of hv
  have hagg : (isAgg t).run c.P w = .ok false w := by
    unfold isAgg
    rw [Sem.run_bind, run_underlying hd w]
    cases d <;> first | rfl | exact Bool.noConfusion hd1
  have hc : w.cell? ⟨b, off, none⟩ = some v := by rw [cell_of_row w b off cs T fr (hmm.has.both hm)]; exact hv
  simp [execOp, hop, hk.eval hx, Instr.loadAt, Instr.sureAddr, loadVar, hagg, hc]
theorem Xm {x : Operand} {t T : TypeId} {b off : Nat} {cs vs : Array Value} {fr : Nat × Nat} {d : TypeDesc} {ti : TypeInfo} (hop : o.op = .load t x) (hx : fev env x = some (.pointer (some ⟨b, off, none⟩))) (hm : (some b, Obj.cells cs T fr) ∈ c.A ++ L)
    (hd : c.P.underlying t = some d) (hd1 : isAggD d = true) {s : Nat} (hs : c.P.info? t = some ti) (hz : ti.size = s) (hv : cs.extract off (off + s) = vs) (hl : vs.size = s) : Val c n env L o (.agg vs) := fun a w hk hmm => by
  subst hz
  have hagg : (isAgg t).run c.P w = .ok true w := by
    unfold isAgg
    rw [Sem.run_bind, run_underlying hd w]
    cases d <;> first | rfl | exact Bool.noConfusion hd1
  have hw := hmm.has.both hm
  have h1 : (loadCells ⟨b, off, none⟩ vs.toList.length).run c.P w = .ok vs.toList.toArray w :=
    run_loadCells_list (P := c.P) w ⟨b, off, none⟩ vs.toList (fun j v hj => by
      rw [Addr.add_lit, cell_of_row w b (off + j) cs T fr hw]
      have hj' : vs[j]? = some v := by simpa using hj
      rw [← hv, Array.getElem?_extract] at hj'
      split at hj'
      · exact hj'
      · cases hj')
  simp only [Array.length_toList, Array.toArray_toList, hl] at h1
  simp [execOp, hop, hk.eval hx, Instr.loadAt, Instr.sureAddr, loadVar, hagg, sizeOf, typeInfo, hs, h1]
/-- A whole variable. -/
theorem V_loadW {x : Operand} {t T : TypeId} {b : Nat} {cs : Array Value} {fr : Nat × Nat} {d : TypeDesc} {ti : TypeInfo} (hop : o.op = .load t x) (hx : fev env x = some (.pointer (some ⟨b, 0, none⟩))) (hm : (some b, Obj.cells cs T fr) ∈ c.A ++ L)
    (hd : c.P.underlying t = some d) (hd1 : isAggD d = true) {s : Nat} (hs : c.P.info? t = some ti) (hz : ti.size = s) (hl : cs.size = s) : Val c n env L o (.agg cs) :=
  Xm hop hx hm hd hd1 hs hz (by rw [Nat.zero_add, ← hl]; simp) hl
theorem RV_cell {x : Tmp} {t T : TypeId} {b : Nat} {cs : Array Value} {fr : Nat × Nat} {d : TypeDesc} {ti : TypeInfo} (hx : fget env x = some (.pointer (some ⟨b, 0, none⟩))) (hm : (some b, Obj.cells cs T fr) ∈ c.A ++ L)
    (hd : c.P.underlying t = some d) (hd1 : isAggD d = true) {s : Nat} (hs : c.P.info? t = some ti) (hz : ti.size = s) (hl : cs.size = s) : RV c n env L (.cell x t) (.agg cs) := fun a w hk hmm => by
  subst hz
  have hg := hmm.has.both hm
  have h1 := hk.get _ _ hx
  have h2 := run_loadVar_row (P := c.P) w b T t cs fr d hg hd (by cases d <;> first | rfl | exact Bool.noConfusion hd1) (by rw [hs, hl]; rfl)
  show ((do loadVar t (← asAddr (a.tmps.getD x undef))) : Sem Value).run c.P w = _
  rw [h1]
  simp [asAddr, h2]
theorem N_box {x : Operand} {T : TypeId} {v : Value} (hop : o.op = .box T x) (hx : fev env x = some v) : New c n env L o (fun b => .pointer (some ⟨b, 0, none⟩)) (.cells v.cells T) := fun a w hk _ => by
  simp [execOp, hop, hk.eval hx, Instr.box, newVar, newRow]
theorem N_boxA {x : Operand} {T : TypeId} {cs : Array Value} (hop : o.op = .box T x) (hx : fev env x = some (.agg cs)) : New c n env L o (fun b => .pointer (some ⟨b, 0, none⟩)) (.cells cs T (0, 0)) := N_box hop hx
theorem N_alloc {T : TypeId} {ti : TypeInfo} {v : Value} {cs : Array Value} (hop : o.op = .alloc T) (hs : c.P.info? T = some ti) (hz : ti.zero = some v) (hcs : v.cells = cs) : New c n env L o (fun b => .pointer (some ⟨b, 0, none⟩)) (.cells cs T) := fun a w hk _ => by
  subst hcs
  simp [execOp, hop, Instr.alloc, zeroValue, typeInfo, hs, hz, newVar, newRow]
theorem Xb {T : TypeId} {ti : TypeInfo} {cs : Array Value} (hop : o.op = .alloc T) (hs : c.P.info? T = some ti) (hz : ti.zero = some (.agg cs)) : New c n env L o (fun b => .pointer (some ⟨b, 0, none⟩)) (.cells cs T (0, 0)) := N_alloc hop hs hz rfl
theorem N_alloc1 {T : TypeId} {ti : TypeInfo} {v : Value} (hop : o.op = .alloc T) (hs : c.P.info? T = some ti) (hz : ti.zero = some v) (hv : v.cells = #[v]) : New c n env L o (fun b => .pointer (some ⟨b, 0, none⟩)) (.cells #[v] T (0, 0)) := N_alloc hop hs hz hv
theorem Zq {x y : Operand} {t T : TypeId} {b off : Nat} {cs : Array Value} {ti : TypeInfo} {v : Value} (hop : o.op = .store t x y) (hx : fev env x = some (.pointer (some ⟨b, off, none⟩))) (hy : fev env y = some v) (hm : (some b, Obj.cells cs T (0, 0)) ∈ L) (hoff : off < cs.size)
    (hs : c.P.info? t = some ti) (h1 : ti.size = 1) (hv : v.oneCell' = true) : Put c n env L o b (.cells (cs.setIfInBounds off v) T (0, 0)) := fun a w hk hmm => by
  have hw := hmm.lies hm
  have hc : w.cell? ⟨b, off, none⟩ = some cs[off] := by rw [cell_of_row w b off cs T (0, 0) hw]; simp [hoff]
  have hf := frozen_of_row w b off cs T hw
  have hcells : v.cells = #[v] := by cases v <;> first | rfl | simp [Value.oneCell'] at hv
  refine ⟨w.setCell ⟨b, off, none⟩ v, ?_, rfl, rfl, rfl, by simp, heap_setCell_same w b off cs T v hw, fun k hne => heap_setCell_other w _ k v hne⟩
  have hst : (storeVar t ⟨b, off, none⟩ v).run c.P w = .ok () (w.setCell ⟨b, off, none⟩ v) := by
    simp [storeVar, sizeOf, typeInfo, hs, h1, hcells, storeCells, Addr.add_zero', run_store _ _ _ _ _ hv, hc, hf]
  simp [execOp, hop, hk.eval hx, hk.eval hy, Instr.storeAt, Instr.sureAddr, hst]
theorem Xk {x y : Operand} {t T : TypeId} {b : Nat} {cs vs : Array Value} {ti : TypeInfo} (hop : o.op = .store t x y) (hx : fev env x = some (.pointer (some ⟨b, 0, none⟩))) (hy : fev env y = some (.agg vs)) (hm : (some b, Obj.cells cs T (0, 0)) ∈ L) (hsz : cs.size = vs.size)
    {s : Nat} (hs : c.P.info? t = some ti) (hz : ti.size = s) (h1 : vs.size = s) (hv : vs.all (·.oneCell') = true) : Put c n env L o b (.cells vs T (0, 0)) := fun a w hk hmm => by
  subst hz
  have hw := hmm.lies hm
  have hst := run_storeVar_row (P := c.P) w b T t cs vs hw (by rw [hs, h1]; rfl) hsz hv
  refine ⟨w.setRow b vs, ?_, rfl, rfl, rfl, by simp, setRow_heap w b cs vs T _ hw, fun k hne => setRow_other w b k vs hne⟩
  simp [execOp, hop, hk.eval hx, hk.eval hy, Instr.storeAt, Instr.sureAddr, hst]
end
end Go.Proofs.Ytjnaeoelnmhjfaa

set_option linter.unusedSimpArgs false
set_option linter.unusedVariables false
namespace Go.Proofs.Ytjnaeoelnmhjfaa
open Go Go.RowKit

theorem Zf {L : List (Option Nat × Obj)} {x : Option Nat × Obj} (k : Nat) (h : L[k]? = some x) : x ∈ L := List.mem_of_getElem? h
theorem Zm {q : IntKind} {a b : Int} (h : a = b) : some (Value.int q a) = some (Value.int q b) := by rw [h]
theorem bool_eq {a b : Bool} (h : a = b) : Value.bool a = Value.bool b := by rw [h]

section
variable {c : Cx} {n : Nat} {env : List (Nat × Value)} {L : List (Option Nat × Obj)} {k : List Item} {o : Oper}

theorem Yl {x : Operand} {p q : Code} {t : Prop} {inst : Decidable t} (hx : fev env x = some (.bool (decide t))) (hT : t → G c n env L (.code p :: k)) (hF : ¬ t → G c n env L (.code q :: k)) : G c n env L (.code (.cond x p q) :: k) := by
  by_cases h : t
  · exact G_then (by rw [hx]; simp [h]) (hT h)
  · exact G_else (by rw [hx]; simp [h]) (hF h)
theorem Xr {todo : List Item} (d : Nat) {t : Prop} {inst : Decidable t} (hx : fget env d = some (.bool (decide t))) (hT : t → G c n ((d, .bool true) :: env) L todo) (hF : ¬ t → G c n ((d, .bool false) :: env) L todo) : G c n env L todo :=
  G_split d hx (fun h => hT (of_decide_eq_true h)) (fun h => hF (of_decide_eq_false h))

theorem goes_of_wp {code : Code} {a : Act} {w : World} (h : code.wp c.P (fun e a' w' => e = .normal ∧ GoesTo c k a' w') a w) : GoesTo c (.code code :: k) a w := by
  intro b hb hk cs
  obtain ⟨e, a', w', ⟨rfl, hg⟩, harr⟩ := h b k cs
  obtain ⟨v, p, w2, fr, hR, hm, hst, e⟩ := hg b hb hk cs
  exact ⟨v, p, w2, fr, hR, hm, Steps.trans harr hst, e⟩

/-- The rest of a drawn region, in the order of the text, each operation quiet. -/
def GQ (c : Cx) (n : Nat) (ops : Array Oper) (env : List (Nat × Value)) (L : List (Option Nat × Obj)) (i : Nat) (k : List Item) : Prop :=
  ∀ a, Knows c.ds n env a → wpQuiet c.P ops (fun w => Mem c.w0 c.A c.S L w) (fun a' => ∀ w', Mem c.w0 c.A c.S L w' → GoesTo c k a' w') (ops.toList.drop i) a

theorem G_draw {id : Nat} {ops : Array Oper} (hm : c.P.follows .mixedOrders = true) (hB : Region.lexB .any ops = true) (h : GQ c n ops env L 0 k) : G c n env L (.code (.region id ops true) :: k) := by
  intro a w hk hmm
  refine goes_of_wp (wp_region_quiet (C := fun w => Mem c.w0 c.A c.S L w) hm hB (hmm.drew _) ?_)
  have h1 := h a hk
  rw [List.drop_zero] at h1
  have conv : ∀ (l : List Oper) (a : Act), wpQuiet c.P ops (fun w => Mem c.w0 c.A c.S L w) (fun a' => ∀ w', Mem c.w0 c.A c.S L w' → GoesTo c k a' w') l a →
      wpQuiet c.P ops (fun w => Mem c.w0 c.A c.S L w) (fun a' => ∀ w', Mem c.w0 c.A c.S L w' → (Exit.normal = .normal ∧ GoesTo c k a' w')) l a := by
    intro l
    induction l with
    | nil => exact fun a h w' hw => ⟨rfl, h w' hw⟩
    | cons o l ih =>
      intro a h
      unfold wpQuiet at h ⊢
      split
      · rename_i hw
        rw [if_pos hw] at h
        obtain ⟨v, h1, h2⟩ := h
        exact ⟨v, h1, ih _ h2⟩
      · rename_i hw
        rw [if_neg hw] at h
        exact ih _ h
  exact conv _ _ h1

theorem drop_at {ops : Array Oper} {i : Nat} {o : Oper} (ho : ops[i]? = some o) : ops.toList.drop i = o :: ops.toList.drop (i + 1) := by
  have h : i < ops.toList.length := by
    have := (Array.getElem?_eq_some_iff.1 ho).1
    simpa using this
  rw [List.drop_eq_getElem_cons h]
  have := (Array.getElem?_eq_some_iff.1 ho).2
  simp [this]

theorem GQ_done {ops : Array Oper} {i : Nat} (hi : Nat.ble ops.size i = true) (h : G c n env L k) : GQ c n ops env L i k := by
  intro a hk
  have hi : ops.size ≤ i := by simpa using hi
  rw [List.drop_eq_nil_of_le (by simpa using hi)]
  exact fun w' hm => h a w' hk hm
theorem Yo {ops : Array Oper} {i : Nat} {d : Nat} {v : Value} (ho : ops[i]? = some o) (hd : o.dst = some d) (hn : Nat.blt d n = true) (hg : fguard ops env o = some true)
    (hv : Val c n env L o v) (h : GQ c n ops ((d, v) :: env) L (i + 1) k) : GQ c n ops env L i k := by
  intro a hk
  rw [drop_at ho]
  simp only [wpQuiet]
  rw [if_pos (Xt hk hg)]
  refine ⟨v, fun w hm => ?_, ?_⟩
  · unfold Oper.quietAt
    rw [hv a w hk hm]
    exact ⟨rfl, rfl⟩
  · rw [hd]
    exact h _ (hk.put hn v)
section
variable {x y : Operand} {t yt : TypeId} {q : IntKind} {p r : Int}
end

-- texts
theorem V_ssliceLN {x xl : Operand} {t : TypeId} {l : List UInt8} {zl : Int} {lo : Nat} {q : IntKind} (hop : o.op = .slice t x (some xl) none none) (hu : c.P.underlying t = some .string) (hx : fev env x = some (.string (bs l))) (hl : fev env xl = some (.int q zl))
    (el : zl = (lo : Int)) (h1 : lo ≤ l.length) : Val c n env L o (.string (bs (l.drop lo))) := by
  subst el
  have := V_ssliceL (c := c) (n := n) (L := L) hop hu hx hl (by omega) (by omega)
  simpa using this
theorem formed_of {P : Program} {t : TypeId} {d : TypeDesc} {cs : Array Value} (hu : P.underlying t = some d) (hd : isAggD d = true) {s : Nat} (hs : P.cellsOf t = s) (h : cs.size = s) : (Value.agg cs).formed P t = true := by
  subst hs
  unfold Value.formed
  rw [hu]
  cases d <;> first | (simp [h]; done) | exact Bool.noConfusion hd
theorem Zl {x y : Operand} {t e : TypeId} {ti : TypeInfo} {q : IntKind} {b off i j s : Nat} {z : Int} {m : Nat} (hop : o.op = .indexAddr t x y) (hu : c.P.underlying t = some (.slice e)) (hs : c.P.info? e = some ti) (hz : ti.size = s) (hx : fev env x = some (.slice (some ⟨b, off, none⟩) i j)) (hy : fev env y = some (.int q z)) (hm : z = (m : Int)) (h1 : m < i) :
    Val c n env L o (.pointer (some ⟨b, off + m * s, none⟩)) := by
  subst hm
  have := V_indexAddr (c := c) (n := n) (L := L) hop hu hs hz hx hy (by omega) (by omega)
  simpa using this
theorem V_build {t : TypeId} {parts : Array (Nat × Operand)} {vs : List Value} {cs : Array Value} (hop : o.op = .build t parts) (hx : fevs env (parts.toList.map (·.2)) = some vs) (hb : c.P.built t ((parts.toList.map (·.1)).zip vs) = some cs) : Val c n env L o (.agg cs) := fun a w hk _ => by
  have h1 := hk.evals hx
  have h2 : (parts.map fun (i, x) => (i, a.eval x)).toList = (parts.toList.map (·.1)).zip vs := by
    rw [← h1]
    simp only [Array.toList_map, List.map_map]
    generalize parts.toList = ps
    induction ps with
    | nil => rfl
    | cons p ps ih => simp [ih]
  simp only [execOp, hop]
  rw [Sem.run_bind, run_build w t _ cs (by rw [h2]; exact hb)]
  rfl
end
end Go.Proofs.Ytjnaeoelnmhjfaa

set_option linter.unusedSimpArgs false
set_option linter.unusedVariables false
namespace Go.Proofs.Ytjnaeoelnmhjfaa
open Go Go.RowKit

section
variable {c : Cx} {n : Nat} {ops : Array Oper} {Lq : List (Option Nat × Obj)} {fuel : Nat} {listed : Array Bool} {env : List (Nat × Value)} {L : List (Option Nat × Obj)} {k : List Item} {o : Oper}

def HQ (c : Cx) (k : List Item) (e : Exit) (a : Act) (w : World) : Prop := e = .normal ∧ GoesTo c k a w
def HS (c : Cx) (Lq : List (Option Nat × Obj)) (w : World) : Prop := Has w c.A Lq

def GH (c : Cx) (n : Nat) (ops : Array Oper) (Lq : List (Option Nat × Obj)) (fuel : Nat) (listed : Array Bool) (env : List (Nat × Value)) (L : List (Option Nat × Obj)) (k : List Item) : Prop :=
  ∀ a w, Knows c.ds n env a → Mem c.w0 c.A c.S L w → HS c Lq w → wpAnyH c.P .any ops (HQ c k) (HS c Lq) fuel listed a w

def GHop (c : Cx) (n : Nat) (ops : Array Oper) (Lq : List (Option Nat × Obj)) (fuel : Nat) (listed : Array Bool) (env : List (Nat × Value)) (L : List (Option Nat × Obj)) (k : List Item) (i : Nat) : Prop :=
  ∀ a w, Knows c.ds n env a → Mem c.w0 c.A c.S L w → HS c Lq w → wpOp c.P ops (HQ c k) i (fun a' w' => HS c Lq w' ∧ wpAnyH c.P .any ops (HQ c k) (HS c Lq) fuel (listed.setIfInBounds i true) a' w') a w
def GHops (c : Cx) (n : Nat) (ops : Array Oper) (Lq : List (Option Nat × Obj)) (fuel : Nat) (listed : Array Bool) (env : List (Nat × Value)) (L : List (Option Nat × Obj)) (k : List Item) : List Nat → Prop
  | [] => True
  | i :: is => GHop c n ops Lq fuel listed env L k i ∧ GHops c n ops Lq fuel listed env L k is
theorem GHops.mem {is : List Nat} (h : GHops c n ops Lq fuel listed env L k is) : ∀ i ∈ is, GHop c n ops Lq fuel listed env L k i := by
  induction is with
  | nil => exact fun i hi => by cases hi
  | cons j is ih =>
    intro i hi
    rcases List.mem_cons.1 hi with e | hi
    · subst e; exact h.1
    · exact ih h.2 i hi

theorem hs_of {w : World} {isq : List Nat} {M : List (Option Nat × Obj)} (hm : Mem c.w0 c.A c.S L w) (hq : tk isq L = some (Lq, M)) : HS c Lq w := (hm.sub (tk_perm hq)).has

theorem Ya {id : Nat} {isq : List Nat} {M : List (Option Nat × Obj)} {m : Nat} (hm : c.P.follows .mixedOrders = true) (hq : tk isq L = some (Lq, M)) (hz : ops.size = m) (h : GH c n ops Lq m (Array.replicate m false) env L k) : G c n env L (.code (.region id ops true) :: k) := by
  intro a w hk hmm
  subst hz
  exact goes_of_wp (wp_region_held (S := HS c Lq) hm (h a _ hk (hmm.drew _) (hs_of (hmm.drew _) hq)))

theorem Zw (hr : Region.ready .any ops listed = []) (h : G c n env L k) : GH c n ops Lq fuel listed env L k :=
  fun a w hk hm _ => wpAnyH_done hr ⟨rfl, h a w hk hm⟩ fuel

/-- What is done behind the region, once, for all orders. -/
theorem GH_join {X : Type} (E : X → List (Nat × Value)) (H : X → List (Option Nat × Obj)) (rest : ∀ x, G c n (E x) (H x) k) (h : (∀ x, G c n (E x) (H x) k) → GH c n ops Lq fuel listed env L k) : GH c n ops Lq fuel listed env L k := h rest
theorem Val.held {v : Value} (hv : ∀ w0 S, Val ⟨c.P, c.f, w0, c.A, S, c.R, c.ds⟩ n env Lq o v) {a : Act} (hk : Knows c.ds n env a) (w : World) (hw : HS c Lq w) : (execOp a.eval o).run c.P w = .ok (.value v) w :=
  hv w (hkeys Lq) a w hk ⟨hw, fun b o hm => .inl (mem_hkeys.2 ⟨o, hm⟩), Chg.refl _ _⟩

theorem GH_take (i : Nat) {d : Nat} {v : Value} (ho : ops[i]? = some o) (hd : o.dst = some d) (hn : Nat.blt d n = true) (hg : fguard ops env o = some true)
    (hs : Region.noSelect ops = true) (hf : Region.free .any ops listed i = true) (hr : (Region.ready .any ops listed).contains i = true)
    (hv : ∀ w0 S, Val ⟨c.P, c.f, w0, c.A, S, c.R, c.ds⟩ n env Lq o v) (h : GH c n ops Lq fuel (listed.setIfInBounds i true) ((d, v) :: env) L k) : GH c n ops Lq (fuel + 1) listed env L k := by
  intro a w hk hm hw
  refine wpAnyH_take ho hs hf hr (fun _ _ _ h => absurd h.1 (by simp)) (.inl ⟨Xt hk hg, fun w' hw' => Val.held hv hk w' hw'⟩) hw ?_
  rw [hd]
  exact h _ w (hk.put hn v) hm hw
theorem Zh (i : Nat) {d : Nat} {v : Value} (ho : ops[i]? = some o) (hd : o.dst = some d) (hn : Nat.blt d n = true) (hg : fguard ops env o = some true)
    (h3 : (Region.noSelect ops && Region.free .any ops listed i && (Region.ready .any ops listed).contains i) = true)
    (hv : ∀ w0 S, Val ⟨c.P, c.f, w0, c.A, S, c.R, c.ds⟩ n env Lq o v) (h : GH c n ops Lq fuel (listed.setIfInBounds i true) ((d, v) :: env) L k) : GH c n ops Lq (fuel + 1) listed env L k := by
  simp only [Bool.and_eq_true] at h3
  exact GH_take i ho hd hn hg h3.1.1 h3.1.2 h3.2 hv h
theorem GH_takeOff (i : Nat) {d : Nat} (ho : ops[i]? = some o) (hd : o.dst = some d) (hn : Nat.blt d n = true) (hg : fguard ops env o = some false)
    (hs : Region.noSelect ops = true) (hf : Region.free .any ops listed i = true) (hr : (Region.ready .any ops listed).contains i = true)
    (h : GH c n ops Lq fuel (listed.setIfInBounds i true) ((d, undef) :: env) L k) : GH c n ops Lq (fuel + 1) listed env L k := by
  intro a w hk hm hw
  refine wpAnyH_take ho hs hf hr (fun _ _ _ h => absurd h.1 (by simp)) (.inr ⟨Xt hk hg, rfl⟩) hw ?_
  rw [hd]
  exact h _ w (hk.put hn undef) hm hw
theorem GH_all (rs : List Nat) (hr : Region.ready .any ops listed = rs) (hne : rs ≠ []) (h : GHops c n ops Lq fuel listed env L k rs) : GH c n ops Lq (fuel + 1) listed env L k :=
  fun a w hk hm hw => wpAnyH_all hr hne fun i hi => h.mem i hi a w hk hm hw
theorem GH_split (d : Nat) {t : Bool} (hx : fget env d = some (.bool t)) (hT : t = true → GH c n ops Lq fuel listed ((d, .bool true) :: env) L k) (hF : t = false → GH c n ops Lq fuel listed ((d, .bool false) :: env) L k) : GH c n ops Lq fuel listed env L k := by
  have key : GH c n ops Lq fuel listed ((d, .bool t) :: env) L k := by
    cases t
    · exact hF rfl
    · exact hT rfl
  refine fun a w hk hm => key a w ⟨hk.size, hk.defers, fun u v hu => hk.get u v ?_⟩ hm
  rw [fget_cons] at hu
  by_cases e : d = u
  · rw [if_pos e] at hu
    subst e
    rw [hx, hu]
  · rwa [if_neg e] at hu
theorem GH_splitD (d : Nat) {t : Prop} {inst : Decidable t} (hx : fget env d = some (.bool (decide t))) (hT : t → GH c n ops Lq fuel listed ((d, .bool true) :: env) L k) (hF : ¬ t → GH c n ops Lq fuel listed ((d, .bool false) :: env) L k) : GH c n ops Lq fuel listed env L k :=
  GH_split d hx (fun h => hT (of_decide_eq_true h)) (fun h => hF (of_decide_eq_false h))

theorem ghop_of {i : Nat} {a : Act} {w : World} {K : Act → World → Prop} (ho : ops[i]? = some o) (hw : Region.wanted o (yielded ops a.tmps) = true) (h : o.upon c.P a K (HQ c k) ((execOp a.eval o).run c.P w)) : wpOp c.P ops (HQ c k) i K a w := by
  unfold wpOp
  rw [ho]
  simp only
  rw [if_pos hw]
  exact .inl h

theorem Xn {i d : Nat} {v : Value} (ho : ops[i]? = some o) (hd : o.dst = some d) (hn : Nat.blt d n = true) (hg : fguard ops env o = some true)
    (hv : Val c n env L o v) (h : GH c n ops Lq fuel (listed.setIfInBounds i true) ((d, v) :: env) L k) : GHop c n ops Lq fuel listed env L k i := by
  intro a w hk hm hw
  refine ghop_of ho (Xt hk hg) ?_
  rw [hv a w hk hm, Oper.upon_value, hd]
  exact ⟨hw, h _ w (hk.put hn v) hm hw⟩
theorem Yz {i d : Nat} {mk : Nat → Value} {ob : Obj} (ho : ops[i]? = some o) (hd : o.dst = some d) (hn : Nat.blt d n = true) (hg : fguard ops env o = some true)
    (hv : New c n env L o mk ob) (isq : List Nat) (hq : ∀ b, ∃ M, tk isq ((some b, ob) :: L) = some (Lq, M)) (h : ∀ b, GH c n ops Lq fuel (listed.setIfInBounds i true) ((d, mk b) :: env) ((some b, ob) :: L) k) : GHop c n ops Lq fuel listed env L k i := by
  intro a w hk hm hw
  refine ghop_of ho (Xt hk hg) ?_
  rw [hv a w hk hm, Oper.upon_value, hd]
  obtain ⟨M, hM⟩ := hq w.heap.size
  have hs := hs_of (hm.alloc ob) hM
  exact ⟨hs, h w.heap.size _ _ (hk.put hn _) (hm.alloc ob) hs⟩
theorem Xi {i b : Nat} {old ob : Obj} {l1 l2 L' M : List (Option Nat × Obj)} (ho : ops[i]? = some o) (hd : o.dst = none) (hg : fguard ops env o = some true)
    (hL : L = l1 ++ (some b, old) :: l2) (hv : Put c n env L o b ob) (hL' : l1 ++ (some b, ob) :: l2 = L') (isq : List Nat) (hq : tk isq L' = some (Lq, M)) (h : GH c n ops Lq fuel (listed.setIfInBounds i true) env L' k) : GHop c n ops Lq fuel listed env L k i := by
  intro a w hk hm hw
  obtain ⟨w', hr, h1, h2, h3, h4, h5, h6⟩ := hv a w hk hm
  refine ghop_of ho (Xt hk hg) ?_
  rw [hr, Oper.upon_skip, hd]
  subst hL'
  have hm' := hm.put hL h1 h2 h3 h4 h5 h6
  exact ⟨hs_of hm' hq, h _ w' (hk.putNone undef) hm' (hs_of hm' hq)⟩
theorem Zz {i d : Nat} {g : FuncId} {xs : Array Operand} {ts : Array TypeId} {args : List Value} {A' L' L2 : List (Option Nat × Obj)} {R' : Value → List (Option Nat × Obj) → Prop}
    (ho : ops[i]? = some o) (hd : o.dst = some d) (hn : Nat.blt d n = true) (hg : fguard ops env o = some true) (hop : o.op = .call ⟨.value (.func g), xs, ts⟩) (hxs : fevs env xs.toList = some args)
    (hcf : ∀ (az : Array Value) w, (callFunc g az).run c.P w = .ok (.enter g az) w) (hct : Ct c.P g args A' L' R') (is js : List Nat) (hL : tk is L = some (L', L2)) (hA : pk js (c.A ++ L2) = some A')
    (isq : List Nat) (hq : ∀ v post, R' v post → ∃ M, tk isq (post ++ L2) = some (Lq, M)) (K : ∀ v post, R' v post → GH c n ops Lq fuel (listed.setIfInBounds i true) ((d, v) :: env) (post ++ L2) k) : GHop c n ops Lq fuel listed env L k i := by
  intro a w hk hm hw
  refine ghop_of ho (Xt hk hg) ?_
  have hx : xs.map a.eval = args.toArray := by
    apply Array.toList_inj.1
    simpa using hk.evals hxs
  have hr : (execOp a.eval o).run c.P w = .ok (.enter g args.toArray) w := by
    unfold execOp
    simp [hop, resolve, Act.eval, Deferred.ofValue, hx, invoke, hcf]
  rw [hr, Oper.upon_enter]
  refine (hct w (hm.has_call hL hA)).mono fun e w' ⟨v, post, he, hR, hp⟩ => ?_
  subst he
  simp only [hd]
  have hm' := hm.call hL hA hp
  obtain ⟨M', hM⟩ := hq v post hR
  exact ⟨hs_of hm' hM, K v post hR _ w' (hk.put hn v) hm' (hs_of hm' hM)⟩
end

-- contracts of the elder kind
theorem ct_same {P : Program} {f : FuncId} {args : List Value} {v : Value} (h : ∀ w, Calls P f args.toArray w fun e w' => e = .returned v ∧ w = w') : Ct P f args [] [] (fun v' post => v' = v ∧ post = []) :=
  fun w0 _ => (h w0).mono fun _ _ ⟨he, hw⟩ => ⟨v, [], he, ⟨rfl, rfl⟩, by subst hw; exact ⟨has_nil _, fun _ _ h => (by cases h), Chg.refl _ _⟩⟩
theorem ct_below {P : Program} {f : FuncId} {args : List Value} {v : Value} (h : ∀ w, Calls P f args.toArray w fun e w' => e = .returned v ∧ Below w.heap.size w w') : Ct P f args [] [] (fun v' post => v' = v ∧ post = []) :=
  fun w0 _ => (h w0).mono fun _ _ ⟨he, hb⟩ => ⟨v, [], he, ⟨rfl, rfl⟩, ⟨has_nil _, fun _ _ h => (by cases h), ⟨hb.os, hb.tape, hb.output, hb.size, fun i hi _ => hb.block i hi⟩⟩⟩
/-- A contract without blocks says what a law's walk wants. -/
theorem below_of_ct {P : Program} {f : FuncId} {args : List Value} {A : List (Option Nat × Obj)} {v : Value} (h : Ct P f args A [] (fun v' post => v' = v ∧ post = [])) (w : World) (hA : Has w A []) : Calls P f args.toArray w fun e w' => e = .returned v ∧ Below w.heap.size w w' :=
  (h w hA).mono fun _ _ ⟨_, _, he, ⟨hv, _⟩, hm⟩ => ⟨by rw [he, hv], ⟨hm.chg.os, hm.chg.tape, hm.chg.output, hm.chg.size, fun k hk => hm.chg.block k hk (by simp [hkeys])⟩⟩
theorem Ct.weaken {P : Program} {f : FuncId} {args : List Value} {A L : List (Option Nat × Obj)} {R R' : Value → List (Option Nat × Obj) → Prop} (h : Ct P f args A L R) (hr : ∀ v post, R v post → R' v post) : Ct P f args A L R' :=
  fun w0 hw => (h w0 hw).mono fun _ _ ⟨v, post, he, hR, hm⟩ => ⟨v, post, he, hr v post hR, hm⟩
end Go.Proofs.Ytjnaeoelnmhjfaa

set_option linter.unusedSimpArgs false
set_option linter.unusedVariables false
namespace Go.Proofs.Ytjnaeoelnmhjfaa
theorem Ym : Try.prog.follows .mixedOrders = true := by kernel_rfl
end Go.Proofs.Ytjnaeoelnmhjfaa

set_option linter.unusedSimpArgs false
set_option linter.unusedVariables false
namespace Go.Proofs.Ytjnaeoelnmhjfaa
open Go Go.RowKit

/-- Bytes as cells. -/
def bcells (l : List UInt8) : List Value := l.map fun c => .int .u8 (c.toNat : Int)
theorem bcells_length (l : List UInt8) : (bcells l).length = l.length := by simp [bcells]
theorem bcells_one (l : List UInt8) : ∀ v ∈ bcells l, v.oneCell' = true := by
  intro v hv
  simp only [bcells, List.mem_map] at hv
  obtain ⟨c, _, rfl⟩ := hv
  rfl
theorem bcells_append (l m : List UInt8) : bcells (l ++ m) = bcells l ++ bcells m := by simp [bcells]
section
variable {c : Cx} {n : Nat} {env : List (Nat × Value)} {L : List (Option Nat × Obj)} {k : List Item} {o : Oper}

/-- An operation that writes a block and tells a value. -/
def PutV (c : Cx) (n : Nat) (env : List (Nat × Value)) (L : List (Option Nat × Obj)) (o : Oper) (b : Nat) (ob : Obj) (v : Value) : Prop :=
  ∀ a w, Knows c.ds n env a → Mem c.w0 c.A c.S L w → ∃ w', (execOp a.eval o).run c.P w = .ok (.value v) w' ∧ w'.os = w.os ∧ w'.tape = w.tape ∧ w'.output = w.output ∧ w'.heap.size = w.heap.size ∧ w'.heap[b]? = some ob ∧ ∀ k, k ≠ b → w'.heap[k]? = w.heap[k]?
/-- Cells with others laid over them. -/
def laid (cs : Array Value) (off : Nat) (vs : List Value) : Array Value := (cs.toList.take off ++ vs ++ cs.toList.drop (off + vs.length)).toArray

/-- Bytes as a text. -/
theorem V_bytesS {x : Operand} {t u e T b off len cap : Nat} {fr : Nat × Nat} {cs : Array Value} {l : List UInt8} (hop : o.op = .convert t u x) (hx : fev env x = some (.slice (some ⟨b, off, none⟩) len cap)) (ht : c.P.underlying t = some (.slice e)) (he : c.P.underlying e = some (.int .u8)) (hu : c.P.underlying u = some .string)
    (hm : (some b, Obj.cells cs T fr) ∈ c.A ++ L) (hl : l.length = len) (hc : (cs.toList.drop off).take len = bcells l) : Val c n env L o (.string (bs l)) := fun a w hk hmm => by
  subst hl
  have hw := hmm.has.both hm
  have h1 := run_convert_bytes_back (P := c.P) w t u e ⟨b, off, none⟩ cap l ht he hu (fun j hj => by
    rw [Addr.add_lit, cell_of_row w b (off + j) cs T fr hw]
    have h2 : ((cs.toList.drop off).take l.length)[j]? = (bcells l)[j]? := by rw [hc]
    rw [List.getElem?_take, if_pos hj, List.getElem?_drop] at h2
    rw [← Array.getElem?_toList, h2]
    simp [bcells, hj])
  simp only [execOp, hop, hk.eval hx]
  rw [Sem.run_bind, h1]
  rfl
theorem madeCells_one (z : Value) (m : Nat) : madeCells #[z] m = (List.replicate m z).toArray := by
  apply Array.ext
  · simp [size_madeCells]
  · intro i h1 h2
    simp [madeCells, Nat.mod_one]
/-- 'make' of cells of one. -/
theorem N_make {xl xc : Operand} {t e l m : Nat} {kl kc : IntKind} {zl zc : Int} {ti : TypeInfo} {z v : Value} (hop : o.op = .makeSlice t xl xc) (hu : c.P.underlying t = some (.slice e)) (hs : c.P.info? e = some ti) (hz : ti.zero = some v) (hv : v.cells = #[z]) (hsz : ti.size = 1)
    (hxl : fev env xl = some (.int kl zl)) (hxc : fev env xc = some (.int kc zc)) (hl : zl = (l : Int)) (hc : zc = (m : Int)) (hlc : l ≤ m) (hb : ti.bytes * m ≤ 281474976710656) (h63 : m ≤ 9223372036854775807) :
    New c n env L o (fun b => .slice (some ⟨b, 0, none⟩) l m) (.cells (List.replicate m z).toArray e (0, 0)) := fun a w hk _ => by
  subst hl hc
  have h1 := run_make (P := c.P) w t e ti v hu hs hz kl kc (l : Int) (m : Int) (by omega) (by omega) (by
    have : ((ti.bytes * m : Nat) : Int) ≤ 281474976710656 := by omega
    rwa [Int.natCast_mul] at this) (by omega)
  simp only [execOp, hop, hk.eval hxl, hk.eval hxc]
  rw [Sem.run_bind, h1, hv, madeCells_one, hsz]
  simp

theorem V_aggneq {x y : Operand} {t yt : TypeId} {m D D' : Nat} {xs ys : Array Value} {lx ly : List Lit} (hop : o.op = .binOp .neq t x y yt) (hgt : c.P.eqGuardType c.P.depth t = false) (hkt : c.P.keyTypeAt m t = true) (hm : m ≤ 10000) (hfx : (Value.agg xs).formed c.P t = true) (hfy : (Value.agg ys).formed c.P t = true)
    (hx : fev env x = some (.agg xs)) (hy : fev env y = some (.agg ys)) (hlx : c.P.keyLits D t xs.toList = some lx) (hly : c.P.keyLits D' t ys.toList = some ly) : Val c n env L o (.bool (@decide (¬ lx = ly) (Classical.propDecidable _))) := fun a w hk _ => by
  obtain ⟨r, hr, hi⟩ := run_equalIn_deep (P := c.P) (10000 - m) m t hkt w D D' (.agg xs) (.agg ys) lx ly hfx hfy (by simpa [Value.cells] using hlx) (by simpa [Value.cells] using hly)
  rw [show 10000 - m + m = 10000 by omega] at hr
  have hrd : (!r) = @decide (¬ lx = ly) (Classical.propDecidable _) := by
    by_cases h : lx = ly
    · rw [hi.2 h]; simp [h]
    · have : r = false := by rw [← Bool.not_eq_true]; exact fun e => h (hi.1 e)
      rw [this]; simp [h]
  simp only [execOp, hop, hk.eval hx, hk.eval hy]
  rw [Sem.run_bind, Sem.run_bind, run_eqGuard_agg w .neq t x y xs ys hgt]
  simp only [Result.andThen_ok, run_neq_struct, hr, hrd]
  rfl
end

end Go.Proofs.Ytjnaeoelnmhjfaa

set_option linter.unusedSimpArgs false
set_option linter.unusedVariables false
namespace Go.Proofs.Ytjnaeoelnmhjfaa
open Go Go.RowKit

/-- Cells with others laid over them, from a place on. -/
def ovl : List Value → Nat → List Value → List Value
  | zs, _, [] => zs
  | zs, off, v :: vs => ovl (zs.set off v) (off + 1) vs
def ovls : List Value → List (Nat × List Value) → List Value
  | zs, [] => zs
  | zs, (off, vs) :: r => ovls (ovl zs off vs) r
theorem ovl_length : ∀ (vs zs : List Value) (off : Nat), (ovl zs off vs).length = zs.length
  | [], _, _ => rfl
  | v :: vs, zs, off => by simp [ovl, ovl_length vs]
theorem fold_ovl (off : Nat) : ∀ (vs : List Value) (j : Nat) (zs : Array Value), (vs.zipIdx j).foldl (fun a (p : Value × Nat) => a.setIfInBounds (off + p.2) p.1) zs = (ovl zs.toList (off + j) vs).toArray
  | [], _, zs => by simp [ovl]
  | v :: vs, j, zs => by
    simp only [List.zipIdx_cons, List.foldl_cons]
    rw [fold_ovl off vs (j + 1)]
    simp [ovl, Nat.add_assoc]
/-- What a build lays where. -/
def fillOf (pl : List (Nat × Nat)) (n : Nat) : List (Nat × Value) → Option (List (Nat × List Value))
  | [] => some []
  | (i, v) :: r => match pl[i]? with
    | none => none
    | some (off, size) => match Nat.beq v.cells.size size && Nat.ble (off + v.cells.size) n with
      | false => none
      | true => match fillOf pl n r with
        | none => none
        | some l => some ((off, v.cells.toList) :: l)
theorem fill_of (pl : List (Nat × Nat)) (n : Nat) : ∀ (parts : List (Nat × Value)) (zs : Array Value) (ol : List (Nat × List Value)), zs.size = n → fillOf pl n parts = some ol →
    Instr.fill (fun i => pl.toArray[i]?) zs parts = some (ovls zs.toList ol).toArray
  | [], zs, ol, _, h => by
    simp only [fillOf, Option.some.injEq] at h
    subst h
    simp [Instr.fill, ovls]
  | (i, v) :: r, zs, ol, hn, h => by
    simp only [fillOf] at h
    split at h
    · cases h
    · rename_i off size hp
      split at h
      · cases h
      · rename_i hb
        split at h
        · cases h
        · rename_i l hl
          simp only [Option.some.injEq] at h
          subst h
          rw [Bool.and_eq_true] at hb
          have h1 := Nat.eq_of_beq_eq_true hb.1
          have h2 := Nat.le_of_ble_eq_true hb.2
          have hp' : pl.toArray[i]? = some (off, size) := by simpa using hp
          simp only [Instr.fill, hp']
          rw [if_neg (by simp [h1, hn]; omega)]
          have e : v.cells.zipIdx.foldl (fun cs (x : Value × Nat) => cs.setIfInBounds (off + x.2) x.1) zs = (ovl zs.toList off v.cells.toList).toArray := by
            rw [← Array.foldl_toList, Array.toList_zipIdx]
            exact fold_ovl off v.cells.toList 0 zs
          have ih := fill_of pl n r (ovl zs.toList off v.cells.toList).toArray l (by simp [ovl_length]; simpa using hn) hl
          simp only [ovls]
          rw [← ih]
          exact congrArg (fun z => Instr.fill (fun i => pl.toArray[i]?) z r) e

def placesOf (P : Program) (fs : Array Field) : Option (List (Nat × Nat)) := fs.toList.mapM (fun f => (P.info? f.type).map fun i => (f.offset, i.size))

section
variable {c : Cx} {n : Nat} {env : List (Nat × Value)} {L : List (Option Nat × Obj)} {k : List Item} {o : Oper}
theorem V_buildS {t : TypeId} {parts : Array (Nat × Operand)} {vs cs : List Value} {fs : Array Field} {ti : TypeInfo} {zs : List Value} {pl : List (Nat × Nat)} {ol : List (Nat × List Value)} (hop : o.op = .build t parts) (hu : c.P.underlying t = some (.struct fs)) (hi : c.P.info? t = some ti) (hz : ti.zero = some (.agg zs.toArray)) (hpl : placesOf c.P fs = some pl)
    (hx : fevs env (parts.toList.map (·.2)) = some vs) (hol : fillOf pl zs.length ((parts.toList.map (·.1)).zip vs) = some ol) (hcs : ovls zs ol = cs) : Val c n env L o (.agg cs.toArray) := by
  subst hcs
  refine V_build hop hx ?_
  unfold Program.built
  simp only [hi, hu, hz]
  unfold placesOf at hpl
  simp only [hpl, Value.cells]
  have := fill_of pl zs.length ((parts.toList.map (·.1)).zip vs) zs.toArray ol (by simp) hol
  simpa using this
/-- A slice built out of parts. -/
theorem N_buildSlice {t e len s : Nat} {parts : Array (Nat × Operand)} {vs cs : List Value} {ti : TypeInfo} {zs : List Value} {z : Value} {ol : List (Nat × List Value)} (hop : o.op = .buildSlice t len parts) (hu : c.P.underlying t = some (.slice e)) (hi : c.P.info? e = some ti) (hsz : ti.size = s) (hz : ti.zero = some z) (hzs : ((Array.range (len * s)).map (z.cells[· % z.cells.size]!)).toList = zs) (hl : Nat.ble (len * s) 16777216 = true) (hpos : Nat.beq (len * s) 0 = false)
    (hx : fevs env (parts.toList.map (·.2)) = some vs) (hol : fillOf ((List.range len).map fun i => (i * s, s)) zs.length ((parts.toList.map (·.1)).zip vs) = some ol) (hcs : ovls zs ol = cs) :
    New c n env L o (fun b => .slice (some ⟨b, 0, none⟩) len len) (.cells cs.toArray e (0, 0)) := fun a w hk _ => by
  subst hcs hsz
  have hl' : ¬ 16777216 < len * ti.size := by simpa using hl
  have hp' : ¬ len * ti.size = 0 := fun e => by rw [e] at hpos; simp at hpos
  have h1 := hk.evals hx
  have h2 : (parts.map fun (i, x) => (i, a.eval x)).toList = (parts.toList.map (·.1)).zip vs := by
    rw [← h1]
    simp only [Array.toList_map, List.map_map]
    generalize parts.toList = ps
    induction ps with
    | nil => rfl
    | cons p ps ih => simp [ih]
  have h3 := fill_of ((List.range len).map fun i => (i * ti.size, ti.size)) zs.length ((parts.toList.map (·.1)).zip vs) zs.toArray ol (by simp) hol
  have hplace : ∀ i, i < len → ((List.range len).map fun i => (i * ti.size, ti.size)).toArray[i]? = some (i * ti.size, ti.size) := fun i hi => by simp [hi]
  have fillEq : ∀ (ps : List (Nat × Value)) (zz : Array Value) r, Instr.fill (fun i => ((List.range len).map fun i => (i * ti.size, ti.size)).toArray[i]?) zz ps = some r → Instr.fill (fun i => some (i * ti.size, ti.size)) zz ps = some r := by
    intro ps
    induction ps with
    | nil => exact fun zz r h => h
    | cons p ps ih =>
      obtain ⟨i, v⟩ := p
      intro zz r h
      simp only [Instr.fill] at h ⊢
      by_cases hi : i < len
      · rw [hplace i hi] at h
        simp only at h
        split at h
        · cases h
        · rename_i hc
          rw [if_neg hc]
          exact ih _ _ h
      · have : ((List.range len).map fun i => (i * ti.size, ti.size)).toArray[i]? = none := by simp; omega
        rw [this] at h
        cases h
  have h4 := fillEq _ _ _ h3
  have hzs' : (Array.range (len * ti.size)).map (fun x => z.cells[x % z.cells.size]!) = zs.toArray := by
    apply Array.toList_inj.1
    simpa using hzs
  simp only [execOp, hop]
  simp [Instr.buildSlice, run_underlying hu, sizeOf, typeInfo, hi, hl', hp', zeroValue, hz, hzs']
  rw [Array.toList_map] at h2
  rw [h2]
  simp [h4, newRow]
/-- The cells of values, one behind the other. -/
def flat : List Value → List Value
  | [] => []
  | v :: vs => v.cells.toList ++ flat vs
def sized (s : Nat) : List Value → Bool
  | [] => true
  | v :: vs => Nat.beq v.cells.size s && sized s vs
theorem ovl_mid : ∀ (vs pre zs : List Value), vs.length ≤ zs.length → ovl (pre ++ zs) pre.length vs = pre ++ vs ++ zs.drop vs.length
  | [], pre, zs, _ => by simp [ovl]
  | v :: vs, pre, [], h => by simp at h
  | v :: vs, pre, z :: zs, h => by
    have ih := ovl_mid vs (pre ++ [v]) zs (by simpa using h)
    simp only [ovl]
    rw [List.set_append_right _ _ (Nat.le_refl _), Nat.sub_self, List.set_cons_zero]
    simp only [List.length_append, List.length_cons, List.length_nil, Nat.zero_add, List.append_assoc, List.singleton_append] at ih
    rw [ih]
    simp
theorem zip_range_succ (i : Nat) (v : Value) (vs : List Value) (m : Nat) : (List.range' i (m + 1)).zip (v :: vs) = (i, v) :: (List.range' (i + 1) m).zip vs := by
  simp [List.range'_succ]
theorem fill_all (len s : Nat) : ∀ (vs pre zs : List Value) (i : Nat), sized s vs = true → i + vs.length = len → pre.length = i * s → zs.length = vs.length * s → ∃ ol, fillOf ((List.range len).map fun i => (i * s, s)) (len * s) ((List.range' i vs.length).zip vs) = some ol ∧ ovls (pre ++ zs) ol = pre ++ flat vs
  | [], pre, zs, i, _, _, _, hz => by
    have : zs = [] := List.length_eq_zero_iff.1 (by simpa using hz)
    subst this
    exact ⟨[], rfl, by simp [ovls, flat]⟩
  | v :: vs, pre, zs, i, hs, hl, hp, hz => by
    simp only [sized, Bool.and_eq_true] at hs
    have h1 := Nat.eq_of_beq_eq_true hs.1
    have hlen : v.cells.toList.length = s := by simpa using h1
    have hl' : i + 1 + vs.length = len := by simp only [List.length_cons] at hl; omega
    have hz' : zs.length = s + vs.length * s := by rw [hz, List.length_cons, Nat.succ_mul]; omega
    obtain ⟨ol, ho, hov⟩ := fill_all len s vs (pre ++ v.cells.toList) (zs.drop s) (i + 1) hs.2 hl' (by rw [List.length_append, hlen, hp, Nat.succ_mul]) (by rw [List.length_drop, hz']; omega)
    refine ⟨(i * s, v.cells.toList) :: ol, ?_, ?_⟩
    · rw [List.length_cons, zip_range_succ]
      unfold fillOf
      have hi : ((List.range len).map fun i => (i * s, s))[i]? = some (i * s, s) := by
        rw [List.getElem?_map, List.getElem?_range (by omega)]; rfl
      simp only [hi]
      have hb : (Nat.beq v.cells.size s && Nat.ble (i * s + v.cells.size) (len * s)) = true := by
        rw [Bool.and_eq_true]
        refine ⟨by rw [h1]; exact Nat.beq_refl s, Nat.ble_eq_true_of_le ?_⟩
        rw [h1, ← hl', Nat.add_mul, Nat.add_mul]
        omega
      rw [hb]
      simp only [ho]
    · simp only [ovls]
      rw [← hp, ovl_mid v.cells.toList pre zs (by rw [hlen, hz']; omega), hlen, hov]
      simp [flat]
theorem Zn {t e len s : Nat} {parts : Array (Nat × Operand)} {vs cs : List Value} {ti : TypeInfo} {z : Value} (hop : o.op = .buildSlice t len parts) (hu : c.P.underlying t = some (.slice e)) (hi : c.P.info? e = some ti) (hsz : ti.size = s) (hz : ti.zero = some z) (hl : Nat.ble (len * s) 16777216 = true) (hpos : Nat.beq (len * s) 0 = false)
    (hidx : parts.toList.map (·.1) = List.range' 0 len) (hx : fevs env (parts.toList.map (·.2)) = some vs) (hlen : vs.length = len) (hok : sized s vs = true) (hcs : flat vs = cs) :
    New c n env L o (fun b => .slice (some ⟨b, 0, none⟩) len len) (.cells cs.toArray e (0, 0)) := by
  subst hcs
  have hzl : ((Array.range (len * s)).map (z.cells[· % z.cells.size]!)).toList.length = vs.length * s := by simp [hlen]
  obtain ⟨ol, ho, hov⟩ := fill_all len s vs [] ((Array.range (len * s)).map (z.cells[· % z.cells.size]!)).toList 0 hok (by omega) (by simp) hzl
  refine N_buildSlice (zs := ((Array.range (len * s)).map (z.cells[· % z.cells.size]!)).toList) (ol := ol) hop hu hi hsz hz rfl hl hpos hx ?_ (by simpa using hov)
  rw [hzl, hidx, hlen]
  rw [hlen] at ho
  exact ho
end
end Go.Proofs.Ytjnaeoelnmhjfaa

set_option linter.unusedSimpArgs false
set_option linter.unusedVariables false
namespace Go.Proofs.Ytjnaeoelnmhjfaa
open Go Go.RowKit

section
variable {c : Cx} {n : Nat} {env : List (Nat × Value)} {L : List (Option Nat × Obj)} {k : List Item} {o : Oper}
end
end Go.Proofs.Ytjnaeoelnmhjfaa

set_option linter.unusedSimpArgs false
set_option linter.unusedVariables false
namespace Go.Proofs.Ytjnaeoelnmhjfaa
open Go Go.RowKit

/-- A slice's block (none: it is nil), its cells, what is frozen, its capacity. -/
structure Sl where
  ob : Option Nat
  cs : Array Value
  fz : Nat × Nat
  cap : Nat
def Sl.v (u : Sl) (n : Nat) : Value := .slice (u.ob.map fun b => ⟨b, 0, none⟩) n u.cap
def Sl.e (u : Sl) (T : TypeId) : Option Nat × Obj := (u.ob, .cells u.cs T u.fz)
def slNil : Sl := ⟨none, #[], (0, 0), 0⟩
structure Own (sz : Nat) (u : Sl) (xs : List Value) (n : Nat) : Prop where
  len : xs.length = n * sz
  le : n ≤ u.cap
  max : u.cap ≤ 9223372036854775807
  size : u.cs.size = u.cap * sz
  pre : u.cs.toList.take (n * sz) = xs
  fz : u.fz.2 ≤ n * sz
  isNil : u.ob = none → u.cap = 0
theorem own_nil (sz : Nat) : Own sz slNil [] 0 := ⟨by simp, Nat.le_refl _, by simp [slNil], by simp [slNil], by simp [slNil], by simp [slNil], fun _ => rfl⟩
theorem Own.isSome {sz : Nat} {u : Sl} {xs : List Value} {n : Nat} (h : Own sz u xs n) (hn : 0 < n) : ∃ b, u.ob = some b := by
  cases hu : u.ob with
  | some b => exact ⟨b, rfl⟩
  | none => have := h.isNil hu; have := h.le; omega
theorem Own.nth {sz : Nat} {u : Sl} {xs : List Value} {n : Nat} (h : Own sz u xs n) {i : Nat} {v : Value} (hv : xs[i]? = some v) : u.cs[i]? = some v := by
  have h1 : i < n * sz := by
    rw [← h.len]
    exact (List.getElem?_eq_some_iff.1 hv).1
  rw [← h.pre, List.getElem?_take, if_pos h1] at hv
  simpa using hv

/-- What is kept when a slice grows. -/
structure More (s s' : Sl) : Prop where
  pos : (s.ob ≠ none → 0 < s.cap) → s'.ob ≠ none → 0 < s'.cap
  fz : s.fz = (0, 0) → s'.fz = (0, 0)

section
variable {P : Program}
theorem zeroCells_size {z : Array Value} {n : Nat} : (Builtin.zeroCells z n).size = n * z.size := by simp [Builtin.zeroCells]

/-- What is appended: its length, and its cells in any world with this heap. -/
structure Src (P : Program) (w : World) (sz : Nat) (xv : Value) (m : Nat) (news : List Value) : Prop where
  len : ∀ w1 : World, (Builtin.lenOf xv).run P w1 = .ok m w1
  cells : ∀ w1 : World, w1.heap = w.heap → (Builtin.firstCells sz m xv).run P w1 = .ok news.toArray w1
  nlen : news.length = m * sz
  one : ∀ u ∈ news, u.oneCell' = true

theorem src_slice {w : World} {sz : Nat} {a : Addr} {m c : Nat} {news : List Value} (hl : news.length = m * sz) (hn : ∀ j u, news[j]? = some u → w.cell? (a.add j) = some u) (h1 : ∀ u ∈ news, u.oneCell' = true) : Src P w sz (.slice (some a) m c) m news :=
  ⟨fun _ => rfl, fun w1 hw => run_firstCells_some (P := P) w1 sz m a m c news hl (fun j u hu => by have := hn j u hu; simp only [World.cell?, hw] at this ⊢; exact this), hl, h1⟩
theorem src_string {w : World} (l : List UInt8) : Src P w 1 (.string (bs l)) l.length (bcells l) := by
  refine ⟨fun w1 => by simp [Builtin.lenOf, bs_size], fun w1 _ => ?_, by simp [bcells_length], bcells_one l⟩
  have := Lib.run_firstCells_string (P := P) w1 1 (bs l)
  rw [bs_size] at this
  rw [this]
  rfl

theorem Sl.room {w : World} {sz : Nat} {u : Sl} {xs : List Value} {n m : Nat} {T : TypeId} {news : List Value} {b : Nat} (h : Own sz u xs n) (hb : u.ob = some b) (hl : news.length = m * sz) (hroom : n + m ≤ u.cap) :
    Own sz ⟨u.ob, (u.cs.toList.take (n * sz) ++ news ++ u.cs.toList.drop (n * sz + news.length)).toArray, u.fz, u.cap⟩ (xs ++ news) (n + m) := by
  have h2 := h.size
  have hlt : n * sz + m * sz ≤ u.cap * sz := by rw [← Nat.add_mul]; exact Nat.mul_le_mul_right _ hroom
  refine ⟨by rw [List.length_append, h.len, hl, Nat.add_mul], hroom, h.max, ?_, ?_, by have := h.fz; rw [Nat.add_mul]; simp only; omega, h.isNil⟩
  · simp only [List.size_toArray, List.length_append, List.length_take, List.length_drop, Array.length_toList]
    rw [hl]
    omega
  · simp only
    rw [h.pre]
    have : (xs ++ news).length = (n + m) * sz := by rw [List.length_append, h.len, hl, Nat.add_mul]
    rw [← this]
    exact List.take_left
theorem Own.grown {sz old : Nat} {xs news : List Value} {n m : Nat} {z : Value} {b : Nat} {w : World} {e : TypeId} (hx : xs.length = n * sz) (hl : news.length = m * sz) (hz : z.cells.size = sz) (h63 : n + m ≤ 9223372036854775807) :
    Own sz ⟨some b, (xs.toArray ++ news.toArray ++ Builtin.zeroCells z.cells (grownCap w (n + m) old e - (n + m))), (0, 0), grownCap w (n + m) old e⟩ (xs ++ news) (n + m) := by
  have hge := grownCap_ge w (n + m) old e
  have hcm : grownCap w (n + m) old e ≤ maxLen := grownCap_le_maxLen w (n + m) old e (by unfold maxLen; omega)
  unfold maxLen at hcm
  have hlen : (xs ++ news).length = (n + m) * sz := by rw [List.length_append, hx, hl, Nat.add_mul]
  refine ⟨hlen, hge, by simpa using hcm, ?_, ?_, by simp, fun h => by cases h⟩
  · simp only [Array.size_append, List.size_toArray, zeroCells_size, hz, hx, hl, ← Nat.add_mul]
    congr 1
    omega
  · simp only [Array.toList_append, List.append_assoc]
    rw [← List.append_assoc, ← hlen]
    exact List.take_left

set_option maxHeartbeats 2000000 in
/-- append: onto whatever the call has. -/
theorem run_append_any (w : World) (t u ty e : TypeId) (d : TypeDesc) (i : TypeInfo) (z : Value) (sz : Nat) (ht : P.underlying t = some (.slice e)) (hu : P.underlying u = some d) (hd : d = .string ∨ ∃ e', d = .slice e') (hi : P.info? e = some i) (hz : i.zero = some z)
    (hsz : i.size = sz) (hzs : z.cells.size = sz) (s : Sl) (xs : List Value) (n : Nat) (hown : Own sz s xs n) (hb : ∀ b, s.ob = some b → w.heap[b]? = some (.cells s.cs e s.fz))
    (xv : Value) (m : Nat) (news : List Value) (hS : Src P w sz xv m news) (h63 : n + m ≤ 9223372036854775807) (hbytes : (n + m) * i.bytes ≤ 140737488355328) :
    ∃ s' w', (Builtin.append_ #[t, u] ty #[s.v n, xv]).run P w = .ok (s'.v (n + m)) w' ∧ Own sz s' (xs ++ news) (n + m) ∧ (s'.ob = s.ob ∨ s'.ob = some w.heap.size) ∧ (∀ b, s'.ob = some b → w'.heap[b]? = some (.cells s'.cs e s'.fz)) ∧ w.grownBy w' s.ob ∧ More s s' := by
  subst hsz
  have hlen := hS.len w
  have hcells := hS.cells w rfl
  have hcellsD := hS.cells w.drew rfl
  have hnl := hS.nlen
  obtain ⟨ob, cs, fz, cap⟩ := s
  simp only at hb
  by_cases hroom : n + m ≤ cap
  · cases ob with
    | none =>
      have hc := hown.isNil rfl
      simp only at hc
      subst hc
      obtain ⟨rfl, rfl⟩ : n = 0 ∧ m = 0 := by omega
      have hn0 : news = [] := List.eq_nil_of_length_eq_zero (by simpa using hnl)
      subst hn0
      refine ⟨⟨none, cs, fz, 0⟩, w, ?_, by simpa using hown, .inl rfl, fun b hb => (by cases hb), ⟨rfl, rfl, rfl, Nat.le_refl _, fun _ _ _ => rfl⟩, ⟨fun h => h, fun h => h⟩⟩
      rcases hd with rfl | ⟨e', rfl⟩ <;> simp [Builtin.append_, run_underlying ht, run_underlying hu, sizeOf, typeInfo, hi, hlen, hcells, Sl.v]
    | some g =>
      have hg := hb g rfl
      have hle : n * i.size + news.length ≤ cs.size := by have := hown.size; simp only at this; rw [this, hnl, ← Nat.add_mul]; exact Nat.mul_le_mul_right _ hroom
      have hfz := hown.fz
      simp only at hfz
      have hst := run_storeCells_atF P g (n * i.size) e fz news 0 cs w hg (by simpa using hfz) (by simpa using hle) hS.one
      simp only [Nat.add_zero] at hst
      have ho := Sl.room (w := w) (T := e) hown rfl hnl hroom
      refine ⟨_, w.setRow g (cs.toList.take (n * i.size) ++ news ++ cs.toList.drop (n * i.size + news.length)).toArray, ?_, ho, .inl rfl, fun b hb' => ?_, ⟨rfl, rfl, rfl, by simp, fun k _ hk => setRow_other w g k _ (fun e => hk (by simp [e]))⟩, ⟨fun h => h, fun h => h⟩⟩
      rotate_left
      · cases hb'; exact setRow_heap w g cs _ e _ hg
      · rcases hd with rfl | ⟨e', rfl⟩ <;> simp [Builtin.append_, run_underlying ht, run_underlying hu, sizeOf, typeInfo, hi, hlen, hcells, Sl.v, hroom, Addr.add_lit, hst]
  · have h63' : ¬ (9223372036854775807 < ((n : Int) + (m : Int))) := by omega
    have hfit := growslice_fits (need := n + m) (old := cap) (bytes := i.bytes) (by omega) hbytes
    have h48' : ¬ (281474976710656 < Builtin.nextslicecap (n + m) cap * i.bytes) := by omega
    have hx := hown.len
    have ho := Own.grown (b := w.heap.size) (old := cap) (w := w) (e := e) hx hnl hzs h63
    refine ⟨_, w.drew.alloc (.cells (xs.toArray ++ news.toArray ++ Builtin.zeroCells z.cells (grownCap w (n + m) cap e - (n + m))) e), ?_, ho, .inr rfl, fun b hb' => ?_, ⟨rfl, rfl, rfl, by simp, fun k hk _ => Below.heap_alloc w.drew _ k hk⟩, ⟨fun _ _ => ?_, fun _ => rfl⟩⟩
    rotate_left
    · cases hb'; exact heap_alloc_new w.drew _
    · have := grownCap_ge w (n + m) cap e; simp only; omega
    · cases ob with
      | none =>
        have hc := hown.isNil rfl
        simp only at hc
        subst hc
        have hle := hown.le
        simp only at hle
        obtain rfl : n = 0 := by omega
        have hx0 : xs = [] := List.eq_nil_of_length_eq_zero (by simpa using hx)
        subst hx0
        simp only [Nat.zero_add] at *
        have hroom' : ¬ m = 0 := by omega
        have h63'' : ¬ (9223372036854775807 < (m : Int)) := by omega
        have hfo := run_firstCells_none (P := P) w.drew i.size 0 0 0
        rcases hd with rfl | ⟨e', rfl⟩ <;> simp [Builtin.append_, run_underlying ht, run_underlying hu, sizeOf, typeInfo, zeroValue, hi, hz, hlen, hroom', h63'', h48', Question.forced, hcellsD, hfo, newRow, grownCap, Sl.v]
      | some g =>
        have hg := hb g rfl
        have hfo := run_firstCells_some (P := P) w.drew i.size n ⟨g, 0, none⟩ n cap xs hx (fun j v hv => by
          have h1 := hown.nth hv
          show w.cell? _ = _
          rw [addr_add, cell_of_row w g (0 + j) cs e fz hg]
          simpa using h1)
        rcases hd with rfl | ⟨e', rfl⟩ <;> (simp [Builtin.append_, run_underlying ht, run_underlying hu, sizeOf, typeInfo, zeroValue, hi, hz, hlen, hroom, h63', h48', Question.forced, hcellsD, hfo, newRow, grownCap, Sl.v] <;> (congr 2; apply Array.ext'; simp [List.append_assoc]))
end

section
variable {c : Cx} {n : Nat} {env : List (Nat × Value)} {L : List (Option Nat × Obj)} {k : List Item} {o : Oper}

/-- An entry of no block says nothing. -/
theorem G_addNone {todo : List Item} (ob : Obj) (h : G c n env ((none, ob) :: L) todo) : G c n env L todo := fun a w hk hm =>
  h a w hk ⟨⟨hm.has.liesA, List.pairwise_cons.2 ⟨fun x _ b hb _ => (by cases hb), hm.has.apart⟩, fun b o' hb => by
      rcases List.mem_cons.1 hb with e | hb
      · cases e
      · exact hm.has.lies b o' hb, fun x hx y hy => by
      rcases List.mem_cons.1 hy with e | hy
      · subst e; exact fun b _ h2 => by cases h2
      · exact hm.has.cross x hx y hy⟩, fun b o' hb => by
      rcases List.mem_cons.1 hb with e | hb
      · cases e
      · exact hm.own b o' hb, hm.chg⟩

theorem Mem.grown {w0 w w' : World} {A l1 l2 : List (Option Nat × Obj)} {S : List Nat} {ob ob' : Option Nat} {o1 o2 : Obj} (h : Mem w0 A S (l1 ++ (ob, o1) :: l2) w) (hw : ob' = ob ∨ ob' = some w.heap.size) (hb : ∀ b, ob' = some b → w'.heap[b]? = some o2) (hg : w.grownBy w' ob) :
    Mem w0 A S (l1 ++ (ob', o2) :: l2) w' := by
  have hp : ∀ x : Option Nat × Obj, (l1 ++ x :: l2).Perm (x :: (l1 ++ l2)) := fun x => List.perm_middle
  have hh := h.has.perm (hp _)
  obtain ⟨ha, hr⟩ := List.pairwise_cons.1 hh.apart
  have hlt : ∀ b o, (some b, o) ∈ A ++ (l1 ++ l2) → b < w.heap.size := fun b o hm => by
    rcases List.mem_append.1 hm with hm | hm
    · exact lt_of_lies (hh.liesA b o hm)
    · exact lt_of_lies (hh.lies b o (List.mem_cons_of_mem _ hm))
  have hne : ∀ b o, (some b, o) ∈ A ++ (l1 ++ l2) → some b ≠ ob := fun b o hm e => by
    rcases List.mem_append.1 hm with hm | hm
    · exact hh.cross _ hm (ob, o1) (by simp) b rfl e.symm
    · exact ha _ hm b e.symm rfl
  have hne' : ∀ b o, (some b, o) ∈ A ++ (l1 ++ l2) → ob' ≠ some b := fun b o hm e => by
    rcases hw with h1 | h1
    · exact hne b o hm (by rw [← h1, e])
    · have := hlt b o hm
      rw [h1] at e
      injection e with e
      omega
  have hkeep : ∀ b o, (some b, o) ∈ A ++ (l1 ++ l2) → w'.heap[b]? = w.heap[b]? := fun b o hm => hg.block b (hlt b o hm) (hne b o hm)
  have hbase : Has w' A ((ob', o2) :: (l1 ++ l2)) := by
    refine ⟨fun b o hm => ?_, List.pairwise_cons.2 ⟨fun x hx b1 hb1 hx1 => ?_, hr⟩, fun b o hm => ?_, fun x hx y hy => ?_⟩
    · rw [hkeep b o (List.mem_append_left _ hm)]
      exact hh.liesA b o hm
    · obtain ⟨xb, xo⟩ := x
      simp only at hb1 hx1
      subst hx1
      exact hne' b1 xo (List.mem_append_right _ hx) hb1
    · rcases List.mem_cons.1 hm with e | hm
      · injection e with e1 e2
        subst e2
        exact hb b e1.symm
      · rw [hkeep b o (List.mem_append_right _ hm)]
        exact hh.lies b o (List.mem_cons_of_mem _ hm)
    · rcases List.mem_cons.1 hy with e | hy
      · subst e
        intro b1 hx1 hy1
        obtain ⟨xb, xo⟩ := x
        simp only at hx1 hy1
        subst hx1
        exact hne' b1 xo (List.mem_append_left _ hx) hy1
      · exact hh.cross x hx y (List.mem_cons_of_mem _ hy)
  refine ⟨hbase.perm (hp _).symm, fun b o hm => ?_, ⟨hg.os.trans h.chg.os, hg.tape.trans h.chg.tape, hg.output.trans h.chg.output, Nat.le_trans h.chg.size hg.size, fun i hi hS => ?_⟩⟩
  · rcases List.mem_cons.1 ((hp _).mem_iff.1 hm) with e | hm
    · injection e with e1 e2
      rcases hw with h1 | h1
      · exact h.own b o1 (by rw [e1, h1]; simp)
      · have hsz := h.chg.size
        rw [h1] at e1
        injection e1 with e1
        right; omega
    · rcases List.mem_append.1 hm with hm | hm
      · exact h.own b o (List.mem_append_left _ hm)
      · exact h.own b o (List.mem_append_right _ (List.mem_cons_of_mem _ hm))
  · rw [hg.block i (Nat.lt_of_lt_of_le hi h.chg.size) (fun e => ?_)]
    · exact h.chg.block i hi hS
    · rcases h.own i o1 (by rw [e]; simp) with h' | h'
      · exact hS h'
      · omega

theorem G_append {ops : Array Oper} {i : Nat} {rest : List Nat} {d m nn sz bt : Nat} {x y : Operand} {t u e ty : TypeId} {ds : TypeDesc} {ps : String} {es : Array Edge} {gd : Option (Nat × Bool)} {ti : TypeInfo} {z xv : Value} {s : Sl} {xs news : List Value} {l1 l2 : List (Option Nat × Obj)}
    (ho : ops[i]? = some o) (hop : o = ⟨some d, .call ⟨.builtin .append, #[x, y], #[t, u]⟩, ty, ps, es, gd⟩) (hn : Nat.blt d n = true) (hg : fguard ops env o = some true)
    (ht : c.P.underlying t = some (.slice e)) (hu : c.P.underlying u = some ds) (hds : ds = .string ∨ ∃ e', ds = .slice e') (hi : c.P.info? e = some ti) (hz : ti.zero = some z) (hsz : ti.size = sz) (hzs : z.cells.size = sz) (hbt : ti.bytes = bt)
    (hx : fev env x = some (s.v nn)) (hy : fev env y = some xv) (hown : Own sz s xs nn) (hL : L = l1 ++ (s.ob, .cells s.cs e s.fz) :: l2) (hS : ∀ w, Has w c.A L → Src c.P w sz xv m news)
    (h63 : nn + m ≤ 9223372036854775807) (hbytes : (nn + m) * bt ≤ 140737488355328)
    (h : ∀ s' : Sl, Own sz s' (xs ++ news) (nn + m) → More s s' → G c n ((d, s'.v (nn + m)) :: env) (l1 ++ (s'.ob, .cells s'.cs e s'.fz) :: l2) (.inRegion ops rest :: k)) : G c n env L (.inRegion ops (i :: rest) :: k) := by
  intro a w hk hm
  subst hop
  refine goes_op ho (Xt hk hg) ?_
  obtain ⟨s', w', hr, h1, h2, h3, h4, h5⟩ := run_append_any (P := c.P) w t u ty e ds ti z sz ht hu hds hi hz hsz hzs s xs nn hown (fun b hb => hm.lies (by rw [hL, ← hb]; simp)) xv m news (hS w hm.has) h63 (by rw [hbt]; exact hbytes)
  have hrun : (execOp a.eval ⟨some d, .call ⟨.builtin .append, #[x, y], #[t, u]⟩, ty, ps, es, gd⟩).run c.P w = .ok (.value (s'.v (nn + m))) w' := by
    unfold execOp
    simp only [resolve, invoke, builtin, Sem.run_bind, Sem.run_pure, Result.andThen_ok, List.map_toArray, List.map_cons, List.map_nil, hk.eval hx, hk.eval hy, hr]
  rw [hrun, Oper.upon_value]
  subst hL
  exact h s' h1 h5 _ w' (hk.put hn _) (hm.grown h2 h3 h4)

/-- The slice that is appended lies in a block that is known. -/
theorem Yp {sz b off m cap : Nat} {cs : Array Value} {T : TypeId} {fr : Nat × Nat} {news : List Value} (hm : (some b, Obj.cells cs T fr) ∈ c.A ++ L) (hl : news.length = m * sz) (hc : (cs.toList.drop off).take news.length = news) (h1 : ∀ u ∈ news, u.oneCell' = true) (w : World) (hw : Has w c.A L) :
    Src c.P w sz (.slice (some ⟨b, off, none⟩) m cap) m news :=
  src_slice hl (fun j u hu => by
    rw [addr_add, cell_of_row w b (off + j) cs T fr (hw.both hm)]
    have hj : j < news.length := (List.getElem?_eq_some_iff.1 hu).1
    rw [← hc, List.getElem?_take, if_pos hj, List.getElem?_drop] at hu
    simpa using hu) h1
end
end Go.Proofs.Ytjnaeoelnmhjfaa

set_option linter.unusedSimpArgs false
set_option linter.unusedVariables false
namespace Go.Proofs.Ytjnaeoelnmhjfaa
open Go Go.RowKit

section
variable {c : Cx} {n : Nat} {env : List (Nat × Value)} {L : List (Option Nat × Obj)} {k : List Item} {o : Oper}

theorem V_sliceDataN {x : Operand} {d : Option Tmp} {ts : Array TypeId} {ty : TypeId} {ps : String} {es : Array Edge} {gd : Option (Nat × Bool)} {i j : Nat} (hop : o = ⟨d, .call ⟨.builtin .unsafeSliceData, #[x], ts⟩, ty, ps, es, gd⟩) (hx : fev env x = some (.slice none i j)) :
    Val c n env L o (.pointer none) := fun a w hk _ => by
  subst hop
  unfold execOp
  simp only [resolve, invoke, builtin, Sem.run_bind, Sem.run_pure, Result.andThen_ok, List.map_toArray, List.map_cons, List.map_nil, hk.eval hx, Lib.run_unsafeSliceData_nil]
theorem V_sliceDataS {x : Operand} {d : Option Tmp} {ts : Array TypeId} {ty : TypeId} {ps : String} {es : Array Edge} {gd : Option (Nat × Bool)} {b : Addr} {i j : Nat} (hop : o = ⟨d, .call ⟨.builtin .unsafeSliceData, #[x], ts⟩, ty, ps, es, gd⟩) (hx : fev env x = some (.slice (some b) i j)) (hj : 0 < j) :
    Val c n env L o (.pointer (some b)) := fun a w hk _ => by
  subst hop
  unfold execOp
  simp only [resolve, invoke, builtin, Sem.run_bind, Sem.run_pure, Result.andThen_ok, List.map_toArray, List.map_cons, List.map_nil, hk.eval hx, Lib.run_unsafeSliceData_row _ _ _ b i j (by omega)]
theorem V_unsafeString0 {x y : Operand} {d : Option Tmp} {t u : TypeId} {ty : TypeId} {ps : String} {es : Array Edge} {gd : Option (Nat × Bool)} {b : Option Addr} {z : Int} (hop : o = ⟨d, .call ⟨.builtin .unsafeString, #[x, y], #[t, u]⟩, ty, ps, es, gd⟩) (hx : fev env x = some (.pointer b)) (hy : fev env y = some (.int .i64 z)) (hz : z = 0) :
    Val c n env L o (.string (bs [])) := fun a w hk _ => by
  subst hop hz
  unfold execOp
  simp only [resolve, invoke, builtin, Sem.run_bind, Sem.run_pure, Result.andThen_ok, List.map_toArray, List.map_cons, List.map_nil, hk.eval hx, hk.eval hy, Lib.run_unsafeString_none]
  rfl

/-- What is frozen behind a text was told. -/
def frz (fz : Nat × Nat) (k : Nat) : Nat × Nat := if fz.1 == fz.2 then (0, 0 + k) else (min fz.1 0, max fz.2 (0 + k))
def Sl.froze (u : Sl) (k : Nat) : Sl := ⟨u.ob, u.cs, frz u.fz k, u.cap⟩
theorem Own.froze {sz : Nat} {u : Sl} {xs : List Value} {k : Nat} (h : Own sz u xs k) (hs : 0 < sz) : Own sz (u.froze k) xs k := by
  refine ⟨h.len, h.le, h.max, h.size, h.pre, ?_, h.isNil⟩
  have h1 := h.fz
  have : k ≤ k * sz := Nat.le_mul_of_pos_right _ hs
  unfold Sl.froze frz
  simp only
  split <;> simp <;> omega

theorem P_unsafeString {x y : Operand} {d : Option Tmp} {t u e : TypeId} {ty : TypeId} {ps : String} {es : Array Edge} {gd : Option (Nat × Bool)} {g : Nat} {z : Int} {l : List UInt8} {cs : Array Value} {fz : Nat × Nat} (hop : o = ⟨d, .call ⟨.builtin .unsafeString, #[x, y], #[t, u]⟩, ty, ps, es, gd⟩)
    (hp : c.P.underlying t = some (.pointer e)) (hc : c.P.cellsOf e = 1) (hx : fev env x = some (.pointer (some ⟨g, 0, none⟩))) (hy : fev env y = some (.int .i64 z)) (hz : z = (l.length : Int)) (hm : (some g, Obj.cells cs e fz) ∈ L) (hl : l ≠ []) (hn : l.length ≤ cs.size) (h63 : l.length ≤ 9223372036854775807)
    (hcs : cs.toList.take l.length = bcells l) :
    PutV c n env L o g (.cells cs e (frz fz l.length)) (.string (bs l)) := fun a w hk hmm => by
  subst hop hz
  have hw := hmm.lies hm
  have hr := Lib.run_unsafeString_row (P := c.P) w t u ty e hp hc g cs.size (by simp [World.shape?, hw]) l hl hn h63 (fun j x hj => by
    rw [addr_add, cell_of_row w g (0 + j) cs e fz hw]
    have hjl : j < l.length := (List.getElem?_eq_some_iff.1 hj).1
    have h1 : (cs.toList.take l.length)[j]? = some (.int .u8 x.toNat) := by rw [hcs]; simp [bcells, hj]
    rw [List.getElem?_take, if_pos hjl] at h1
    simpa using h1)
  refine ⟨w.freeze ⟨g, 0, none⟩ l.length, ?_, ?_, ?_, ?_, ?_, ?_, fun k hk => ?_⟩
  · unfold execOp
    simp only [resolve, invoke, builtin, Sem.run_bind, Sem.run_pure, Result.andThen_ok, List.map_toArray, List.map_cons, List.map_nil, hk.eval hx, hk.eval hy, hr]
    rfl
  all_goals unfold World.freeze
  all_goals have hl0 : ¬ l.length = 0 := by simpa using hl
  all_goals rw [if_neg hl0]
  · simp
  · obtain ⟨lo, hi⟩ := fz
    simp [Array.getElem?_modify, hw, frz]
  · have : ¬ g = k := fun e => hk e.symm
    simp [Array.getElem?_modify, this]

theorem V_pneqSame {x y : Operand} {t e yt : TypeId} {p : Addr} {j : TypeInfo} (hop : o.op = .binOp .neq t x y yt) (hu : c.P.underlying t = some (.pointer e)) (he : c.P.info? e = some j) (hx : fev env x = some (.pointer (some p))) (hy : fev env y = some (.pointer (some p))) : Val c n env L o (.bool false) := fun a w hk _ => by
  have h := Lib.run_neq_ptr_same (P := c.P) w p hu he
  have hq : c.P.pointee t = e := by simp [Program.pointee, hu]
  simp [execOp, hop, hk.eval hx, hk.eval hy, eqGuard, hu, h]
theorem V_toUnsafe {x : Operand} {t u e T : TypeId} {b off : Nat} {j : TypeInfo} {cs : Array Value} {fr : Nat × Nat} (hop : o.op = .convert t u x) (hx : fev env x = some (.pointer (some ⟨b, off, none⟩))) (ht : c.P.underlying t = some (.pointer e)) (hu : c.P.underlying u = some .unsafePointer) (hi : c.P.info? e = some j) (hj : Nat.beq j.size 0 = false)
    (hm : (some b, Obj.cells cs T fr) ∈ c.A ++ L) (hoff : off < cs.size) : Val c n env L o (.pointer (some ⟨b, off, none⟩)) := fun a w hk hmm => by
  have hj' : j.size ≠ 0 := fun e => by rw [e] at hj; simp at hj
  have h := Lib.run_to_unsafe (P := c.P) w ⟨b, off, none⟩ ht hu hi hj' (e := T) (cells := cs.size) (by simp [World.shape?, hmm.has.both hm]) hoff
  unfold execOp
  simp only [hop, hk.eval hx, Sem.run_bind, h, Result.andThen_ok, Sem.run_pure]
theorem V_fromUnsafe {x : Operand} {t u e T : TypeId} {b off : Nat} {j : TypeInfo} {cs : Array Value} {fr : Nat × Nat} (hop : o.op = .convert u t x) (hx : fev env x = some (.pointer (some ⟨b, off, none⟩))) (ht : c.P.underlying t = some (.pointer e)) (hu : c.P.underlying u = some .unsafePointer) (hi : c.P.info? e = some j)
    (hm : (some b, Obj.cells cs T fr) ∈ c.A ++ L) (hl : liesAt c.P c.P.depth T (cs.size / c.P.cellsOf T) off e 1 = true) : Val c n env L o (.pointer (some ⟨b, off, none⟩)) := fun a w hk hmm => by
  have h := Lib.run_from_unsafe (P := c.P) w ⟨b, off, none⟩ hu ht hi (e := T) (cells := cs.size) (by simp [World.shape?, hmm.has.both hm]) hl
  unfold execOp
  simp only [hop, hk.eval hx, Sem.run_bind, h, Result.andThen_ok, Sem.run_pure]
/-- A call of a function of the model's own that only tells a value. -/
theorem V_extern {f : FuncId} {fn : Func} {ev : Array Value → Sem Value} {xs : Array Operand} {ts : Array TypeId} {args : List Value} {v : Value} (hop : o.op = .call ⟨.value (.func f), xs, ts⟩) (hxs : fevs env xs.toList = some args) (hf : c.P.funcs[f]? = some fn) (hname : (fn.name == "runtime.NumGoroutine") = false)
    (hb : fn.body.isNone = true) (hn : Extern.findNext fn = none) (he : Extern.find fn = some ev) (hv : ∀ w, (ev args.toArray).run c.P w = .ok v w) : Val c n env L o v := fun a w hk _ => by
  have hx : xs.map a.eval = args.toArray := by
    apply Array.toList_inj.1
    simpa using hk.evals hxs
  have hr := run_callFunc_extern hf hname hb hn he args.toArray w
  rw [hv w] at hr
  unfold execOp
  simp [hop, resolve, Act.eval, Deferred.ofValue, hx, invoke, hr]

variable {ops : Array Oper} {Lq : List (Option Nat × Obj)} {fuel : Nat} {listed : Array Bool}
theorem GHop_putV {i b d : Nat} {old ob : Obj} {v : Value} {l1 l2 L' M : List (Option Nat × Obj)} (ho : ops[i]? = some o) (hd : o.dst = some d) (hn : Nat.blt d n = true) (hg : fguard ops env o = some true)
    (hL : L = l1 ++ (some b, old) :: l2) (hv : PutV c n env L o b ob v) (hL' : l1 ++ (some b, ob) :: l2 = L') (isq : List Nat) (hq : tk isq L' = some (Lq, M)) (h : GH c n ops Lq fuel (listed.setIfInBounds i true) ((d, v) :: env) L' k) : GHop c n ops Lq fuel listed env L k i := by
  intro a w hk hm hw
  obtain ⟨w', hr, h1, h2, h3, h4, h5, h6⟩ := hv a w hk hm
  refine ghop_of ho (Xt hk hg) ?_
  rw [hr, Oper.upon_value, hd]
  subst hL'
  have hm' := hm.put hL h1 h2 h3 h4 h5 h6
  exact ⟨hs_of hm' hq, h _ w' (hk.put hn v) hm' (hs_of hm' hq)⟩
end
end Go.Proofs.Ytjnaeoelnmhjfaa

set_option linter.unusedSimpArgs false
set_option linter.unusedVariables false
namespace Go.Proofs.Ytjnaeoelnmhjfaa
open Go Go.RowKit

section
theorem i_5 : Try.prog.info? 5 = some Try.t5 := by kernel_rfl
theorem i_73 : Try.prog.info? 73 = some Try.t73 := by kernel_rfl
theorem i_76 : Try.prog.info? 76 = some Try.t76 := by kernel_rfl
theorem i_78 : Try.prog.info? 78 = some Try.t78 := by kernel_rfl

def UsedOr (b : Nat) (p : Value) : Prop := p = .pointer none ∨ p = .pointer (some ⟨b, 0, none⟩)
/-- A text in a buffer. -/
structure Txt (u : Sl) (tx : List UInt8) : Prop where
  own : Own 1 u (bcells tx) tx.length
  pos : u.ob ≠ none → 0 < u.cap
theorem txt_nil : Txt slNil [] := ⟨own_nil 1, fun h => absurd rfl h⟩
theorem Txt.more {u s' : Sl} {tx s : List UInt8} (h : Txt u tx) (h1 : Own 1 s' (bcells tx ++ bcells s) (tx.length + s.length)) (h2 : (u.ob ≠ none → 0 < u.cap) → s'.ob ≠ none → 0 < s'.cap) : Txt s' (tx ++ s) :=
  ⟨by rw [bcells_append, List.length_append]; exact h1, h2 h.pos⟩

theorem Ct.weak {P : Program} {f : FuncId} {args : List Value} {A L : List (Option Nat × Obj)} {R R' : Value → List (Option Nat × Obj) → Prop} (h : Ct P f args A L R) (hR : ∀ v post, R v post → R' v post) : Ct P f args A L R' :=
  fun w hw => (h w hw).mono fun e w' ⟨v, post, he, hr, hm⟩ => ⟨v, post, he, hR v post hr, hm⟩
end
end Go.Proofs.Ytjnaeoelnmhjfaa

set_option linter.unusedSimpArgs false
set_option linter.unusedVariables false
namespace Go.Proofs.Ytjnaeoelnmhjfaa
open Go Go.RowKit

section
set_option maxRecDepth 100000 in
set_option maxHeartbeats 1000000 in
theorem ccopy_fresh (x1 x2 : Value) (b : Nat) (s : Value) (hs : s.oneCell' = true) :
    Ct Try.prog 129 [.pointer (some ⟨b, 0, none⟩)] [] [(some b, .cells #[.pointer none, s, x1, x2] 80 (0, 0))] fun v post => v = .tuple #[] ∧ post = [(some b, .cells #[.pointer (some ⟨b, 0, none⟩), s, x1, x2] 80 (0, 0))] := by
 refine Yv Try.func129 rfl rfl (fun w0 => ?_)
 show G _ _ [(0, _)] _ _
 refine Zi ?_
 refine Zd (l := [0, 1, 2, 3, 4]) rfl ?_
 refine Za rfl rfl rfl rfl (Zc rfl rfl) ?_
 refine Za rfl rfl rfl rfl (Ze rfl rfl) ?_
 refine Za rfl rfl rfl rfl (Zb (fo := 0) rfl Try.underlying78 rfl i_76 rfl rfl rfl) ?_
 refine Za rfl rfl rfl rfl (Zj rfl rfl (Zf 0 rfl) rfl Try.underlying76 rfl) ?_
 refine Za rfl rfl rfl rfl (V_peqlN rfl Try.underlying76 rfl rfl) ?_
 refine Zg ?_
 refine G_then rfl ?_
 refine Zd (l := [0, 1, 2, 3, 4, 5, 6, 7]) rfl ?_
 refine Za rfl rfl rfl rfl (Zc rfl rfl) ?_
 refine Za rfl rfl rfl rfl (Zc rfl rfl) ?_
 refine Za rfl rfl rfl rfl (V_toUnsafe rfl rfl Try.underlying76 Try.underlying265 i_78 rfl (Zf 0 rfl) (by simp)) ?_
 refine Za rfl rfl rfl rfl (V_extern (ev := Extern.AbiNoEscape.same) rfl rfl Try.func151 (by kernel_rfl) (by kernel_rfl) (by kernel_rfl) (by kernel_rfl) (fun w => rfl)) ?_
 refine Za rfl rfl rfl rfl (V_fromUnsafe rfl rfl Try.underlying76 Try.underlying265 i_78 (Zf 0 rfl) (by kernel_rfl)) ?_
 refine Za rfl rfl rfl rfl (Ze rfl rfl) ?_
 refine Za rfl rfl rfl rfl (Zb (fo := 0) rfl Try.underlying78 rfl i_76 rfl rfl rfl) ?_
 refine Xl (l1 := []) (L' := [_]) rfl rfl rfl rfl (Zq rfl rfl rfl (Zf 0 rfl) (by first | exact of_decide_eq_true rfl | omega | (simp; done) | (simp; omega) | (simp at *; omega)) i_76 rfl rfl) rfl ?_
 refine Zg ?_
 refine G_end (post := [_]) Try.func129 rfl Zo [0] rfl ?_
 dsimp only [packed]
 exact ⟨rfl, rfl⟩

set_option maxRecDepth 100000 in
set_option maxHeartbeats 1000000 in
theorem ccopy_used (x1 x2 : Value) (b : Nat) (s : Value) :
    Ct Try.prog 129 [.pointer (some ⟨b, 0, none⟩)] [] [(some b, .cells #[.pointer (some ⟨b, 0, none⟩), s, x1, x2] 80 (0, 0))] fun v post => v = .tuple #[] ∧ post = [(some b, .cells #[.pointer (some ⟨b, 0, none⟩), s, x1, x2] 80 (0, 0))] := by
 refine Yv Try.func129 rfl rfl (fun w0 => ?_)
 show G _ _ [(0, _)] _ _
 refine Zi ?_
 refine Zd (l := [0, 1, 2, 3, 4]) rfl ?_
 refine Za rfl rfl rfl rfl (Zc rfl rfl) ?_
 refine Za rfl rfl rfl rfl (Ze rfl rfl) ?_
 refine Za rfl rfl rfl rfl (Zb (fo := 0) rfl Try.underlying78 rfl i_76 rfl rfl rfl) ?_
 refine Za rfl rfl rfl rfl (Zj rfl rfl (Zf 0 rfl) rfl Try.underlying76 rfl) ?_
 refine Za rfl rfl rfl rfl (V_peqlN rfl Try.underlying76 rfl rfl) ?_
 refine Zg ?_
 refine G_else rfl ?_
 refine Zi ?_
 refine Zd (l := [0, 1, 2, 3, 4, 5]) rfl ?_
 refine Za rfl rfl rfl rfl (Zc rfl rfl) ?_
 refine Za rfl rfl rfl rfl (Ze rfl rfl) ?_
 refine Za rfl rfl rfl rfl (Zb (fo := 0) rfl Try.underlying78 rfl i_76 rfl rfl rfl) ?_
 refine Za rfl rfl rfl rfl (Zj rfl rfl (Zf 0 rfl) rfl Try.underlying76 rfl) ?_
 refine Za rfl rfl rfl rfl (Zc rfl rfl) ?_
 refine Za rfl rfl rfl rfl (V_pneqSame rfl Try.underlying76 i_78 rfl rfl) ?_
 refine Zg ?_
 refine G_else rfl ?_
 refine Zu ?_
 refine G_end (post := [_]) Try.func129 rfl Zo [0] rfl ?_
 dsimp only [packed]
 exact ⟨rfl, rfl⟩


theorem ccopy_any (x1 x2 : Value) (b : Nat) (p s : Value) (hs : s.oneCell' = true) (hp : UsedOr b p) : Ct Try.prog 129 [.pointer (some ⟨b, 0, none⟩)] [] [(some b, .cells #[p, s, x1, x2] 80 (0, 0))] (fun v post => v = .tuple #[] ∧ post = [(some b, .cells #[.pointer (some ⟨b, 0, none⟩), s, x1, x2] 80 (0, 0))]) := by
  rcases hp with rfl | rfl
  · exact ccopy_fresh x1 x2 b s hs
  · exact ccopy_used x1 x2 b s

set_option maxRecDepth 100000 in
set_option maxHeartbeats 1000000 in
theorem Xo (x1 x2 : Value) (b : Nat) (p : Value) (u : Sl) (tx s : List UInt8) (hp : UsedOr b p) (hu : Txt u tx) (hs : tx.length + s.length ≤ 140737488355328) :
    Ct Try.prog 79 [.pointer (some ⟨b, 0, none⟩), .string (bs s)] [] [(some b, .cells #[p, u.v tx.length, x1, x2] 80 (0, 0)), (u.ob, .cells u.cs 5 u.fz)] fun v post => v = .tuple #[.int .i64 (s.length : Int), .nilIface] ∧ ∃ u1, Txt u1 (tx ++ s) ∧ post = [(some b, .cells #[.pointer (some ⟨b, 0, none⟩), u1.v (tx ++ s).length, x1, x2] 80 (0, 0)), (u1.ob, .cells u1.cs 5 u1.fz)] := by
 refine Yv Try.func79 rfl rfl (fun w0 => ?_)
 show G _ _ [(0, _), (1, _)] _ _
 refine Zi ?_
 refine Zd (l := [0, 1]) rfl ?_
 refine Za rfl rfl rfl rfl (Zk rfl rfl) ?_
 refine Za rfl rfl rfl rfl (Zk rfl rfl) ?_
 refine Zg ?_
 refine Zi ?_
 refine Zd (l := [0, 1]) rfl ?_
 refine Za rfl rfl rfl rfl (Zc rfl rfl) ?_
 refine Yh (L2 := [_]) rfl rfl rfl rfl rfl rfl Try.call129 (ccopy_any _ _ _ _ _ rfl hp) [0] [] rfl rfl ?_
 rintro v post ⟨rfl, rfl⟩
 show G _ _ _ [_, _] _
 refine Zg ?_
 refine Zi ?_
 refine Zd (l := [0, 1, 2, 3, 4, 5, 6, 7, 8, 9]) rfl ?_
 refine Za rfl rfl rfl rfl (Zc rfl rfl) ?_
 refine Za rfl rfl rfl rfl (Zc rfl rfl) ?_
 refine Za rfl rfl rfl rfl (Ze rfl rfl) ?_
 refine Za rfl rfl rfl rfl (Zb (fo := 1) rfl Try.underlying78 rfl i_73 rfl rfl rfl) ?_
 refine Za rfl rfl rfl rfl (Zj rfl rfl (Zf 0 rfl) rfl Try.underlying73 rfl) ?_
 refine Za rfl rfl rfl rfl (Zc rfl rfl) ?_
 refine G_append (l1 := [_]) (s := u) (nn := tx.length) (m := s.length) (news := bcells s) (bt := 1) rfl rfl rfl rfl Try.underlying73 Try.underlying9 (by first | exact .inl rfl | exact .inr ⟨_, rfl⟩) i_5 rfl rfl rfl rfl rfl rfl hu.own rfl (fun w _ => src_string _) (by omega) (by omega) ?_
 intro u1 hu1 hq1
 show G _ _ _ [_, _] _
 refine Za rfl rfl rfl rfl (Ze rfl rfl) ?_
 refine Za rfl rfl rfl rfl (Zb (fo := 1) rfl Try.underlying78 rfl i_73 rfl rfl rfl) ?_
 refine Xl (l1 := []) (L' := [_, _]) rfl rfl rfl rfl (Zq rfl rfl rfl (Zf 0 rfl) (by first | exact of_decide_eq_true rfl | omega | (simp; done) | (simp; omega) | (simp at *; omega)) i_73 rfl rfl) rfl ?_
 refine Zg ?_
 refine Zi ?_
 refine Zd (l := [0, 1, 2, 3]) rfl ?_
 refine Za rfl rfl rfl rfl (Zc rfl rfl) ?_
 refine Za rfl rfl rfl rfl (V_slen rfl rfl Try.underlying9 rfl) ?_
 refine Za rfl rfl rfl rfl (Zk rfl rfl) ?_
 refine Za rfl rfl rfl rfl (Zk rfl rfl) ?_
 refine Zg ?_
 refine Xa (post := [_, _]) Try.func79 rfl (Zy (Yy rfl) (Zy (Yy rfl) Zo)) [0, 0] rfl ?_
 dsimp only [packed]
 exact ⟨rfl, u1, hu.more hu1 hq1.pos, by rw [List.length_append]; rfl⟩


set_option maxRecDepth 100000 in
set_option maxHeartbeats 1000000 in
theorem cbld_string1 (x1 x2 : Value) (b g cap : Nat) (p : Value) (cs : Array Value) (fz : Nat × Nat) (tx : List UInt8) (hu : Txt ⟨some g, cs, fz, cap⟩ tx) (h0 : tx ≠ []) (hs : tx.length ≤ 140737488355328) :
    Ct Try.prog 53 [.pointer (some ⟨b, 0, none⟩)] [] [(some b, .cells #[p, .slice (some ⟨g, 0, none⟩) tx.length cap, x1, x2] 80 (0, 0)), (some g, .cells cs 5 fz)] fun v post => v = .string (bs tx) ∧ post = [(some b, .cells #[p, .slice (some ⟨g, 0, none⟩) tx.length cap, x1, x2] 80 (0, 0)), (some g, .cells cs 5 (frz fz tx.length))] := by
 have hcap := hu.pos (by simp)
 simp only at hcap
 have hsz := hu.own.size
 have hle := hu.own.le
 have hpre := hu.own.pre
 simp only [Nat.mul_one] at hsz hle hpre
 refine Yv Try.func53 rfl rfl (fun w0 => ?_)
 show G _ _ [(0, _)] _ _
 refine Zi ?_
 refine Zd (l := [0]) rfl ?_
 refine Za rfl rfl rfl rfl (Zk rfl rfl) ?_
 refine Zg ?_
 refine Zi ?_
 refine Ya (Lq := [_]) (isq := [0]) (m := 12) Ym rfl rfl ?_
 refine Zh 0 rfl rfl rfl rfl (by kernel_rfl) (fun _ _ => Zc rfl rfl) ?_
 refine Zh 1 rfl rfl rfl rfl (by kernel_rfl) (fun _ _ => Ze rfl rfl) ?_
 refine Zh 2 rfl rfl rfl rfl (by kernel_rfl) (fun _ _ => Zb (fo := 1) rfl Try.underlying78 rfl i_73 rfl rfl rfl) ?_
 refine Zh 3 rfl rfl rfl rfl (by kernel_rfl) (fun _ _ => Zj rfl rfl (Zf 0 rfl) rfl Try.underlying73 rfl) ?_
 refine Zh 4 rfl rfl rfl rfl (by kernel_rfl) (fun _ _ => V_sliceDataS rfl rfl (by first | omega | (simp; done) | (simp; omega) | (simp at *; omega))) ?_
 refine Zh 5 rfl rfl rfl rfl (by kernel_rfl) (fun _ _ => Zc rfl rfl) ?_
 refine Zh 6 rfl rfl rfl rfl (by kernel_rfl) (fun _ _ => Ze rfl rfl) ?_
 refine Zh 7 rfl rfl rfl rfl (by kernel_rfl) (fun _ _ => Zb (fo := 1) rfl Try.underlying78 rfl i_73 rfl rfl rfl) ?_
 refine Zh 8 rfl rfl rfl rfl (by kernel_rfl) (fun _ _ => Zj rfl rfl (Zf 0 rfl) rfl Try.underlying73 rfl) ?_
 refine Zh 9 rfl rfl rfl rfl (by kernel_rfl) (fun _ _ => Yf rfl rfl Try.underlying73 rfl) ?_
 refine GH_all [10] (by kernel_rfl) (by decide) ?_
 refine (And.intro ?_ trivial)
 ·
  refine GHop_putV (l1 := [_]) (L' := [_, _]) rfl rfl rfl rfl rfl (P_unsafeString (l := tx) rfl Try.underlying214 (by kernel_rfl) rfl rfl rfl (Zf 1 rfl) h0 (by omega) (by omega) hpre) rfl [0] rfl ?_
  refine Zh 11 rfl rfl rfl rfl (by kernel_rfl) (fun _ _ => Zk rfl rfl) ?_
  refine Zw (by kernel_rfl) ?_
  refine Xa (post := [_, _]) Try.func53 rfl (Zy (Yy rfl) Zo) [0, 0] rfl ?_
  dsimp only [packed]
  exact ⟨rfl, rfl⟩

set_option maxRecDepth 100000 in
set_option maxHeartbeats 1000000 in
theorem cbld_string0 (x1 x2 : Value) (b : Nat) (p : Value) (u : Sl) (cap : Nat) :
    Ct Try.prog 53 [.pointer (some ⟨b, 0, none⟩)] [] [(some b, .cells #[p, .slice none 0 cap, x1, x2] 80 (0, 0)), (none, .cells u.cs 5 u.fz)] fun v post => v = .string (bs []) ∧ post = [(some b, .cells #[p, .slice none 0 cap, x1, x2] 80 (0, 0)), (none, .cells u.cs 5 u.fz)] := by
 refine Yv Try.func53 rfl rfl (fun w0 => ?_)
 show G _ _ [(0, _)] _ _
 refine Zi ?_
 refine Zd (l := [0]) rfl ?_
 refine Za rfl rfl rfl rfl (Zk rfl rfl) ?_
 refine Zg ?_
 refine Zi ?_
 refine Ya (Lq := [_]) (isq := [0]) (m := 12) Ym rfl rfl ?_
 refine Zh 0 rfl rfl rfl rfl (by kernel_rfl) (fun _ _ => Zc rfl rfl) ?_
 refine Zh 1 rfl rfl rfl rfl (by kernel_rfl) (fun _ _ => Ze rfl rfl) ?_
 refine Zh 2 rfl rfl rfl rfl (by kernel_rfl) (fun _ _ => Zb (fo := 1) rfl Try.underlying78 rfl i_73 rfl rfl rfl) ?_
 refine Zh 3 rfl rfl rfl rfl (by kernel_rfl) (fun _ _ => Zj rfl rfl (Zf 0 rfl) rfl Try.underlying73 rfl) ?_
 refine Zh 4 rfl rfl rfl rfl (by kernel_rfl) (fun _ _ => V_sliceDataN rfl rfl) ?_
 refine Zh 5 rfl rfl rfl rfl (by kernel_rfl) (fun _ _ => Zc rfl rfl) ?_
 refine Zh 6 rfl rfl rfl rfl (by kernel_rfl) (fun _ _ => Ze rfl rfl) ?_
 refine Zh 7 rfl rfl rfl rfl (by kernel_rfl) (fun _ _ => Zb (fo := 1) rfl Try.underlying78 rfl i_73 rfl rfl rfl) ?_
 refine Zh 8 rfl rfl rfl rfl (by kernel_rfl) (fun _ _ => Zj rfl rfl (Zf 0 rfl) rfl Try.underlying73 rfl) ?_
 refine Zh 9 rfl rfl rfl rfl (by kernel_rfl) (fun _ _ => Yf rfl rfl Try.underlying73 rfl) ?_
 refine Zh 10 rfl rfl rfl rfl (by kernel_rfl) (fun _ _ => V_unsafeString0 rfl rfl rfl (by first | omega | (simp; done) | (simp; omega) | (simp at *; omega))) ?_
 refine Zh 11 rfl rfl rfl rfl (by kernel_rfl) (fun _ _ => Zk rfl rfl) ?_
 refine Zw (by kernel_rfl) ?_
 refine Xa (post := [_, _]) Try.func53 rfl (Zy (Yy rfl) Zo) [0, 0] rfl ?_
 dsimp only [packed]
 exact ⟨rfl, rfl⟩

set_option maxRecDepth 100000 in
set_option maxHeartbeats 1000000 in
theorem cbld_string2 (x1 x2 : Value) (b g : Nat) (p : Value) (u : Sl) (cap : Nat) (hc : 0 < cap) :
    Ct Try.prog 53 [.pointer (some ⟨b, 0, none⟩)] [] [(some b, .cells #[p, .slice (some ⟨g, 0, none⟩) 0 cap, x1, x2] 80 (0, 0)), (some g, .cells u.cs 5 u.fz)] fun v post => v = .string (bs []) ∧ post = [(some b, .cells #[p, .slice (some ⟨g, 0, none⟩) 0 cap, x1, x2] 80 (0, 0)), (some g, .cells u.cs 5 u.fz)] := by
 refine Yv Try.func53 rfl rfl (fun w0 => ?_)
 show G _ _ [(0, _)] _ _
 refine Zi ?_
 refine Zd (l := [0]) rfl ?_
 refine Za rfl rfl rfl rfl (Zk rfl rfl) ?_
 refine Zg ?_
 refine Zi ?_
 refine Ya (Lq := [_]) (isq := [0]) (m := 12) Ym rfl rfl ?_
 refine Zh 0 rfl rfl rfl rfl (by kernel_rfl) (fun _ _ => Zc rfl rfl) ?_
 refine Zh 1 rfl rfl rfl rfl (by kernel_rfl) (fun _ _ => Ze rfl rfl) ?_
 refine Zh 2 rfl rfl rfl rfl (by kernel_rfl) (fun _ _ => Zb (fo := 1) rfl Try.underlying78 rfl i_73 rfl rfl rfl) ?_
 refine Zh 3 rfl rfl rfl rfl (by kernel_rfl) (fun _ _ => Zj rfl rfl (Zf 0 rfl) rfl Try.underlying73 rfl) ?_
 refine Zh 4 rfl rfl rfl rfl (by kernel_rfl) (fun _ _ => V_sliceDataS rfl rfl (by first | omega | (simp; done) | (simp; omega) | (simp at *; omega))) ?_
 refine Zh 5 rfl rfl rfl rfl (by kernel_rfl) (fun _ _ => Zc rfl rfl) ?_
 refine Zh 6 rfl rfl rfl rfl (by kernel_rfl) (fun _ _ => Ze rfl rfl) ?_
 refine Zh 7 rfl rfl rfl rfl (by kernel_rfl) (fun _ _ => Zb (fo := 1) rfl Try.underlying78 rfl i_73 rfl rfl rfl) ?_
 refine Zh 8 rfl rfl rfl rfl (by kernel_rfl) (fun _ _ => Zj rfl rfl (Zf 0 rfl) rfl Try.underlying73 rfl) ?_
 refine Zh 9 rfl rfl rfl rfl (by kernel_rfl) (fun _ _ => Yf rfl rfl Try.underlying73 rfl) ?_
 refine Zh 10 rfl rfl rfl rfl (by kernel_rfl) (fun _ _ => V_unsafeString0 rfl rfl rfl (by first | omega | (simp; done) | (simp; omega) | (simp at *; omega))) ?_
 refine Zh 11 rfl rfl rfl rfl (by kernel_rfl) (fun _ _ => Zk rfl rfl) ?_
 refine Zw (by kernel_rfl) ?_
 refine Xa (post := [_, _]) Try.func53 rfl (Zy (Yy rfl) Zo) [0, 0] rfl ?_
 dsimp only [packed]
 exact ⟨rfl, rfl⟩


theorem cbld_string (x1 x2 : Value) (b : Nat) (p : Value) (u : Sl) (tx : List UInt8) (hu : Txt u tx) (hs : tx.length ≤ 140737488355328) :
    Ct Try.prog 53 [.pointer (some ⟨b, 0, none⟩)] [] [(some b, .cells #[p, u.v tx.length, x1, x2] 80 (0, 0)), (u.ob, .cells u.cs 5 u.fz)] (fun v post => v = .string (bs tx) ∧ ∃ u1, Txt u1 tx ∧ post = [(some b, .cells #[p, u1.v tx.length, x1, x2] 80 (0, 0)), (u1.ob, .cells u1.cs 5 u1.fz)]) := by
  obtain ⟨ob, cs, fz, cap⟩ := u
  cases tx with
  | nil =>
    cases ob with
    | none => exact (cbld_string0 x1 x2 b p ⟨none, cs, fz, cap⟩ cap).weak fun v post ⟨h1, h2⟩ => ⟨h1, _, hu, h2⟩
    | some g => exact (cbld_string2 x1 x2 b g p ⟨some g, cs, fz, cap⟩ cap (hu.pos (by simp))).weak fun v post ⟨h1, h2⟩ => ⟨h1, _, hu, h2⟩
  | cons c t =>
    obtain ⟨g, hg⟩ := hu.own.isSome (by simp)
    simp only at hg
    subst hg
    exact (cbld_string1 x1 x2 b g cap p cs fz (c :: t) hu (by simp) hs).weak fun v post ⟨h1, h2⟩ => ⟨h1, Sl.froze ⟨some g, cs, fz, cap⟩ (c :: t).length, ⟨hu.own.froze (by omega), hu.pos⟩, h2⟩

end
end Go.Proofs.Ytjnaeoelnmhjfaa

namespace Go.Proofs.Ytjnaeoelnmhjfaa
open Go.RowKit

theorem Try.infoByte : (Try.prog.info? 5).map (fun i => (i.zero, i.size, i.bytes)) = some (some (.int .u8 0), 1, 1) := by kernel_rfl

set_option maxRecDepth 100000 in
set_option maxHeartbeats 400000 in
theorem chain_any (V : Nat) (w : World) (hV : U64 V) :
    Calls Try.prog 80 #[.int .u64 V] w fun e w' => e = .returned (str (chain V)) ∧ Below w.heap.size w w' := by
  obtain ⟨i0, hi, hz0, hz1, hz2⟩ := info_parts Try.infoByte
  have hl10 := chain_len64 V hV
  go_enter Try.func80, Try.ntmps80
  go_wp2
  go_loopw [0, 3] (fun v b wr => ∃ (u : Nat) (pre : List UInt8), U64 u ∧ v = .int .u64 u ∧ pre ++ chain u = chain V ∧ wr.ownsRow w.heap.size 5 1 b pre.length (pre.map byteV) ∧ Below w.heap.size w wr) (fun v _ _ => (intOf v).toNat)
  case atStart => exact ⟨V, [], hV, rfl, rfl, World.ownsRow_nil _ _ _ _, Below.refl _ _⟩
  case round =>
    obtain ⟨u, pre, hu, rfl, hpre, hown, hb⟩ := hrel
    have Hpre := Lib.hid hpre
    have hlen : pre.length ≤ 10 := by have := congrArg List.length hpre; simp at this; omega
    clear hpre
    have hsz := hb.size
    by_cases hlt : 128 ≤ u
    · obtain ⟨c, hc⟩ : ∃ c, c = UInt8.ofNat (u % 128 + 128) := ⟨_, rfl⟩
      have hbyte : bits BinOp.or IntKind.u8 ((u : Int) % (256 : Int)) (128 : Int) = (c.toNat : Int) := by rw [hc]; exact byte_or u
      have Hc := Lib.hid hc
      clear hc
      go_wp2_with (at_builtin; refine wpList_append_own _ rfl _ _ 73 rfl w.heap.size 5 i0 (.int .u8 0) 1 1 Try.underlying73 hi hz0 hz1 hz2 rfl (by decide) _ _ _ rfl (hown.alloc _) ⟨wr.heap.size, 0, none⟩ 1 1 [byteV c] rfl rfl ?c1 ?c2 ?c3 ?c4 ?c5 ?_)
      case c1 => exact cell_one_new _ _ _
      case c2 => simp [byteV, Value.oneCell']
      case c3 => unfold maxLen; omega
      case c4 => omega
      case c5 => simp; omega
      intro v' w1 hown' hgrow' _
      have hb1 : Below w.heap.size w w1 := (hb.alloc (by omega) _).grown hgrow' (by simp; omega) (fun k hk => (hown.lt k hk).1)
      clear hbyte hown hgrow'
      go_wp2
      go_roundw
      case rel => exact ⟨u / 128, pre ++ [c], hu.div _, by go_num, by rw [List.append_assoc, ← Hpre.out, chain_big u hlt, Hc.out]; rfl, by simpa using hown', hb1⟩
      case measure => simp [intOf]; omega
    · obtain ⟨c, hc⟩ : ∃ c, c = UInt8.ofNat u := ⟨_, rfl⟩
      have hbyte : Value.int .u8 (u : Int) = byteV c := by rw [hc, byteV, byte_mod u (by omega)]
      have Hy := Lib.hid hbyte
      have Hc := Lib.hid hc
      clear hc hbyte
      go_wp2_with (at_builtin; refine wpList_append_own _ rfl _ _ 73 rfl w.heap.size 5 i0 (.int .u8 0) 1 1 Try.underlying73 hi hz0 hz1 hz2 rfl (by decide) _ _ _ rfl (hown.alloc _) ⟨wr.heap.size, 0, none⟩ 1 1 [.int .u8 (u : Int)] rfl rfl ?c1 ?c2 ?c3 ?c4 ?c5 ?_)
      case c1 => exact cell_one_new _ _ _
      case c2 => simp [Value.oneCell']
      case c3 => unfold maxLen; omega
      case c4 => omega
      case c5 => simp; omega
      intro v' w1 hown' hgrow' _
      have hb1 : Below w.heap.size w w1 := (hb.alloc (by omega) _).grown hgrow' (by simp; omega) (fun k hk => (hown.lt k hk).1)
      have hcv := own_string (P := Try.prog) (l := pre ++ [c]) 73 9 Try.underlying73 Try.underlying5 Try.underlying9 (by rw [Hy.out] at hown'; simpa using hown')
      clear hown hown' hgrow'
      go_wp2
      go_ret
      exact ⟨by rw [← Hpre.out, chain_small u (by omega), ← Hc.out]; rfl, hb1⟩
end Go.Proofs.Ytjnaeoelnmhjfaa

namespace Go.Proofs.Ytjnaeoelnmhjfaa
open Go.RowKit

theorem bytes_one (w : World) (x : Int) (c : UInt8) (h : Value.int .u8 x = byteV c) :
    (convert 73 9 (.slice (some ⟨w.heap.size, 0, none⟩) 1 1)).run Try.prog (w.alloc (.cells #[.int .u8 x] 5)) = .ok (.string ⟨#[c]⟩) (w.alloc (.cells #[.int .u8 x] 5)) := by
  have := run_convert_bytes_back (P := Try.prog) (w.alloc (.cells #[.int .u8 x] 5)) 73 9 5 ⟨w.heap.size, 0, none⟩ 1 [c] Try.underlying73 Try.underlying5 Try.underlying9 (fun j hj => by
    obtain rfl : j = 0 := by simpa using hj
    rw [addr_add0, cell_alloc_new]
    rw [h]
    rfl)
  exact this

set_option maxRecDepth 100000 in
set_option maxHeartbeats 400000 in
theorem rchain_any (V : Nat) (w : World) (hV : U64 V) :
    Calls Try.prog 118 #[.int .u64 V] w fun e w' => e = .returned (str (chain V)) ∧ Below w.heap.size w w' := by
  have hl10 := chain_len64 V hV
  go_enter Try.func118, Try.ntmps118
  go_wp2
  go_loopw [0, 3] (fun v b wr => ∃ (u : Nat) (s : ByteArray), U64 u ∧ v = .int .u64 u ∧ s.data.toList ++ chain u = chain V ∧ b = .string s ∧ Below w.heap.size w wr) (fun v _ _ => (intOf v).toNat)
  case atStart => exact ⟨V, ByteArray.empty, hV, rfl, rfl, rfl, Below.refl _ _⟩
  case round =>
    obtain ⟨u, s, hu, rfl, hpre, rfl, hb⟩ := hrel
    have Hpre := Lib.hid hpre
    have hlen : s.size ≤ 10 := by have := congrArg List.length hpre; simp at this; omega
    clear hpre
    have hsz := hb.size
    by_cases hlt : 128 ≤ u
    · obtain ⟨c, hc⟩ : ∃ c, c = UInt8.ofNat (u % 128 + 128) := ⟨_, rfl⟩
      have hcv := bytes_one wr ((u : Int) % 128 + 128) c (by rw [hc, byteV, byte_mod _ (by omega)]; congr 1)
      have hq : IntKind.u64.wrap ((u : Int) / 128) = (u : Int) / 128 := hu.wrap_div 128
      have Hc := Lib.hid hc
      clear hc
      go_wp2
      go_roundw
      case rel => exact ⟨u / 128, s ++ ⟨#[c]⟩, hu.div _, by go_num, by rw [← Hpre.out, chain_big u hlt, ← Hc.out]; simp, rfl, hb.alloc (by omega) _⟩
      case measure => simp [intOf]; omega
    · obtain ⟨c, hc⟩ : ∃ c, c = UInt8.ofNat u := ⟨_, rfl⟩
      have hcv := bytes_one wr (u : Int) c (by rw [hc, byteV, byte_mod _ (by omega)])
      have Hc := Lib.hid hc
      clear hc
      go_wp2
      go_ret
      exact ⟨ret_str (by rw [← Hpre.out, chain_small u (by omega), ← Hc.out]; simp), hb.alloc (by omega) _⟩
end Go.Proofs.Ytjnaeoelnmhjfaa

namespace Go.Proofs.Ytjnaeoelnmhjfaa
open Go.RowKit

def tri (r : Nat × Nat × Nat) : Value := .tuple #[.int .u64 (r.1 : Int), .int .i64 (r.2.1 : Int), .int .i64 (r.2.2 : Int)]

set_option maxRecDepth 100000 in
set_option maxHeartbeats 400000 in
theorem unchain_any (s : ByteArray) (w : World) (hs : s.size ≤ 9223372036854775807) :
    Calls Try.prog 131 #[.string s] w fun e w' => e = .returned (tri (unchain s.data.toList)) ∧ w = w' := by
  obtain ⟨m, hm1, hm2, hm3⟩ : ∃ m : Nat, m ≤ s.size ∧ m ≤ 10 ∧ (m < 10 → m = s.size) := ⟨min s.size 10, by omega, by omega, by omega⟩
  go_enter Try.func131, Try.ntmps131
  go_wp2
  all_goals
    first
      | (have hm4 : s.size ≤ m := by omega)
      | (have hm4 : 10 ≤ m := by omega)
    go_loop [5, 6, 10] (fun v _ i => ∃ k vk v' : Nat, k ≤ m ∧ i = .int .i64 k ∧ v = .int .u64 vk ∧ unch k v' (s.data.toList.drop k) = unchain s.data.toList ∧ (k ≤ 9 → v' = vk ∧ vk < 128 ^ k)) (fun _ _ i => m - (intOf i).toNat)
    case atStart => exact ⟨0, 0, 0, by omega, rfl, rfl, rfl, fun _ => ⟨rfl, by omega⟩⟩
    case round =>
      obtain ⟨k, vk, v', hk, rfl, rfl, hun, h9⟩ := hrel
      have Hun := Lib.hid hun
      have H9 := Lib.hid h9
      clear hun h9
      by_cases hlt : k < m
      · have hks : k < s.size := by omega
        have hdrop : s.data.toList.drop k = s[k] :: s.data.toList.drop (k + 1) := by
          rw [List.drop_eq_getElem_cons (by simpa using hks)]; rfl
        obtain ⟨rfl, hvk⟩ := H9.out (by omega)
        obtain ⟨n, hX, hn, hn'⟩ := or_link v' s[k] k (by omega) hvk
        have Hd := Lib.hid hdrop
        have Hn := Lib.hid hn'
        have hv2 := Lib.hid hvk
        have hand := and_128 s[k]
        have hc256 := s[k].toNat_lt
        clear hdrop hn' hvk H9
        by_cases hc : 128 ≤ s[k].toNat
        · have hT : (((s[k].toNat : Int) / 128 * 128) != 0) = true := by rw [bne_iff_ne]; omega
          go_wp2
          go_round
          case rel =>
            refine ⟨k + 1, n, v' + (s[k].toNat - 128) * 128 ^ k, by omega, by go_num, rfl, by rw [← Hun.out, Hd.out, unch_more k v' _ _ (by omega) hc], fun h => ?_⟩
            have e := Hn.out (.inl (by omega))
            rw [show s[k].toNat % 128 = s[k].toNat - 128 by omega] at e
            refine ⟨e.symm, ?_⟩
            rw [e, Nat.pow_succ]
            have h1 : (s[k].toNat - 128) * 128 ^ k ≤ 127 * 128 ^ k := Nat.mul_le_mul_right _ (by omega)
            have h2 := hv2.out
            omega
          case measure => simp [intOf]; omega
        · have hF : (((s[k].toNat : Int) / 128 * 128) != 0) = false := by simp; omega
          by_cases hz : s[k].toNat = 0
          · have hz' : ((s[k].toNat : Int) == 0) = true := by simp [hz]
            have hz1 : (s[k].toNat : Int) ≤ 1 := by omega
            have Hz := Lib.hid hz
            clear hz
            by_cases hk0 : 0 < k
            · go_wp2
              go_ret3
              exact ⟨by rw [← Hun.out, Hd.out, unch_bad k v' _ _ (by omega) (by omega) (.inl ⟨hk0, Hz.out⟩)]; rfl, rfl⟩
            · go_wp2
              go_ret3
              exact ⟨by rw [← Hun.out, Hd.out, unch_last k v' _ _ (by omega) (by omega) (by omega), Hn.out (.inl (by omega)), Nat.mod_eq_of_lt (by omega)]; rfl, rfl⟩
          · have hz' : ((s[k].toNat : Int) == 0) = false := by simpa using hz
            by_cases hk9 : k = 9
            · have hk9' : ((k : Int) == 9) = true := by simp; omega
              have hk9a : 9 ≤ k := by omega
              clear hk9
              by_cases h1 : 1 < s[k].toNat
              · go_wp2
                go_ret3
                exact ⟨by rw [← Hun.out, Hd.out, unch_bad k v' _ _ (by omega) (by omega) (.inr ⟨by omega, h1⟩)]; rfl, rfl⟩
              · go_wp2
                go_ret3
                exact ⟨by rw [← Hun.out, Hd.out, unch_last k v' _ _ (by omega) (by omega) (by omega), Hn.out (.inr (by omega)), Nat.mod_eq_of_lt (by omega)]; rfl, rfl⟩
            · have hk9' : ((k : Int) == 9) = false := by simp; omega
              go_wp2
              all_goals
                go_ret3
                exact ⟨by rw [← Hun.out, Hd.out, unch_last k v' _ _ (by omega) (by omega) (by omega), Hn.out (.inl (by omega)), Nat.mod_eq_of_lt (by omega)]; rfl, rfl⟩
      · obtain rfl : k = m := by omega
        go_wp2
        all_goals go_ret3
        all_goals
          refine ⟨?_, rfl⟩
          rw [← Hun.out]
          first
            | (have e : s.data.toList.drop k = [] := List.drop_eq_nil_of_le (by simp; omega)
               rw [e, unch]
               first | (rw [if_pos (by omega)]; rfl) | (rw [if_neg (by omega)]; rfl))
            | (have e : k = 10 := by omega
               rw [e, unch_ten]; rfl)
end Go.Proofs.Ytjnaeoelnmhjfaa

namespace Go.Proofs.Ytjnaeoelnmhjfaa
open Go Go.RowKit

/-- What unch can answer. -/
def UnchOk (i : Nat) (l : List UInt8) (r : Nat × Nat × Nat) : Prop :=
  U64 r.1 ∧ ((r.2.2 = 0 ∧ i + 1 ≤ r.2.1 ∧ r.2.1 ≤ 10 ∧ r.2.1 ≤ i + l.length) ∨ (r.2.2 = 2 ∧ r.1 = 0 ∧ r.2.1 = 0) ∨ (r.2.2 = 3 ∧ r.1 = 0 ∧ r.2.1 = 0))

theorem unch_ok (l : List UInt8) : ∀ (i v : Nat), i ≤ 10 → (i ≤ 9 → v < 128 ^ i) → UnchOk i l (unch i v l) := by
  induction l with
  | nil =>
    intro i v hi _
    rw [unch]
    split
    · exact ⟨by unfold U64; omega, .inr (.inr ⟨rfl, rfl, rfl⟩)⟩
    · exact ⟨by unfold U64; omega, .inr (.inl ⟨rfl, rfl, rfl⟩)⟩
  | cons c r ih =>
    intro i v hi hv
    by_cases h10 : 10 ≤ i
    · obtain rfl : i = 10 := by omega
      rw [unch_ten]
      exact ⟨by unfold U64; omega, .inr (.inr ⟨rfl, rfl, rfl⟩)⟩
    · have hc := c.toNat_lt
      by_cases h : 128 ≤ c.toNat
      · rw [unch_more i v c r (by omega) h]
        have := ih (i + 1) (v + (c.toNat - 128) * 128 ^ i) (by omega) (fun h9 => by
          have h1 := hv (by omega)
          rw [Nat.pow_succ]
          have h2 : (c.toNat - 128) * 128 ^ i ≤ 127 * 128 ^ i := Nat.mul_le_mul_right _ (by omega)
          generalize (c.toNat - 128) * 128 ^ i = p at *
          generalize (128 : Nat) ^ i = q at *
          omega)
        obtain ⟨h1, h2⟩ := this
        refine ⟨h1, ?_⟩
        rcases h2 with ⟨a, b, c1, d⟩ | h2 | h2
        · exact .inl ⟨a, by omega, c1, by simp; omega⟩
        · exact .inr (.inl h2)
        · exact .inr (.inr h2)
      · by_cases hb : (0 < i ∧ c.toNat = 0) ∨ (i = 9 ∧ 1 < c.toNat)
        · rw [unch_bad i v c r (by omega) (by omega) hb]
          exact ⟨by unfold U64; omega, .inr (.inr ⟨rfl, rfl, rfl⟩)⟩
        · rw [unch_last i v c r (by omega) (by omega) hb]
          refine ⟨?_, .inl ⟨rfl, Nat.le_refl _, by simp; omega, by simp⟩⟩
          unfold U64
          have h1 := hv (by omega)
          by_cases h9 : i = 9
          · subst h9
            have : c.toNat ≤ 1 := by omega
            have h2 : c.toNat * 128 ^ 9 ≤ 1 * 128 ^ 9 := Nat.mul_le_mul_right _ this
            simp only
            omega
          · have h2 : c.toNat * 128 ^ i ≤ 127 * 128 ^ i := Nat.mul_le_mul_right _ (by omega)
            have h3 : (128 : Nat) ^ i ≤ 128 ^ 8 := Nat.pow_le_pow_right (by omega) (by omega)
            show v + c.toNat * 128 ^ i < 18446744073709551616
            generalize c.toNat * 128 ^ i = p at *
            generalize (128 : Nat) ^ i = q at *
            omega
theorem unchain_ok (l : List UInt8) : UnchOk 0 l (unchain l) := unch_ok l 0 0 (by omega) (fun _ => by omega)

theorem unch_chain (m : List UInt8) : ∀ (n i a v : Nat), v ≤ n → v * 128 ^ i < 18446744073709551616 → (0 < i → 1 ≤ v) → unch i a (chain v ++ m) = (a + v * 128 ^ i, i + (chain v).length, 0) := by
  intro n
  induction n with
  | zero =>
    intro i a v hn hv hi
    obtain rfl : v = 0 := by omega
    have : i = 0 := by
      by_cases h : i = 0
      · exact h
      · have := hi (by omega); omega
    subst this
    rw [chain_small 0 (by omega)]
    rfl
  | succ n ih =>
    intro i a v hn hv hi
    have hi9 : i ≤ 9 := by
      by_cases h : i ≤ 9
      · exact h
      · have h1 := hi (by omega)
        have h2 : (128 : Nat) ^ 10 ≤ 128 ^ i := Nat.pow_le_pow_right (by omega) (by omega)
        have h3 : 1 * 128 ^ i ≤ v * 128 ^ i := Nat.mul_le_mul_right _ h1
        omega
    by_cases h : v < 128
    · rw [chain_small v h, List.singleton_append]
      have e : (UInt8.ofNat v).toNat = v := by rw [UInt8.toNat_ofNat']; omega
      rw [unch_last i a _ m (by omega) (by omega) ?_, e]
      · simp
      · rw [e]
        rintro (⟨h1, h2⟩ | ⟨h1, h2⟩)
        · have := hi h1; omega
        · subst h1
          have : 2 * 128 ^ 9 ≤ v * 128 ^ 9 := Nat.mul_le_mul_right _ h2
          omega
    · rw [chain_big v (by omega), List.cons_append]
      have e : (UInt8.ofNat (v % 128 + 128)).toNat = v % 128 + 128 := by rw [UInt8.toNat_ofNat']; omega
      rw [unch_more i a _ _ (by omega) (by omega), e]
      have h1 : v / 128 * 128 ^ (i + 1) = v / 128 * 128 * 128 ^ i := by rw [Nat.pow_succ, Nat.mul_assoc, Nat.mul_comm 128]
      have h2 : v / 128 * 128 * 128 ^ i ≤ v * 128 ^ i := Nat.mul_le_mul_right _ (Nat.div_mul_le_self v 128)
      rw [ih (i + 1) _ (v / 128) (by omega) (by omega) (fun _ => by omega)]
      have h3 : v * 128 ^ i = v % 128 * 128 ^ i + v / 128 * 128 * 128 ^ i := by
        rw [← Nat.add_mul]; congr 1; omega
      rw [h1, h3, List.length_cons]
      have h4 : v % 128 + 128 - 128 = v % 128 := by omega
      rw [h4, Nat.add_assoc, show i + 1 + (chain (v / 128)).length = i + ((chain (v / 128)).length + 1) by omega]
theorem unchain_chain (v : Nat) (m : List UInt8) (h : U64 v) : unchain (chain v ++ m) = (v, (chain v).length, 0) := by
  have := unch_chain m v 0 0 v (Nat.le_refl _) (by unfold U64 at h; omega) (fun h => by omega)
  simpa [unchain] using this

theorem chain_unch (l : List UInt8) : ∀ (i a a' n : Nat), unch i a l = (a', n, 0) → ∃ v, a' = a + v * 128 ^ i ∧ (0 < i → 0 < v) ∧ i + 1 ≤ n ∧ chain v = l.take (n - i) := by
  induction l with
  | nil =>
    intro i a a' n h
    rw [unch] at h
    split at h <;> simp at h
  | cons c r ih =>
    intro i a a' n h
    have hc := c.toNat_lt
    by_cases h10 : 10 ≤ i
    · rw [unch, if_pos h10] at h; simp at h
    · by_cases h128 : 128 ≤ c.toNat
      · rw [unch_more i a c r (by omega) h128] at h
        obtain ⟨v, h1, h2, h3, h4⟩ := ih _ _ _ _ h
        have hv := h2 (by omega)
        refine ⟨c.toNat - 128 + 128 * v, ?_, fun _ => by omega, by omega, ?_⟩
        · rw [h1, Nat.pow_succ, Nat.add_mul, Nat.add_assoc]
          congr 2
          rw [Nat.mul_comm (128 ^ i), Nat.mul_comm 128 v, Nat.mul_assoc]
        · rw [chain_big _ (by omega), show (c.toNat - 128 + 128 * v) / 128 = v by omega, show (c.toNat - 128 + 128 * v) % 128 + 128 = c.toNat by omega, h4,
            show n - i = (n - (i + 1)) + 1 by omega, List.take_succ_cons]
          congr 1
          exact UInt8.toNat_inj.1 (by rw [UInt8.toNat_ofNat']; omega)
      · by_cases hb : (0 < i ∧ c.toNat = 0) ∨ (i = 9 ∧ 1 < c.toNat)
        · rw [unch_bad i a c r (by omega) (by omega) hb] at h; simp at h
        · rw [unch_last i a c r (by omega) (by omega) hb] at h
          simp only [Prod.mk.injEq] at h
          obtain ⟨rfl, rfl, _⟩ := h
          refine ⟨c.toNat, rfl, fun h => by omega, Nat.le_refl _, ?_⟩
          rw [chain_small _ (by omega), show i + 1 - i = 1 by omega]
          simp
theorem chain_unchain (l : List UInt8) (v n : Nat) (h : unchain l = (v, n, 0)) : chain v = l.take n := by
  obtain ⟨v', h1, _, _, h4⟩ := chain_unch l 0 0 v n h
  simp at h1
  subst h1
  simpa using h4

/-- A text with its length. -/
def text (l : List UInt8) : List UInt8 := chain l.length ++ l
/-- The text with which some bytes begin: the text, all its bytes, the error's number. -/
def untext (l : List UInt8) (most : Int) : List UInt8 × Nat × Nat :=
  match unchain l with
  | (v, n, e) =>
    if e ≠ 0 then ([], 0, e)
    else if most < 0 ∨ most < (v : Int) then ([], 0, 4)
    else if l.length - n < v then ([], 0, 2)
    else ((l.drop n).take v, n + v, 0)
theorem untext_err (l : List UInt8) (most : Int) (v n e : Nat) (h : unchain l = (v, n, e)) (he : e ≠ 0) : untext l most = ([], 0, e) := by
  simp [untext, h, he]
theorem untext_long (l : List UInt8) (most : Int) (v n : Nat) (h : unchain l = (v, n, 0)) (hm : most < 0 ∨ most < (v : Int)) : untext l most = ([], 0, 4) := by
  simp [untext, h, hm]
theorem untext_short (l : List UInt8) (most : Int) (v n : Nat) (h : unchain l = (v, n, 0)) (hm : ¬ (most < 0 ∨ most < (v : Int))) (hs : l.length - n < v) : untext l most = ([], 0, 2) := by
  unfold untext
  rw [h]
  simp only [ne_eq, not_true_eq_false, if_false]
  rw [if_neg hm, if_pos hs]
theorem untext_yes (l : List UInt8) (most : Int) (v n : Nat) (h : unchain l = (v, n, 0)) (hm : ¬ (most < 0 ∨ most < (v : Int))) (hs : ¬ l.length - n < v) : untext l most = ((l.drop n).take v, n + v, 0) := by
  unfold untext
  rw [h]
  simp only [ne_eq, not_true_eq_false, if_false]
  rw [if_neg hm, if_neg hs]
theorem untext_text (l m : List UInt8) (most : Int) (hl : (l.length : Int) ≤ most) (h64 : U64 l.length) : untext (text l ++ m) most = (l, (text l).length, 0) := by
  have h1 : unchain (text l ++ m) = (l.length, (chain l.length).length, 0) := by
    rw [text, List.append_assoc]; exact unchain_chain _ _ h64
  rw [untext_yes _ _ _ _ h1 (by omega) (by simp [text])]
  simp [text]

end Go.Proofs.Ytjnaeoelnmhjfaa

namespace Go.Proofs.Ytjnaeoelnmhjfaa
open Go.RowKit

def triS (r : List UInt8 × Nat × Nat) : Value := .tuple #[str r.1, .int .i64 (r.2.1 : Int), .int .i64 (r.2.2 : Int)]

theorem ret_triS {s : ByteArray} {l : List UInt8} {n e : Nat} {x y : Int} (h : s.data.toList = l) (hx : Value.int .i64 x = .int .i64 (n : Int)) (hy : y = (e : Int)) :
    Ending.returned (.tuple #[.string s, .int .i64 x, .int .i64 y]) = .returned (triS (l, n, e)) := by
  subst h; rw [hx, hy]; rfl
theorem data_append (a b : ByteArray) : (a ++ b).data.toList = a.data.toList ++ b.data.toList := by simp
theorem data_length (a : ByteArray) : a.data.toList.length = a.size := by simp
theorem extract_list (s : ByteArray) (a b : Nat) : (s.extract a b).data.toList = (s.data.toList.drop a).take (b - a) := by
  rw [ByteArray.data_extract, Array.toList_extract, List.extract_eq_take_drop]

theorem chain_str (V : Nat) (w : World) (hV : U64 V) :
    Calls Try.prog 80 #[.int .u64 V] w fun e w' => ∃ s : ByteArray, s.data.toList = chain V ∧ e = .returned (.string s) ∧ Below w.heap.size w w' :=
  (chain_any V w hV).mono fun _ _ ⟨he, hb⟩ => ⟨⟨(chain V).toArray⟩, rfl, he, hb⟩
theorem rchain_str (V : Nat) (w : World) (hV : U64 V) :
    Calls Try.prog 118 #[.int .u64 V] w fun e w' => ∃ s : ByteArray, s.data.toList = chain V ∧ e = .returned (.string s) ∧ Below w.heap.size w w' :=
  (rchain_any V w hV).mono fun _ _ ⟨he, hb⟩ => ⟨⟨(chain V).toArray⟩, rfl, he, hb⟩

theorem text_any (s : ByteArray) (w : World) (hs : s.size ≤ 140737488351232) :
    Calls Try.prog 81 #[.string s] w fun e w' => e = .returned (str (text s.data.toList)) ∧ Below w.heap.size w w' := by
  have hl := chain_len64 s.size (by unfold U64; omega)
  go_enter Try.func81, Try.ntmps81
  go_wp2_with fail
  refine (chain_str s.size _ (by unfold U64; omega)).mono ?_
  rintro e w' ⟨c, hc, rfl, hb⟩
  have hcl : c.size ≤ 10 := by rw [← data_length, hc]; exact hl
  have Hc := Lib.hid hc
  clear hc hl
  go_wp2
  go_ret
  exact ⟨ret_str (by rw [data_append, Hc.out, text, data_length]), hb⟩

theorem rtext_any (s : ByteArray) (w : World) (hs : s.size ≤ 140737488351232) :
    Calls Try.prog 119 #[.string s] w fun e w' => e = .returned (str (text s.data.toList)) ∧ Below w.heap.size w w' := by
  have hl := chain_len64 s.size (by unfold U64; omega)
  go_enter Try.func119, Try.ntmps119
  go_wp2_with fail
  refine (rchain_str s.size _ (by unfold U64; omega)).mono ?_
  rintro e w' ⟨c, hc, rfl, hb⟩
  have hcl : c.size ≤ 10 := by rw [← data_length, hc]; exact hl
  have Hc := Lib.hid hc
  clear hc hl
  go_wp2
  go_ret
  exact ⟨ret_str (by rw [data_append, Hc.out, text, data_length]), hb⟩

set_option maxRecDepth 100000 in
set_option maxHeartbeats 400000 in
theorem untext_any (s : ByteArray) (most : Int) (w : World) (hs : s.size ≤ 140737488351232) (hm0 : -9223372036854775808 ≤ most) (hm1 : most ≤ 9223372036854775807) :
    Calls Try.prog 152 #[.string s, .int .i64 most] w fun e w' => e = .returned (triS (untext s.data.toList most)) ∧ w = w' := by
  obtain ⟨v, n, e, h⟩ : ∃ v n e, unchain s.data.toList = (v, n, e) := ⟨_, _, _, rfl⟩
  have hok := unchain_ok s.data.toList
  rw [h] at hok
  obtain ⟨hv, hok⟩ := hok
  have hcall : ∀ w, Calls Try.prog 131 #[.string s] w fun e' w' => e' = .returned (.tuple #[.int .u64 (v : Int), .int .i64 (n : Int), .int .i64 (e : Int)]) ∧ w = w' := fun w => by
    have := unchain_any s w (by omega)
    rw [h] at this
    exact this
  have Hcall := Lib.hid hcall
  simp only [data_length] at hok
  have hn : n ≤ 10 := by omega
  clear hcall
  by_cases he : e = 0
  · subst he
    have hns : n ≤ s.size := by omega
    clear hok
    by_cases hlong : most < 0 ∨ most < (v : Int)
    · have Hf := Lib.hid (untext_long _ most _ _ h hlong)
      clear h
      by_cases h1 : most < 0
      · clear hlong
        go_enter Try.func152, Try.ntmps152
        go_wp2_with (go_at_call 131; refine (Hcall.out _).mono ?_; rintro e w' ⟨rfl, rfl⟩)
        go_ret3
        exact ⟨by rw [Hf.out]; rfl, rfl⟩
      · have h2 : most < (v : Int) := by omega
        have hw : IntKind.u64.wrap most = most := by rw [IntKind.wrap_u64]; omega
        clear hlong
        go_enter Try.func152, Try.ntmps152
        go_wp2_with (go_at_call 131; refine (Hcall.out _).mono ?_; rintro e w' ⟨rfl, rfl⟩)
        go_ret3
        exact ⟨by rw [Hf.out]; rfl, rfl⟩
    · have h1 : ¬ most < 0 := by omega
      have h2 : ¬ most < (v : Int) := by omega
      have hw : IntKind.u64.wrap most = most := by rw [IntKind.wrap_u64]; omega
      have hw2 : IntKind.u64.wrap ((s.size : Int) - (n : Int)) = (s.size : Int) - (n : Int) := by rw [IntKind.wrap_u64]; omega
      by_cases hshort : s.size - n < v
      · have Hf := Lib.hid (untext_short _ most _ _ h hlong (by simpa using hshort))
        have hsh : (s.size : Int) - (n : Int) < (v : Int) := by omega
        clear hlong h hshort
        go_enter Try.func152, Try.ntmps152
        go_wp2_with (go_at_call 131; refine (Hcall.out _).mono ?_; rintro e w' ⟨rfl, rfl⟩)
        go_ret3
        exact ⟨by rw [Hf.out]; rfl, rfl⟩
      · have Hf := Lib.hid (untext_yes _ most _ _ h hlong (by simpa using hshort))
        have hsh : ¬ (s.size : Int) - (n : Int) < (v : Int) := by omega
        have hall : n + v ≤ s.size := by omega
        clear hlong h hshort
        go_enter Try.func152, Try.ntmps152
        go_wp2_with (go_at_call 131; refine (Hcall.out _).mono ?_; rintro e w' ⟨rfl, rfl⟩)
        go_ret3
        exact ⟨by rw [Hf.out]; exact ret_triS (by rw [extract_list, show n + v - n = v by omega]) (by go_num) rfl, rfl⟩
  · have hef : ((e : Int) != 0) = true := by rw [bne_iff_ne]; omega
    have Hf := Lib.hid (untext_err _ most _ _ _ h he)
    clear h he hok
    go_enter Try.func152, Try.ntmps152
    go_wp2_with (go_at_call 131; refine (Hcall.out _).mono ?_; rintro e w' ⟨rfl, rfl⟩)
    go_ret3
    exact ⟨by rw [Hf.out]; rfl, rfl⟩
end Go.Proofs.Ytjnaeoelnmhjfaa

namespace Go.Proofs.Ytjnaeoelnmhjfaa
open Go Go.RowKit

/-- A number as n bytes, the highest first. -/
def be : Nat → Nat → List UInt8
  | 0, _ => []
  | n + 1, v => be n (v / 256) ++ [UInt8.ofNat (v % 256)]
/-- The number of some bytes. -/
def num : List UInt8 → Nat := fun l => l.foldl (fun v c => v * 256 + c.toNat) 0
def number (l : List UInt8) : Nat × Nat := if l.length < 1 ∨ 8 < l.length then (0, 1) else (num l, 0)
end Go.Proofs.Ytjnaeoelnmhjfaa

set_option linter.unusedSimpArgs false
set_option linter.unusedVariables false
namespace Go.Proofs.Ytjnaeoelnmhjfaa
open Go Go.RowKit

section



def chainI (x : Int) : List UInt8 := chain x.toNat
theorem chainI_len (x : Int) (h0 : 0 ≤ x) (h1 : x < 18446744073709551616) : (chainI x).length ≤ 10 ∧ 1 ≤ (chainI x).length := ⟨chain_len64 _ (by unfold U64; omega), chain_pos _⟩
theorem Xw (x : Int) (h0 : 0 ≤ x) (h1 : x < 18446744073709551616) : Ct Try.prog 80 [.int .u64 x] [] [] (fun v post => v = .string (bs (chainI x)) ∧ post = []) :=
  ct_below (fun w => by
    have := chain_any x.toNat w (by unfold U64; omega)
    rw [Int.toNat_of_nonneg h0] at this
    exact this)
theorem ct_rchain (x : Int) (h0 : 0 ≤ x) (h1 : x < 18446744073709551616) : Ct Try.prog 118 [.int .u64 x] [] [] (fun v post => v = .string (bs (chainI x)) ∧ post = []) :=
  ct_below (fun w => by
    have := rchain_any x.toNat w (by unfold U64; omega)
    rw [Int.toNat_of_nonneg h0] at this
    exact this)
theorem ct_text (l : List UInt8) (h : l.length ≤ 140737488351232) : Ct Try.prog 81 [.string (bs l)] [] [] (fun v post => v = .string (bs (text l)) ∧ post = []) :=
  ct_below (fun w => text_any (bs l) w (by rw [bs_size]; omega))
theorem ct_rtext (l : List UInt8) (h : l.length ≤ 140737488351232) : Ct Try.prog 119 [.string (bs l)] [] [] (fun v post => v = .string (bs (text l)) ∧ post = []) :=
  ct_below (fun w => rtext_any (bs l) w (by rw [bs_size]; omega))
theorem text_len (l : List UInt8) (h : l.length ≤ 140737488351232) : (text l).length ≤ l.length + 10 := by
  have := chain_len64 l.length (by unfold U64; omega)
  unfold text
  rw [List.length_append]
  omega

end
end Go.Proofs.Ytjnaeoelnmhjfaa

set_option linter.unusedSimpArgs false
set_option linter.unusedVariables false
namespace Go.Proofs.Ytjnaeoelnmhjfaa
open Go Go.RowKit

-- literals
/-- A slice's value. -/
def sv (ob : Option Nat) (off n cap : Nat) : Value := .slice (ob.map fun b => ⟨b, off, none⟩) n cap
/-- What a slice shows. -/
structure Sees (sz : Nat) (ob : Option Nat) (off cap : Nat) (cs : Array Value) (xs : List Value) (n : Nat) : Prop where
  len : xs.length = n * sz
  le : n ≤ cap
  max : cap ≤ 9223372036854775807
  part : (cs.toList.drop off).take (n * sz) = xs
  isNil : ob = none → cap = 0
theorem Own.sees {sz : Nat} {u : Sl} {xs : List Value} {n : Nat} (h : Own sz u xs n) : Sees sz u.ob 0 u.cap u.cs xs n := ⟨h.len, h.le, h.max, by simpa using h.pre, h.isNil⟩
theorem Sees.isSome {sz : Nat} {ob : Option Nat} {off cap : Nat} {cs : Array Value} {xs : List Value} {n : Nat} (h : Sees sz ob off cap cs xs n) (hn : 0 < n) : ∃ b, ob = some b := by
  cases hu : ob with
  | some b => exact ⟨b, rfl⟩
  | none => have := h.isNil hu; have := h.le; omega
theorem Sees.at {sz : Nat} {ob : Option Nat} {off cap : Nat} {cs : Array Value} {xs : List Value} {n : Nat} (h : Sees sz ob off cap cs xs n) {i : Nat} {v : Value} (hv : xs[i]? = some v) : cs[off + i]? = some v := by
  have h1 : i < n * sz := by rw [← h.len]; exact (List.getElem?_eq_some_iff.1 hv).1
  rw [← h.part, List.getElem?_take, if_pos h1, List.getElem?_drop] at hv
  simpa using hv
theorem flat_len {α : Type} (f : α → List Value) {sz : Nat} (hf : ∀ a, (f a).length = sz) : ∀ l : List α, (l.flatMap f).length = l.length * sz
  | [] => by simp
  | a :: l => by simp [hf, flat_len f hf l, Nat.add_mul]; omega
theorem flat_at {α : Type} (f : α → List Value) {sz : Nat} (hf : ∀ a, (f a).length = sz) : ∀ (l : List α) (i : Nat) (a : α), l[i]? = some a → ((l.flatMap f).drop (i * sz)).take sz = f a
  | [], i, a, h => by simp at h
  | x :: l, 0, a, h => by
    simp at h
    subst h
    simp only [List.flatMap_cons, Nat.zero_mul, List.drop_zero]
    rw [← hf x]
    exact List.take_left
  | x :: l, i + 1, a, h => by
    have ih := flat_at f hf l i a (by simpa using h)
    have e : (i + 1) * sz = (f x).length + i * sz := by rw [hf, Nat.add_mul]; omega
    rw [List.flatMap_cons, e, ← List.drop_drop, List.drop_left]
    exact ih
theorem flat_part {α : Type} (f : α → List Value) {sz : Nat} (hf : ∀ a, (f a).length = sz) (l : List α) {i : Nat} {a : α} (ha : l[i]? = some a) (k : Nat) : (l.flatMap f)[i * sz + k]? = if k < sz then (f a)[k]? else (l.flatMap f)[i * sz + k]? := by
  split
  · rename_i hk
    rw [← flat_at f hf l i a ha, List.getElem?_take, if_pos hk, List.getElem?_drop]
  · rfl
/-- An element, whole. -/
theorem Sees.elem {α : Type} {f : α → List Value} {sz : Nat} {ob : Option Nat} {off cap : Nat} {cs : Array Value} {l : List α} (h : Sees sz ob off cap cs (l.flatMap f) l.length) (hf : ∀ a, (f a).length = sz) {i : Nat} {a : α} (ha : l[i]? = some a) :
    cs.extract (off + i * sz) (off + i * sz + sz) = (f a).toArray := by
  apply Array.toList_inj.1
  have hi : i < l.length := (List.getElem?_eq_some_iff.1 ha).1
  have e1 : (i + 1) * sz ≤ l.length * sz := Nat.mul_le_mul_right _ hi
  rw [Nat.add_mul, Nat.one_mul] at e1
  have h1 := flat_at f hf l i a ha
  rw [← h.part, List.drop_take, List.take_take, List.drop_drop, Nat.min_eq_left (by omega)] at h1
  rw [Array.toList_extract, List.extract_eq_take_drop, ← h1]
  congr 1
  omega
theorem Sees.cell {α : Type} {f : α → Value} {ob : Option Nat} {off cap : Nat} {cs : Array Value} {l : List α} (h : Sees 1 ob off cap cs (l.map f) l.length) {i : Nat} {a : α} (ha : l[i]? = some a) : cs[off + i * 1]? = some (f a) := by
  rw [Nat.mul_one]
  exact h.at (by simp [ha])
theorem Xv {α : Type} {l : List α} {i : Nat} (h : i < l.length) : ∃ a, l[i]? = some a := ⟨_, List.getElem?_eq_getElem h⟩

end Go.Proofs.Ytjnaeoelnmhjfaa

set_option linter.unusedSimpArgs false
set_option linter.unusedVariables false
namespace Go.Proofs.Ytjnaeoelnmhjfaa
open Go Go.RowKit

section
variable {c : Cx} {n : Nat} {env : List (Nat × Value)} {L : List (Option Nat × Obj)} {k : List Item} {o : Oper}
theorem N_build0 {t e : TypeId} {ti : TypeInfo} (hop : o.op = .buildSlice t 0 #[]) (hu : c.P.underlying t = some (.slice e)) (hi : c.P.info? e = some ti) :
    New c n env L o (fun b => .slice (some ⟨b, 0, none⟩) 0 0) (.cells #[] e (0, 0)) := fun a w hk _ => by
  simp only [execOp, hop]
  simp [Instr.buildSlice, run_underlying hu, sizeOf, typeInfo, hi, newRow, Instr.fill]
  exact congrArg (fun x => w.alloc (Obj.cells x e)) (by simp)
/-- A call of a function value that has its first arguments. -/
theorem G_callB {ops : Array Oper} {i : Nat} {rest : List Nat} {d : Nat} {g : FuncId} {x : Operand} {xs : Array Operand} {ts : Array TypeId} {us args vs : List Value} {A' L' L2 : List (Option Nat × Obj)} {R' : Value → List (Option Nat × Obj) → Prop}
    (ho : ops[i]? = some o) (hd : o.dst = some d) (hn : Nat.blt d n = true) (hg : fguard ops env o = some true) (hop : o.op = .call ⟨.value x, xs, ts⟩) (hxs : fevs env xs.toList = some args)
    (hcf : ∀ (az : Array Value) w, (callFunc g az).run c.P w = .ok (.enter g az) w) (hfn : fev env x = some (.func (.func g) us.toArray vs.toArray)) (hct : Ct c.P g (us ++ args ++ vs) A' L' R') (is js : List Nat) (hL : tk is L = some (L', L2)) (hA : pk js (c.A ++ L2) = some A')
    (K : ∀ v post, R' v post → G c n ((d, v) :: env) (post ++ L2) (.inRegion ops rest :: k)) : G c n env L (.inRegion ops (i :: rest) :: k) := by
  intro a w hk hm
  refine goes_op ho (Xt hk hg) ?_
  have hx : xs.map a.eval = args.toArray := by
    apply Array.toList_inj.1
    simpa using hk.evals hxs
  have hr : (execOp a.eval o).run c.P w = .ok (.enter g (us ++ args ++ vs).toArray) w := by
    unfold execOp
    simp only [hop, resolve, hk.eval hfn, hx]
    simp [Deferred.ofValue, invoke, hcf]
  rw [hr, Oper.upon_enter]
  refine (hct w (hm.has_call hL hA)).mono fun e w' ⟨v, post, he, hR, hp⟩ => ?_
  subst he
  simp only [hd]
  exact K v post hR _ w' (hk.put hn v) (hm.call hL hA hp)

/-- A map's entries, as they were laid. -/
def entries (q : IntKind) : List (Int × Value) → Nat → List MapEntry
  | [], _ => []
  | (k, v) :: r, i => ⟨.int q k, v, i⟩ :: entries q r (i + 1)
/-- Operations that lay entries into one map. -/
def InsAll (ops : Array Oper) (env : List (Nat × Value)) (t : TypeId) (b : Nat) (q : IntKind) : List (Nat × Int × Value) → Prop
  | [] => True
  | (i, k, v) :: r => (∃ (o : Oper) (x y z : Operand), ops[i]? = some o ∧ o.dst = none ∧ fguard ops env o = some true ∧ o.op = .insert t x y z ∧ fev env x = some (.map (some b)) ∧ fev env y = some (.int q k) ∧ fev env z = some v) ∧ InsAll ops env t b q r
theorem InsAll.mem {ops : Array Oper} {env : List (Nat × Value)} {t : TypeId} {b : Nat} {q : IntKind} : ∀ {l : List (Nat × Int × Value)}, InsAll ops env t b q l → ∀ p ∈ l, ∃ (o : Oper) (x y z : Operand), ops[p.1]? = some o ∧ o.dst = none ∧ fguard ops env o = some true ∧ o.op = .insert t x y z ∧ fev env x = some (.map (some b)) ∧ fev env y = some (.int q p.2.1) ∧ fev env z = some p.2.2
  | [], _, p, hp => by cases hp
  | (i, k, v) :: r, h, p, hp => by
    rcases List.mem_cons.1 hp with rfl | hp
    · exact h.1
    · exact InsAll.mem h.2 p hp
theorem own_empty (sz b : Nat) : Own sz ⟨some b, #[], (0, 0), 0⟩ [] 0 := ⟨by simp, Nat.le_refl _, by simp, by simp, by simp, by simp, fun h => by cases h⟩

variable {ops : Array Oper} {Lq : List (Option Nat × Obj)} {fuel : Nat} {listed : Array Bool}
theorem Xf {i : Nat} {d m nn sz bt : Nat} {x y : Operand} {t u e ty : TypeId} {ds : TypeDesc} {ps : String} {es : Array Edge} {gd : Option (Nat × Bool)} {ti : TypeInfo} {z xv : Value} {s : Sl} {xs news : List Value} {l1 l2 : List (Option Nat × Obj)}
    (ho : ops[i]? = some o) (hop : o = ⟨some d, .call ⟨.builtin .append, #[x, y], #[t, u]⟩, ty, ps, es, gd⟩) (hn : Nat.blt d n = true) (hg : fguard ops env o = some true)
    (ht : c.P.underlying t = some (.slice e)) (hu : c.P.underlying u = some ds) (hds : ds = .string ∨ ∃ e', ds = .slice e') (hi : c.P.info? e = some ti) (hz : ti.zero = some z) (hsz : ti.size = sz) (hzs : z.cells.size = sz) (hbt : ti.bytes = bt)
    (hx : fev env x = some (s.v nn)) (hy : fev env y = some xv) (hown : Own sz s xs nn) (hL : L = l1 ++ (s.ob, .cells s.cs e s.fz) :: l2) (hS : ∀ w, Has w c.A L → Src c.P w sz xv m news)
    (h63 : nn + m ≤ 9223372036854775807) (hbytes : (nn + m) * bt ≤ 140737488355328)
    (isq : List Nat) (hq : ∀ s' : Sl, ∃ M, tk isq (l1 ++ (s'.ob, .cells s'.cs e s'.fz) :: l2) = some (Lq, M))
    (h : ∀ s' : Sl, Own sz s' (xs ++ news) (nn + m) → More s s' → GH c n ops Lq fuel (listed.setIfInBounds i true) ((d, s'.v (nn + m)) :: env) (l1 ++ (s'.ob, .cells s'.cs e s'.fz) :: l2) k) : GHop c n ops Lq fuel listed env L k i := by
  intro a w hk hm hw
  subst hop
  refine ghop_of ho (Xt hk hg) ?_
  obtain ⟨s', w', hr, h1, h2, h3, h4, h5⟩ := run_append_any (P := c.P) w t u ty e ds ti z sz ht hu hds hi hz hsz hzs s xs nn hown (fun b hb => hm.lies (by rw [hL, ← hb]; simp)) xv m news (hS w hm.has) h63 (by rw [hbt]; exact hbytes)
  have hrun : (execOp a.eval ⟨some d, .call ⟨.builtin .append, #[x, y], #[t, u]⟩, ty, ps, es, gd⟩).run c.P w = .ok (.value (s'.v (nn + m))) w' := by
    unfold execOp
    simp only [resolve, invoke, builtin, Sem.run_bind, Sem.run_pure, Result.andThen_ok, List.map_toArray, List.map_cons, List.map_nil, hk.eval hx, hk.eval hy, hr]
  rw [hrun, Oper.upon_value]
  subst hL
  have hm' := hm.grown h2 h3 h4
  obtain ⟨M', hM⟩ := hq s'
  exact ⟨hs_of hm' hM, h s' h1 h5 _ w' (hk.put hn _) hm' (hs_of hm' hM)⟩
end

-- lists of texts
theorem Ys {α : Type} {f : α → List Value} {sz : Nat} {ob : Option Nat} {off cap : Nat} {cs : Array Value} {l : List α} (h : Sees sz ob off cap cs (l.flatMap f) l.length) (hf : ∀ a, (f a).length = sz) {i : Nat} {a : α} (ha : l[i]? = some a) (k : Nat) (hk : k < sz) {v : Value} (hv : (f a)[k]? = some v) :
    cs[off + i * sz + k]? = some v := by
  have h1 := flat_part f hf l ha k
  rw [if_pos hk, hv] at h1
  have h2 := h.at h1
  rwa [← Nat.add_assoc] at h2
end Go.Proofs.Ytjnaeoelnmhjfaa

set_option linter.unusedSimpArgs false
set_option linter.unusedVariables false
namespace Go.Proofs.Ytjnaeoelnmhjfaa
open Go Go.RowKit

section
variable {c : Cx} {n : Nat} {env : List (Nat × Value)} {L : List (Option Nat × Obj)} {o : Oper}
end
end Go.Proofs.Ytjnaeoelnmhjfaa

set_option linter.unusedSimpArgs false
set_option linter.unusedVariables false
namespace Go.Proofs.Ytjnaeoelnmhjfaa
open Go Go.RowKit

section
variable {c : Cx} {n : Nat} {env : List (Nat × Value)} {L : List (Option Nat × Obj)} {k : List Item} {o : Oper}

end

end Go.Proofs.Ytjnaeoelnmhjfaa

set_option linter.unusedSimpArgs false
set_option linter.unusedVariables false
namespace Go.Proofs.Ytjnaeoelnmhjfaa
open Go Go.RowKit

section
variable {c : Cx} {n : Nat} {env : List (Nat × Value)} {L : List (Option Nat × Obj)} {o : Oper}
theorem V_aindexAddr {x y : Operand} {t e : TypeId} {m : Nat} {ti : TypeInfo} {q : IntKind} {b off s : Nat} {z : Int} (hop : o.op = .indexAddr t x y) (hu : c.P.underlying t = some (.array m e)) (hs : c.P.info? e = some ti) (hz : ti.size = s) (hx : fev env x = some (.pointer (some ⟨b, off, none⟩))) (hy : fev env y = some (.int q z)) (h0 : 0 ≤ z) (h1 : z < (m : Int)) :
    Val c n env L o (.pointer (some ⟨b, off + z.toNat * s, none⟩)) := fun a w hk _ => by
  subst hz
  simp [execOp, hop, hk.eval hx, hk.eval hy, Instr.indexAt, run_underlying hu, asIntOf, h0, h1, sizeOf, typeInfo, hs, Addr.add_lit, Instr.sureAddr]
end
end Go.Proofs.Ytjnaeoelnmhjfaa

set_option linter.unusedSimpArgs false
set_option linter.unusedVariables false
namespace Go.Proofs.Ytjnaeoelnmhjfaa
open Go Go.RowKit

section
variable {c : Cx} {l n : Nat} {env : List (Nat × Value)} {L : List (Option Nat × Obj)} {k : List Item}
theorem Mem.callP {w0 w w' : World} {A L L' L2 post : List (Option Nat × Obj)} {S : List Nat} (h : Mem w0 A S L w) (p1 : L.Perm (L' ++ L2))
    (hp : Mem w [] (hkeys L') post w') : Mem w0 A S (post ++ L2) w' := by
  have h' : Mem w0 A S (L' ++ L2) w := ⟨h.has.perm p1, fun b o hm => h.own b o (p1.mem_iff.2 hm), h.chg⟩
  have ht : tk (List.replicate L'.length 0) (L' ++ L2) = some (L', L2) := by
    clear h h' p1 hp
    induction L' with
    | nil => rfl
    | cons x L' ih => simp [List.replicate_succ, tk, ih]
  exact h'.call ht (js := []) (A' := []) rfl hp
theorem Mem.has_callP {w0 w : World} {A L A' L' L2 : List (Option Nat × Obj)} {S : List Nat} (h : Mem w0 A S L w) (p1 : L.Perm (L' ++ L2)) (hmem : ∀ x ∈ A', x ∈ A ++ L2) : Has w A' L' := by
  have hb : Has w A (L' ++ L2) := h.has.perm p1
  have pw2 := List.pairwise_append.1 hb.apart
  refine ⟨fun b o hm => ?_, pw2.1, fun b o hm => hb.lies b o (List.mem_append_left _ hm), fun x hx y hy => ?_⟩
  · rcases List.mem_append.1 (hmem _ hm) with hm | hm
    · exact hb.liesA b o hm
    · exact hb.lies b o (List.mem_append_right _ hm)
  · rcases List.mem_append.1 (hmem _ hx) with hx | hx
    · exact hb.cross x hx y (List.mem_append_left _ hy)
    · exact (pw2.2.2 y hy x hx).symm

end
end Go.Proofs.Ytjnaeoelnmhjfaa

set_option linter.unusedSimpArgs false
set_option linter.unusedVariables false
namespace Go.Proofs.Ytjnaeoelnmhjfaa
open Go Go.RowKit

theorem Yd {M : List (Option Nat × Obj)} : ∀ x ∈ ([] : List (Option Nat × Obj)), x ∈ M := fun _ h => by cases h
theorem Yb {M A : List (Option Nat × Obj)} {x : Option Nat × Obj} (hx : x ∈ M) (h : ∀ y ∈ A, y ∈ M) : ∀ y ∈ x :: A, y ∈ M := fun y hy => by
  rcases List.mem_cons.1 hy with e | hy
  · subst e; exact hx
  · exact h y hy
section
variable {c : Cx} {n : Nat} {env : List (Nat × Value)} {L : List (Option Nat × Obj)} {k : List Item}
theorem Yn {ops : Array Oper} {i : Nat} {rest : List Nat} {o : Oper} {d : Nat} {g : FuncId} {xs : Array Operand} {ts : Array TypeId} {args : List Value} {A' L' L2 : List (Option Nat × Obj)} {R' : Value → List (Option Nat × Obj) → Prop}
    (ho : ops[i]? = some o) (hd : o.dst = some d) (hn : Nat.blt d n = true) (hg : fguard ops env o = some true) (hop : o.op = .call ⟨.value (.func g), xs, ts⟩) (hxs : fevs env xs.toList = some args)
    (hcf : ∀ (az : Array Value) w, (callFunc g az).run c.P w = .ok (.enter g az) w) (hct : Ct c.P g args A' L' R') (is : List Nat) (hL : tk is L = some (L', L2)) (hA : ∀ x ∈ A', x ∈ c.A ++ L2)
    (K : ∀ v post, R' v post → G c n ((d, v) :: env) (post ++ L2) (.inRegion ops rest :: k)) : G c n env L (.inRegion ops (i :: rest) :: k) := by
  intro a w hk hm
  refine goes_op ho (Xt hk hg) ?_
  have hx : xs.map a.eval = args.toArray := by
    apply Array.toList_inj.1
    simpa using hk.evals hxs
  have hr : (execOp a.eval o).run c.P w = .ok (.enter g args.toArray) w := by
    unfold execOp
    simp [hop, resolve, Act.eval, Deferred.ofValue, hx, invoke, hcf]
  rw [hr, Oper.upon_enter]
  refine (hct w (hm.has_callP (tk_perm hL) hA)).mono fun e w' ⟨v, post, he, hR, hp⟩ => ?_
  subst he
  simp only [hd]
  exact K v post hR _ w' (hk.put hn v) (hm.callP (tk_perm hL) hp)
end
end Go.Proofs.Ytjnaeoelnmhjfaa

set_option linter.unusedSimpArgs false
set_option linter.unusedVariables false
namespace Go.Proofs.Ytjnaeoelnmhjfaa
open Go Go.RowKit

section
variable {c : Cx} {n : Nat} {env : List (Nat × Value)} {L : List (Option Nat × Obj)} {k : List Item}
theorem G_perm {todo : List Item} {L' : List (Option Nat × Obj)} (hp : L.Perm L') (h : G c n env L' todo) : G c n env L todo :=
  fun a w hk hm => h a w hk (hm.sub (L' := L') (R := []) (by simpa using hp))
/-- What is kept: some blocks by their places, and of the others those of a list. -/
theorem Xy {todo : List Item} {e : List (Nat × Value)} {L1 T : List (Option Nat × Obj)} (he : FSub e env) (is : List Nat) (hl : ∃ M R, tk is L = some (L1, M) ∧ M.Perm (T ++ R)) (h : G c n e (L1 ++ T) todo) : G c n env L todo :=
  let ⟨_, _, hl, hp⟩ := hl
  fun a w hk hm => h a w (hk.sub he) (hm.sub (R := _) ((tk_perm hl).trans (by
    rw [List.append_assoc]
    exact hp.append_left _)))
theorem G_loop1 {body : Code} (h : G c n env L (.code body :: .inLoop body :: k)) : G c n env L (.code (.loop body) :: k) := fun a w hk hm => goes_of (fun _ _ => step_loop) (h a w hk hm)
theorem G_retT {fn : Func} {rs : List ResultVar} {vs : List Value} {p1 T : List (Option Nat × Obj)} (hf : c.P.funcs[c.f]? = some fn) (hr : fn.results = rs.toArray)
    (hv : RVs c n env L rs vs) (is : List Nat) (hl : ∃ M R, tk is L = some (p1, M) ∧ M.Perm (T ++ R)) (hR : c.R (packed vs) (p1 ++ T)) (hds : c.ds = [] := by rfl) : G c n env L (.code .ret :: k) := by
  obtain ⟨M, R, hl, hp⟩ := hl
  intro a w hk hm b hb hkind cs
  have h3 := goes_ret (post := p1 ++ T) hr hv hk hm
  have hm' : Mem c.w0 c.A c.S (p1 ++ T) w := hm.sub (R := R) ((tk_perm hl).trans (by rw [List.append_assoc]; exact hp.append_left _))
  exact ⟨packed vs, p1 ++ T, w, _, hR, hm'.dropA, .one step_ret, hb, rfl, hk.defers.trans hds, hkind, fn, by rw [← hf, ← hb]; rfl, h3⟩
theorem G_callMC {ops : Array Oper} {i : Nat} {rest : List Nat} {o : Oper} {d : Nat} {g : FuncId} {x : Operand} {xs : Array Operand} {ts : Array TypeId} {args vs : List Value} {A' L' L2 : List (Option Nat × Obj)} {R' : Value → List (Option Nat × Obj) → Prop}
    (ho : ops[i]? = some o) (hd : o.dst = some d) (hn : Nat.blt d n = true) (hg : fguard ops env o = some true) (hop : o.op = .call ⟨.value x, xs, ts⟩) (hxs : fevs env xs.toList = some args)
    (hcf : ∀ (az : Array Value) w, (callFunc g az).run c.P w = .ok (.enter g az) w) (hfn : fev env x = some (.func (.func g) #[] vs.toArray)) (hct : Ct c.P g (args ++ vs) A' L' R') (is : List Nat) (hL : tk is L = some (L', L2)) (hA : ∀ x ∈ A', x ∈ c.A ++ L2)
    (K : ∀ v post, R' v post → G c n ((d, v) :: env) (post ++ L2) (.inRegion ops rest :: k)) : G c n env L (.inRegion ops (i :: rest) :: k) := by
  intro a w hk hm
  refine goes_op ho (Xt hk hg) ?_
  have hx : xs.map a.eval = args.toArray := by
    apply Array.toList_inj.1
    simpa using hk.evals hxs
  have hr : (execOp a.eval o).run c.P w = .ok (.enter g (args ++ vs).toArray) w := by
    unfold execOp
    simp only [hop, resolve, hk.eval hfn, hx]
    simp [Deferred.ofValue, invoke, hcf]
  rw [hr, Oper.upon_enter]
  refine (hct w (hm.has_callP (tk_perm hL) hA)).mono fun e w' ⟨v, post, he, hR, hp⟩ => ?_
  subst he
  simp only [hd]
  exact K v post hR _ w' (hk.put hn v) (hm.callP (tk_perm hL) hp)
theorem Xq {ops : Array Oper} {Lq : List (Option Nat × Obj)} {fuel : Nat} {listed : Array Bool} {o : Oper} {i d : Nat} {g : FuncId} {xs : Array Operand} {ts : Array TypeId} {args : List Value} {A' L' L2 : List (Option Nat × Obj)} {R' : Value → List (Option Nat × Obj) → Prop}
    (ho : ops[i]? = some o) (hd : o.dst = some d) (hn : Nat.blt d n = true) (hg : fguard ops env o = some true) (hop : o.op = .call ⟨.value (.func g), xs, ts⟩) (hxs : fevs env xs.toList = some args)
    (hcf : ∀ (az : Array Value) w, (callFunc g az).run c.P w = .ok (.enter g az) w) (hct : Ct c.P g args A' L' R') (is : List Nat) (hL : tk is L = some (L', L2)) (hA : ∀ x ∈ A', x ∈ c.A ++ L2)
    (isq : List Nat) (hq : ∀ v post, R' v post → ∃ M, tk isq (post ++ L2) = some (Lq, M)) (K : ∀ v post, R' v post → GH c n ops Lq fuel (listed.setIfInBounds i true) ((d, v) :: env) (post ++ L2) k) : GHop c n ops Lq fuel listed env L k i := by
  intro a w hk hm hw
  refine ghop_of ho (Xt hk hg) ?_
  have hx : xs.map a.eval = args.toArray := by
    apply Array.toList_inj.1
    simpa using hk.evals hxs
  have hr : (execOp a.eval o).run c.P w = .ok (.enter g args.toArray) w := by
    unfold execOp
    simp [hop, resolve, Act.eval, Deferred.ofValue, hx, invoke, hcf]
  rw [hr, Oper.upon_enter]
  refine (hct w (hm.has_callP (tk_perm hL) hA)).mono fun e w' ⟨v, post, he, hR, hp⟩ => ?_
  subst he
  simp only [hd]
  have hm' := hm.callP (tk_perm hL) hp
  obtain ⟨M', hM⟩ := hq v post hR
  exact ⟨hs_of hm' hM, K v post hR _ w' (hk.put hn v) hm' (hs_of hm' hM)⟩
end
theorem perm_in {α : Type} (P F T T' : List α) : ((P ++ T') ++ (F ++ T)).Perm (P ++ F ++ (T' ++ T)) := by
  rw [List.append_assoc, List.append_assoc]
  refine List.Perm.append_left P ?_
  rw [← List.append_assoc, ← List.append_assoc]
  exact List.Perm.append_right T List.perm_append_comm
theorem perm_in0 {α : Type} (P F T' : List α) : ((P ++ T') ++ F).Perm (P ++ F ++ T') := by
  rw [List.append_assoc, List.append_assoc]
  exact List.Perm.append_left P List.perm_append_comm
end Go.Proofs.Ytjnaeoelnmhjfaa

set_option linter.unusedSimpArgs false
set_option linter.unusedVariables false
namespace Go.Proofs.Ytjnaeoelnmhjfaa
open Go Go.RowKit
section
variable {P : Program}
end
section
variable {c : Cx} {n : Nat} {env : List (Nat × Value)} {L : List (Option Nat × Obj)} {o : Oper}
end
end Go.Proofs.Ytjnaeoelnmhjfaa

set_option linter.unusedSimpArgs false
set_option linter.unusedVariables false
namespace Go.Proofs.Ytjnaeoelnmhjfaa
open Go Go.RowKit

section
variable {c : Cx} {n : Nat} {env : List (Nat × Value)} {L : List (Option Nat × Obj)} {k : List Item}
theorem G_callMB {ops : Array Oper} {i : Nat} {rest : List Nat} {o : Oper} {d : Nat} {g : FuncId} {x : Operand} {xs : Array Operand} {ts : Array TypeId} {us args vs : List Value} {A' L' L2 : List (Option Nat × Obj)} {R' : Value → List (Option Nat × Obj) → Prop}
    (ho : ops[i]? = some o) (hd : o.dst = some d) (hn : Nat.blt d n = true) (hg : fguard ops env o = some true) (hop : o.op = .call ⟨.value x, xs, ts⟩) (hxs : fevs env xs.toList = some args)
    (hcf : ∀ (az : Array Value) w, (callFunc g az).run c.P w = .ok (.enter g az) w) (hfn : fev env x = some (.func (.func g) us.toArray vs.toArray)) (hct : Ct c.P g (us ++ args ++ vs) A' L' R') (is : List Nat) (hL : tk is L = some (L', L2)) (hA : ∀ x ∈ A', x ∈ c.A ++ L2)
    (K : ∀ v post, R' v post → G c n ((d, v) :: env) (post ++ L2) (.inRegion ops rest :: k)) : G c n env L (.inRegion ops (i :: rest) :: k) := by
  intro a w hk hm
  refine goes_op ho (Xt hk hg) ?_
  have hx : xs.map a.eval = args.toArray := by
    apply Array.toList_inj.1
    simpa using hk.evals hxs
  have hr : (execOp a.eval o).run c.P w = .ok (.enter g (us ++ args ++ vs).toArray) w := by
    unfold execOp
    simp only [hop, resolve, hk.eval hfn, hx]
    simp [Deferred.ofValue, invoke, hcf]
  rw [hr, Oper.upon_enter]
  refine (hct w (hm.has_callP (tk_perm hL) hA)).mono fun e w' ⟨v, post, he, hR, hp⟩ => ?_
  subst he
  simp only [hd]
  exact K v post hR _ w' (hk.put hn v) (hm.callP (tk_perm hL) hp)
end
end Go.Proofs.Ytjnaeoelnmhjfaa

set_option linter.unusedSimpArgs false
set_option linter.unusedVariables false
namespace Go.Proofs.Ytjnaeoelnmhjfaa
open Go Go.RowKit

section
variable {c : Cx} {n : Nat} {env : List (Nat × Value)} {L : List (Option Nat × Obj)} {k : List Item}
theorem G_endT {fn : Func} {rs : List ResultVar} {vs : List Value} {p1 T : List (Option Nat × Obj)} (hf : c.P.funcs[c.f]? = some fn) (hr : fn.results = rs.toArray)
    (hv : RVs c n env L rs vs) (is : List Nat) (hl : ∃ M R, tk is L = some (p1, M) ∧ M.Perm (T ++ R)) (hR : c.R (packed vs) (p1 ++ T)) (hds : c.ds = [] := by rfl) : G c n env L [] := by
  obtain ⟨M, R, hl, hp⟩ := hl
  intro a w hk hm b hb hkind cs
  have h3 := goes_ret (post := p1 ++ T) hr hv hk hm
  have hm' : Mem c.w0 c.A c.S (p1 ++ T) w := hm.sub (R := R) ((tk_perm hl).trans (by rw [List.append_assoc]; exact hp.append_left _))
  exact ⟨packed vs, p1 ++ T, w, _, hR, hm'.dropA, .one step_end, hb, rfl, hk.defers.trans hds, hkind, fn, by rw [← hf, ← hb]; rfl, h3⟩
theorem GH_perm {ops : Array Oper} {Lq L' : List (Option Nat × Obj)} {fuel : Nat} {listed : Array Bool} (hp : L.Perm L') (h : GH c n ops Lq fuel listed env L' k) : GH c n ops Lq fuel listed env L k :=
  fun a w hk hm hw => h a w hk (hm.sub (L' := L') (R := []) (by simpa using hp)) hw
/-- A call in a drawn region, that leaves blocks of unknown number; what lies quiet is none of its own. -/
theorem GHop_callMT {ops : Array Oper} {Lq M : List (Option Nat × Obj)} {fuel : Nat} {listed : Array Bool} {o : Oper} {i d : Nat} {g : FuncId} {xs : Array Operand} {ts : Array TypeId} {args : List Value} {A' L' L2 : List (Option Nat × Obj)} {R' : Value → List (Option Nat × Obj) → Prop}
    (ho : ops[i]? = some o) (hd : o.dst = some d) (hn : Nat.blt d n = true) (hg : fguard ops env o = some true) (hop : o.op = .call ⟨.value (.func g), xs, ts⟩) (hxs : fevs env xs.toList = some args)
    (hcf : ∀ (az : Array Value) w, (callFunc g az).run c.P w = .ok (.enter g az) w) (hct : Ct c.P g args A' L' R') (is : List Nat) (hL : tk is L = some (L', L2)) (hA : ∀ x ∈ A', x ∈ c.A ++ L2)
    (isq : List Nat) (hq : tk isq L2 = some (Lq, M)) (K : ∀ v post, R' v post → GH c n ops Lq fuel (listed.setIfInBounds i true) ((d, v) :: env) (post ++ L2) k) : GHop c n ops Lq fuel listed env L k i := by
  intro a w hk hm hw
  refine ghop_of ho (Xt hk hg) ?_
  have hx : xs.map a.eval = args.toArray := by
    apply Array.toList_inj.1
    simpa using hk.evals hxs
  have hr : (execOp a.eval o).run c.P w = .ok (.enter g args.toArray) w := by
    unfold execOp
    simp [hop, resolve, Act.eval, Deferred.ofValue, hx, invoke, hcf]
  rw [hr, Oper.upon_enter]
  refine (hct w (hm.has_callP (tk_perm hL) hA)).mono fun e w' ⟨v, post, he, hR, hp⟩ => ?_
  subst he
  simp only [hd]
  have hm' := hm.callP (tk_perm hL) hp
  have hs : HS c Lq w' := (hm'.sub (L' := Lq) (R := M ++ post) (by
    refine List.perm_append_comm.trans ?_
    rw [← List.append_assoc]
    exact List.Perm.append_right _ (tk_perm hq))).has
  exact ⟨hs, K v post hR _ w' (hk.put hn v) hm' hs⟩
end
end Go.Proofs.Ytjnaeoelnmhjfaa

set_option linter.unusedSimpArgs false
set_option linter.unusedVariables false
namespace Go.Proofs.Ytjnaeoelnmhjfaa
open Go Go.RowKit

section
theorem i_4 : Try.prog.info? 4 = some Try.t4 := by kernel_rfl
theorem i_74 : Try.prog.info? 74 = some Try.t74 := by kernel_rfl
theorem i_176 : Try.prog.info? 176 = some Try.t176 := by kernel_rfl
theorem i_244 : Try.prog.info? 244 = some Try.t244 := by kernel_rfl


/-- Any number as a chain: a negative one as the program turns it. -/
def encI (x : Int) : List UInt8 := chainI (IntKind.u64.wrap x)
theorem wrap_bd (x : Int) : 0 ≤ IntKind.u64.wrap x ∧ IntKind.u64.wrap x < 18446744073709551616 := by
  unfold IntKind.wrap; simp [IntKind.signed, IntKind.bits]; omega
theorem encI_of {x : Int} (h0 : 0 ≤ x) (h1 : x < 18446744073709551616) : encI x = chainI x := by unfold encI; rw [Xs ⟨h0, by omega⟩]
def encIs (l : List Int) : List UInt8 := l.flatMap encI
def encTs (l : List (List UInt8)) : List UInt8 := l.flatMap text
def encB (b : Bool) : List UInt8 := chainI (if b then 1 else 0)
def badI (x : Int) : Bool := decide (x < 0 ∨ 1099511627776 < x)
def badT (s : List UInt8) : Bool := decide (200 < (s.length : Int))
theorem encIs_next {l : List (Nat × Int)} {i : Nat} {y : Nat × Int} (h : l[i]? = some y) : encIs ((l.take i).map Prod.snd) ++ encI y.2 = encIs ((l.take (i + 1)).map Prod.snd) := by
  obtain ⟨hi, rfl⟩ := List.getElem?_eq_some_iff.1 h
  rw [List.take_succ_eq_append_getElem hi, List.map_append]; unfold encIs; rw [List.flatMap_append]; exact congrArg _ (by simp)
theorem encTs_next {l : List (Nat × List UInt8)} {i : Nat} {y : Nat × List UInt8} (h : l[i]? = some y) : encTs ((l.take i).map Prod.snd) ++ text y.2 = encTs ((l.take (i + 1)).map Prod.snd) := by
  obtain ⟨hi, rfl⟩ := List.getElem?_eq_some_iff.1 h
  rw [List.take_succ_eq_append_getElem hi, List.map_append]; unfold encTs; rw [List.flatMap_append]; exact congrArg _ (by simp)
theorem encIs_part {l : List (Nat × Int)} (i : Nat) : (encIs ((l.take i).map Prod.snd)).length ≤ (encIs (l.map Prod.snd)).length := by
  have : l.map Prod.snd = (l.take i).map Prod.snd ++ (l.drop i).map Prod.snd := by rw [← List.map_append, List.take_append_drop]
  rw [this]; unfold encIs; rw [List.flatMap_append, List.length_append]; omega
theorem encTs_part {l : List (Nat × List UInt8)} (i : Nat) : (encTs ((l.take i).map Prod.snd)).length ≤ (encTs (l.map Prod.snd)).length := by
  have : l.map Prod.snd = (l.take i).map Prod.snd ++ (l.drop i).map Prod.snd := by rw [← List.map_append, List.take_append_drop]
  rw [this]; unfold encTs; rw [List.flatMap_append, List.length_append]; omega
set_option maxRecDepth 100000 in
set_option maxHeartbeats 1000000 in
theorem cw_num (b : Nat) (p : Value) (u : Sl) (tx : List UInt8) (w : Bool) (hp : UsedOr b p) (hu : Txt u tx) (bx k : Nat) (cs : Array Value) (T : TypeId) (fz : Nat × Nat) (n : Nat) (hn : n < 18446744073709551616) (hk : cs[k]? = some (.int .u64 (n : Int))) (hl : tx.length + (chainI (n : Int)).length ≤ 140737488355328) :
    Ct Try.prog 94 [.pointer (some ⟨b, 0, none⟩), .pointer (some ⟨bx, k, none⟩)] [(some bx, .cells cs T fz)] [(some b, .cells #[p, u.v (tx).length, .pointer none, .bool w] 80 (0, 0)), (u.ob, .cells u.cs 5 u.fz)] fun v post => v = .tuple #[] ∧ ∃ p1 u1, UsedOr b p1 ∧ Txt u1 (tx ++ chainI (n : Int)) ∧ post = [(some b, .cells #[p1, u1.v (tx ++ chainI (n : Int)).length, .pointer none, .bool w] 80 (0, 0)), (u1.ob, .cells u1.cs 5 u1.fz)] := by
 refine Yv Try.func94 rfl rfl (fun w0 => ?_)
 show G _ _ [(0, _), (1, _)] _ _
 refine Zi ?_
 refine Zi ?_
 refine Zd (l := [0, 1, 2, 3, 4]) rfl ?_
 refine Za rfl rfl rfl rfl (Zc rfl rfl) ?_
 refine Za rfl rfl rfl rfl (Ze rfl rfl) ?_
 refine Za rfl rfl rfl rfl (Zb (fo := 2) rfl Try.underlying80 rfl i_74 rfl rfl rfl) ?_
 refine Za rfl rfl rfl rfl (Zj rfl rfl (Zf 1 rfl) rfl Try.underlying74 rfl) ?_
 refine Za rfl rfl rfl rfl (V_pneqN rfl Try.underlying74 rfl rfl) ?_
 refine Zg ?_
 refine G_else rfl ?_
 refine Zu ?_
 refine Ya (Lq := []) (isq := []) (m := 8) Ym rfl rfl ?_
 refine Zh 0 rfl rfl rfl rfl (by kernel_rfl) (fun _ _ => Zc rfl rfl) ?_
 refine Zh 1 rfl rfl rfl rfl (by kernel_rfl) (fun _ _ => Ze rfl rfl) ?_
 refine Zh 2 rfl rfl rfl rfl (by kernel_rfl) (fun _ _ => Zb (fo := 0) rfl Try.underlying80 rfl i_78 rfl rfl rfl) ?_
 refine Zh 3 rfl rfl rfl rfl (by kernel_rfl) (fun _ _ => Zc rfl rfl) ?_
 refine Zh 4 rfl rfl rfl rfl (by kernel_rfl) (fun _ _ => Ze rfl rfl) ?_
 refine Zh 5 rfl rfl rfl rfl (by kernel_rfl) (fun _ _ => Zj rfl rfl (Zf 0 rfl) (Zr hk) Try.underlying23 rfl) ?_
 refine GH_all [6] (by kernel_rfl) (by decide) ?_
 refine (And.intro ?_ trivial)
 ·
  refine Zz (L2 := [_, _]) rfl rfl rfl rfl rfl rfl Try.call80 (Xw _ (by omega) (by omega)) [] [] rfl rfl [] (by rintro v post ⟨rfl, rfl⟩; exact ⟨_, rfl⟩) ?_
  rintro v post ⟨rfl, rfl⟩
  show GH _ _ _ _ _ _ _ [_, _] _
  refine GH_all [7] (by kernel_rfl) (by decide) ?_
  refine (And.intro ?_ trivial)
  ·
   refine Zz (L2 := []) rfl rfl rfl rfl rfl rfl Try.call79 (Xo _ _ _ _ _ _ _ hp hu (by omega)) [0, 0] [] rfl rfl [] (by rintro v post ⟨rfl, u1, hu1, rfl⟩; exact ⟨_, rfl⟩) ?_
   rintro v post ⟨rfl, u1, hu1, rfl⟩
   show GH _ _ _ _ _ _ _ [_, _] _
   refine Zw (by kernel_rfl) ?_
   refine G_end (post := [_, _]) Try.func94 rfl Zo [0, 0] rfl ?_
   dsimp only [packed]
   exact ⟨rfl, _, u1, .inr rfl, hu1, rfl⟩

set_option maxRecDepth 100000 in
set_option maxHeartbeats 1000000 in
theorem cw_flag (b : Nat) (p : Value) (u : Sl) (tx : List UInt8) (w : Bool) (hp : UsedOr b p) (hu : Txt u tx) (bx k : Nat) (cs : Array Value) (T : TypeId) (fz : Nat × Nat) (n : Bool) (hk : cs[k]? = some (.bool n)) (hl : tx.length + 10 ≤ 140737488355328) :
    Ct Try.prog 95 [.pointer (some ⟨b, 0, none⟩), .pointer (some ⟨bx, k, none⟩)] [(some bx, .cells cs T fz)] [(some b, .cells #[p, u.v (tx).length, .pointer none, .bool w] 80 (0, 0)), (u.ob, .cells u.cs 5 u.fz)] fun v post => v = .tuple #[] ∧ ∃ p1 u1, UsedOr b p1 ∧ Txt u1 (tx ++ encB n) ∧ post = [(some b, .cells #[p1, u1.v (tx ++ encB n).length, .pointer none, .bool w] 80 (0, 0)), (u1.ob, .cells u1.cs 5 u1.fz)] := by
 have hc0 := chainI_len 0 (by omega) (by omega)
 have hc1 := chainI_len 1 (by omega) (by omega)
 refine Yv Try.func95 rfl rfl (fun w0 => ?_)
 show G _ _ [(0, _), (1, _)] _ _
 refine Zp ?_
 refine Zi ?_
 refine Zd (l := [0, 1, 2, 3, 4, 5]) rfl ?_
 refine Za rfl rfl rfl rfl (Zc rfl rfl) ?_
 refine Za rfl rfl rfl rfl (Ze rfl rfl) ?_
 refine Za rfl rfl rfl rfl (Zb (fo := 2) rfl Try.underlying80 rfl i_74 rfl rfl rfl) ?_
 refine Za rfl rfl rfl rfl (Zj rfl rfl (Zf 1 rfl) rfl Try.underlying74 rfl) ?_
 refine Za rfl rfl rfl rfl (V_pneqN rfl Try.underlying74 rfl rfl) ?_
 refine Za rfl rfl rfl rfl (Zk rfl rfl) ?_
 refine Zg ?_
 refine G_else rfl ?_
 refine Zi ?_
 refine Zd (l := [0, 1, 2, 3]) rfl ?_
 refine Za rfl rfl rfl rfl (Zc rfl rfl) ?_
 refine Za rfl rfl rfl rfl (Ze rfl rfl) ?_
 refine Za rfl rfl rfl rfl (Zj rfl rfl (Zf 0 rfl) (Zr hk) Try.underlying4 rfl) ?_
 refine Za rfl rfl rfl rfl (Zk rfl rfl) ?_
 refine Zg ?_
 refine G_if rfl (fun hc1 => ?_) (fun hc1 => ?_)
 ·
  refine Ya (Lq := []) (isq := []) (m := 5) Ym rfl rfl ?_
  refine Zh 0 rfl rfl rfl rfl (by kernel_rfl) (fun _ _ => Zc rfl rfl) ?_
  refine Zh 1 rfl rfl rfl rfl (by kernel_rfl) (fun _ _ => Ze rfl rfl) ?_
  refine Zh 2 rfl rfl rfl rfl (by kernel_rfl) (fun _ _ => Zb (fo := 0) rfl Try.underlying80 rfl i_78 rfl rfl rfl) ?_
  refine GH_all [3] (by kernel_rfl) (by decide) ?_
  refine (And.intro ?_ trivial)
  ·
   refine Zz (L2 := [_, _]) rfl rfl rfl rfl rfl rfl Try.call80 (Xw _ (by omega) (by omega)) [] [] rfl rfl [] (by rintro v post ⟨rfl, rfl⟩; exact ⟨_, rfl⟩) ?_
   rintro v post ⟨rfl, rfl⟩
   show GH _ _ _ _ _ _ _ [_, _] _
   refine GH_all [4] (by kernel_rfl) (by decide) ?_
   refine (And.intro ?_ trivial)
   ·
    refine Zz (L2 := []) rfl rfl rfl rfl rfl rfl Try.call79 (Xo _ _ _ _ _ _ _ hp hu (by omega)) [0, 0] [] rfl rfl [] (by rintro v post ⟨rfl, u1, hu1, rfl⟩; exact ⟨_, rfl⟩) ?_
    rintro v post ⟨rfl, u1, hu1, rfl⟩
    show GH _ _ _ _ _ _ _ [_, _] _
    refine Zw (by kernel_rfl) ?_
    refine Zs ?_
    refine G_end (post := [_, _]) Try.func95 rfl Zo [0, 0] rfl ?_
    dsimp only [packed]
    first
      | exact ⟨rfl, _, u1, .inr rfl, hu1, rfl⟩
      | (subst n
         exact ⟨rfl, _, u1, .inr rfl, hu1, rfl⟩)
 refine Ya (Lq := []) (isq := []) (m := 5) Ym rfl rfl ?_
 refine Zh 0 rfl rfl rfl rfl (by kernel_rfl) (fun _ _ => Zc rfl rfl) ?_
 refine Zh 1 rfl rfl rfl rfl (by kernel_rfl) (fun _ _ => Ze rfl rfl) ?_
 refine Zh 2 rfl rfl rfl rfl (by kernel_rfl) (fun _ _ => Zb (fo := 0) rfl Try.underlying80 rfl i_78 rfl rfl rfl) ?_
 refine GH_all [3] (by kernel_rfl) (by decide) ?_
 refine (And.intro ?_ trivial)
 ·
  refine Zz (L2 := [_, _]) rfl rfl rfl rfl rfl rfl Try.call80 (Xw _ (by omega) (by omega)) [] [] rfl rfl [] (by rintro v post ⟨rfl, rfl⟩; exact ⟨_, rfl⟩) ?_
  rintro v post ⟨rfl, rfl⟩
  show GH _ _ _ _ _ _ _ [_, _] _
  refine GH_all [4] (by kernel_rfl) (by decide) ?_
  refine (And.intro ?_ trivial)
  ·
   refine Zz (L2 := []) rfl rfl rfl rfl rfl rfl Try.call79 (Xo _ _ _ _ _ _ _ hp hu (by omega)) [0, 0] [] rfl rfl [] (by rintro v post ⟨rfl, u1, hu1, rfl⟩; exact ⟨_, rfl⟩) ?_
   rintro v post ⟨rfl, u1, hu1, rfl⟩
   show GH _ _ _ _ _ _ _ [_, _] _
   refine Zw (by kernel_rfl) ?_
   refine Zs ?_
   refine G_end (post := [_, _]) Try.func95 rfl Zo [0, 0] rfl ?_
   dsimp only [packed]
   first
     | exact ⟨rfl, _, u1, .inr rfl, hu1, rfl⟩
     | (subst n
        exact ⟨rfl, _, u1, .inr rfl, hu1, rfl⟩)


theorem ptr_at {β : Type} {f : β → Value} {ks : List β} {o : Option Nat} {p q n : Nat} {c : Array Value} (h : Sees 1 o p q c (ks.map f) n) {i : Nat} {y : β} (hy : ks[i]? = some y) : c[p + i * 1]? = some (f y) := by
  rw [Nat.mul_one]; exact h.at (by rw [List.getElem?_map, hy]; rfl)
theorem any_map_next {α : Type} {f : α → Bool} {l : List (Nat × α)} {i : Nat} {y : Nat × α} (h : l[i]? = some y) {w v v' : Bool} (hv : v = (w || ((l.take i).map Prod.snd).any f)) (hn : v' = (v || f y.2)) : v' = (w || ((l.take (i + 1)).map Prod.snd).any f) := by
  obtain ⟨hi, rfl⟩ := List.getElem?_eq_some_iff.1 h
  rw [hn, hv, List.take_succ_eq_append_getElem hi, List.map_append, List.any_append, Bool.or_assoc]
  exact congrArg _ (congrArg _ (by simp))

set_option maxRecDepth 100000 in
set_option maxHeartbeats 1000000 in
theorem cw_ints (b : Nat) (p : Value) (u : Sl) (tx : List UInt8) (w : Bool) (hp : UsedOr b p) (hu : Txt u tx) (o1 : Option Nat) (p1 q1 : Nat) (c1 : Array Value) (T1 : TypeId) (f1 : Nat × Nat) (bx : Nat) (cs : Array Value) (T : TypeId) (fz : Nat × Nat) (ks : List (Nat × Int)) (hs : Sees 1 o1 p1 q1 c1 (ks.map fun y => .pointer (some ⟨bx, y.1, none⟩)) ks.length) (hk : ∀ y ∈ ks, cs[y.1]? = some (.int .i64 y.2)) (hl : tx.length + (encIs (ks.map Prod.snd)).length ≤ 140737488350000) :
    Ct Try.prog 96 [.pointer (some ⟨b, 0, none⟩), sv o1 p1 ks.length q1] [(o1, .cells c1 T1 f1), (some bx, .cells cs T fz)] [(some b, .cells #[p, u.v (tx).length, .pointer none, .bool w] 80 (0, 0)), (u.ob, .cells u.cs 5 u.fz)] fun v post => v = .tuple #[] ∧ ∃ p1 u1, UsedOr b p1 ∧ Txt u1 (tx ++ encIs (ks.map Prod.snd)) ∧ post = [(some b, .cells #[p1, u1.v (tx ++ encIs (ks.map Prod.snd)).length, .pointer none, .bool (w || (ks.map Prod.snd).any badI)] 80 (0, 0)), (u1.ob, .cells u1.cs 5 u1.fz)] := by
 have hl1 := hs.le
 have hl2 := hs.max
 refine Yv Try.func96 rfl rfl (fun w0 => ?_)
 show G _ _ [(0, _), (1, _)] _ _
 refine Zi ?_
 refine Zd (l := [0, 1, 2]) rfl ?_
 refine Za rfl rfl rfl rfl (Zc rfl rfl) ?_
 refine Za rfl rfl rfl rfl (Yf rfl rfl Try.underlying241 rfl) ?_
 refine Za rfl rfl rfl rfl (Zc rfl rfl) ?_
 refine Zg ?_
 refine Zp ?_
 refine Yc ?he1 [0, 0] ?hl1 (Xc (X := Nat × Value × Sl × List UInt8 × Bool) (fun x_ => match x_ with | ⟨i, p, u, t, v⟩ => i ≤ ks.length ∧ UsedOr b p ∧ Txt u t ∧ t = tx ++ encIs ((ks.take i).map Prod.snd) ∧ v = (w || ((ks.take i).map Prod.snd).any badI)) (fun x_ => match x_ with | ⟨i, p, u, t, v⟩ => ks.length - i) (fun x_ => match x_ with | ⟨i, p, u, t, v⟩ => [(0, .pointer (some ⟨b, 0, none⟩)), (6, sv o1 p1 ks.length q1), (7, .int .i64 (ks.length : Int)), (8, .int .i64 (i : Int))]) (fun x_ => match x_ with | ⟨i, p, u, t, v⟩ => [(some b, .cells #[p, u.v (t).length, .pointer none, .bool v] 80 (0, 0)), (u.ob, .cells u.cs 5 u.fz)]) ?round1 (0, p, u, tx, w) ?h01)
 case he1 => exact (And.intro rfl (And.intro rfl (And.intro rfl (And.intro rfl trivial))))
 case hl1 => exact ⟨_, rfl⟩
 case h01 => exact ⟨Nat.zero_le _, hp, hu, by simp [encIs], by simp⟩
 case round1 =>
  intro x_ hJ ih
  try dsimp only at hJ ih
  obtain ⟨i, p, u, t, v⟩ := x_
  try dsimp only at hJ ih
  obtain ⟨hi, hp, hu, ht, hv⟩ := hJ
  show G _ _ [(0, .pointer (some ⟨b, 0, none⟩)), (6, sv o1 p1 ks.length q1), (7, .int .i64 (ks.length : Int)), (8, .int .i64 (i : Int))] [(some b, .cells #[p, u.v (t).length, .pointer none, .bool v] 80 (0, 0)), (u.ob, .cells u.cs 5 u.fz)] _
  refine Zi ?_
  refine Zd (l := [0]) rfl ?_
  refine Za rfl rfl rfl rfl (Xh rfl rfl rfl) ?_
  refine Zg ?_
  refine Zi ?_
  refine Yl rfl (fun hc1 => ?_) (fun hc1 => ?_)
  ·
   try (first | contradiction | (exact absurd rfl hc1) | (exfalso; omega) | (simp at hc1; done) | (exact absurd hc1 (by decide)) | (exact absurd (by decide) hc1))
   all_goals
    trace "@@cw_ints#0"
    refine Zu ?_
    refine Zi ?_
    refine Zp ?_
    refine Zi ?_
    obtain ⟨y, hy⟩ := Xv (show i < ks.length by omega)
    obtain ⟨bo1, rfl⟩ := hs.isSome (by omega)
    have hym := List.mem_of_getElem? hy
    have hyk := hk y hym
    have hpl := encIs_part (l := ks) (i + 1)
    rw [← encIs_next hy, List.length_append] at hpl
    have htl := congrArg List.length ht
    rw [List.length_append] at htl
    have hce : (chainI (IntKind.u64.wrap y.2)).length = (encI y.2).length := rfl
    refine Zd (l := [0, 1, 2]) rfl ?_
    first
     | refine Za rfl rfl rfl rfl (Zl (s := 1) rfl Try.underlying241 i_176 rfl rfl rfl rfl (by omega)) ?_
     | refine Za rfl rfl rfl rfl (V_indexAddr (s := 1) rfl Try.underlying241 i_176 rfl rfl rfl (by omega) (by first | omega | (simp; done) | (simp; omega) | (simp at *; omega))) ?_
    refine Za rfl rfl rfl rfl (Zj rfl rfl (Zf 0 rfl) (Zr (ptr_at hs hy)) Try.underlying176 rfl) ?_
    refine Za rfl rfl rfl rfl (Zk rfl rfl) ?_
    refine Zg ?_
    refine Zi ?_
    refine Zi ?_
    refine Zd (l := [0, 1, 2, 3, 4]) rfl ?_
    refine Za rfl rfl rfl rfl (Zc rfl rfl) ?_
    first
     | refine Za rfl rfl rfl rfl (Ze rfl rfl) ?_
     | refine Za rfl rfl rfl rfl (Yt rfl rfl) ?_
    refine Za rfl rfl rfl rfl (Zb (fo := 2) rfl Try.underlying80 rfl i_74 rfl rfl rfl) ?_
    refine Za rfl rfl rfl rfl (Zj rfl rfl (Zf 2 rfl) rfl Try.underlying74 rfl) ?_
    refine Za rfl rfl rfl rfl (V_pneqN rfl Try.underlying74 rfl rfl) ?_
    refine Zg ?_
    refine G_else rfl ?_
    refine Zu ?_
    refine Zi ?_
    refine Zd (l := [0, 1, 2, 3, 4, 5, 6, 7, 8, 9, 10, 11, 12, 13, 14, 15, 16, 17, 18, 19]) rfl ?_
    refine Za rfl rfl rfl rfl (Zc rfl rfl) ?_
    refine Za rfl rfl rfl rfl (Zc rfl rfl) ?_
    first
     | refine Za rfl rfl rfl rfl (Ze rfl rfl) ?_
     | refine Za rfl rfl rfl rfl (Yt rfl rfl) ?_
    refine Za rfl rfl rfl rfl (Zb (fo := 3) rfl Try.underlying80 rfl i_4 rfl rfl rfl) ?_
    refine Za rfl rfl rfl rfl (Zj rfl rfl (Zf 2 rfl) rfl Try.underlying4 rfl) ?_
    refine Za rfl rfl rfl rfl (Zc rfl rfl) ?_
    refine G_split 29 rfl (fun hc2 => ?_) (fun hc2 => ?_)
    ·
     try (first | contradiction | (exact absurd rfl hc2) | (exfalso; omega) | (simp at hc2; done) | (exact absurd hc2 (by decide)) | (exact absurd (by decide) hc2))
     all_goals
      trace "@@cw_ints#2"
      refine Zt rfl rfl rfl rfl ?_
      refine Zt rfl rfl rfl rfl ?_
      refine Zt rfl rfl rfl rfl ?_
      refine Zt rfl rfl rfl rfl ?_
      refine Za rfl rfl rfl rfl (Yk rfl rfl rfl) ?_
      refine Za rfl rfl rfl rfl (Zc rfl rfl) ?_
      refine Zt rfl rfl rfl rfl ?_
      refine Zt rfl rfl rfl rfl ?_
      refine Zt rfl rfl rfl rfl ?_
      refine Zt rfl rfl rfl rfl ?_
      refine Za rfl rfl rfl rfl (Yk rfl rfl rfl) ?_
      first
       | refine Za rfl rfl rfl rfl (Ze rfl rfl) ?_
       | refine Za rfl rfl rfl rfl (Yt rfl rfl) ?_
      refine Za rfl rfl rfl rfl (Zb (fo := 3) rfl Try.underlying80 rfl i_4 rfl rfl rfl) ?_
      refine Xl (l1 := []) (L' := [_, _]) rfl rfl rfl rfl (Zq rfl rfl rfl (Zf 0 rfl) (by first | exact of_decide_eq_true rfl | omega | (simp; done) | (simp; omega) | (simp at *; omega)) i_4 rfl rfl) rfl ?_
      refine Zg ?_
      refine Ya (Lq := []) (isq := []) (m := 9) Ym rfl rfl ?_
      refine Zh 0 rfl rfl rfl rfl (by kernel_rfl) (fun _ _ => Zc rfl rfl) ?_
      first
       | refine Zh 1 rfl rfl rfl rfl (by kernel_rfl) (fun _ _ => Ze rfl rfl) ?_
       | refine Zh 1 rfl rfl rfl rfl (by kernel_rfl) (fun _ _ => Yt rfl rfl) ?_
      refine Zh 2 rfl rfl rfl rfl (by kernel_rfl) (fun _ _ => Zb (fo := 0) rfl Try.underlying80 rfl i_78 rfl rfl rfl) ?_
      refine Zh 3 rfl rfl rfl rfl (by kernel_rfl) (fun _ _ => Zc rfl rfl) ?_
      first
       | refine Zh 4 rfl rfl rfl rfl (by kernel_rfl) (fun _ _ => Ze rfl rfl) ?_
       | refine Zh 4 rfl rfl rfl rfl (by kernel_rfl) (fun _ _ => Yt rfl rfl) ?_
      refine Zh 5 rfl rfl rfl rfl (by kernel_rfl) (fun _ _ => Zj rfl rfl (Zf 1 rfl) (Zr hyk) Try.underlying3 rfl) ?_
      first
       | refine Zh 6 rfl rfl rfl rfl (by kernel_rfl) (fun _ _ => (V_conv rfl rfl Try.underlying3 Try.underlying23).int (Xs (by omega))) ?_
       | refine Zh 6 rfl rfl rfl rfl (by kernel_rfl) (fun _ _ => V_conv rfl rfl Try.underlying3 Try.underlying23) ?_
      refine GH_all [7] (by kernel_rfl) (by decide) ?_
      refine (And.intro ?_ trivial)
      ·
       refine Zz (L2 := [_, _]) rfl rfl rfl rfl rfl rfl Try.call80 (Xw _ (wrap_bd y.2).1 (wrap_bd y.2).2) [] [] rfl rfl [] (by rintro v post ⟨rfl, rfl⟩; exact ⟨_, rfl⟩) ?_
       rintro v post ⟨rfl, rfl⟩
       show GH _ _ _ _ _ _ _ [_, _] _
       refine GH_all [8] (by kernel_rfl) (by decide) ?_
       refine (And.intro ?_ trivial)
       ·
        refine Zz (L2 := []) rfl rfl rfl rfl rfl rfl Try.call79 (Xo _ _ _ _ _ _ _ hp hu (by omega)) [0, 0] [] rfl rfl [] (by rintro v post ⟨rfl, u1, hu1, rfl⟩; exact ⟨_, rfl⟩) ?_
        rintro v post ⟨rfl, u1, hu1, rfl⟩
        show GH _ _ _ _ _ _ _ [_, _] _
        refine Zw (by kernel_rfl) ?_
        refine Zs ?_
        refine Zd (l := [0, 1]) rfl ?_
        first
         | refine Za rfl rfl rfl rfl ((Yu rfl rfl rfl).int (Zv (by omega))) ?_
         | refine Za rfl rfl rfl rfl (Yu rfl rfl rfl) ?_
        refine Za rfl rfl rfl rfl (Zc rfl rfl) ?_
        refine Zg ?_
        refine Yc ?_ [0, 0] ?_ (ih (i + 1, .pointer (some ⟨b, 0, none⟩), u1, t ++ encI y.2, true) ?_ ?_)
        · (refine (And.intro ?_ (And.intro ?_ (And.intro ?_ (And.intro ?_ trivial)))) <;> first | rfl | exact Zm (by omega) | exact Zm (by simp))
        · exact ⟨_, rfl⟩
        · exact ⟨by omega, .inr rfl, hu1, by rw [← encIs_next hy, ← List.append_assoc, ← ht], any_map_next hy hv (by clear hv ht htl; simp [badI, *])⟩
        · (first | omega | (dsimp only; omega))
    ·
     try (first | contradiction | (exact absurd rfl hc2) | (exfalso; omega) | (simp at hc2; done) | (exact absurd hc2 (by decide)) | (exact absurd (by decide) hc2))
     all_goals
      trace "@@cw_ints#3"
      refine Za rfl rfl rfl rfl (Zc rfl rfl) ?_
      first
       | refine Za rfl rfl rfl rfl (Ze rfl rfl) ?_
       | refine Za rfl rfl rfl rfl (Yt rfl rfl) ?_
      refine Za rfl rfl rfl rfl (Zj rfl rfl (Zf 1 rfl) (Zr hyk) Try.underlying3 rfl) ?_
      refine Za rfl rfl rfl rfl (Xh rfl rfl rfl) ?_
      refine Za rfl rfl rfl rfl (Xu rfl rfl rfl) ?_
      refine Za rfl rfl rfl rfl (Zc rfl rfl) ?_
      refine Xr 35 rfl (fun hc3 => ?_) (fun hc3 => ?_)
      ·
       try (first | contradiction | (exact absurd rfl hc3) | (exfalso; omega) | (simp at hc3; done) | (exact absurd hc3 (by decide)) | (exact absurd (by decide) hc3))
       all_goals
        trace "@@cw_ints#4"
        refine Zt rfl rfl rfl rfl ?_
        refine Zt rfl rfl rfl rfl ?_
        refine Zt rfl rfl rfl rfl ?_
        refine Zt rfl rfl rfl rfl ?_
        refine Za rfl rfl rfl rfl (Yk rfl rfl rfl) ?_
        first
         | refine Za rfl rfl rfl rfl (Ze rfl rfl) ?_
         | refine Za rfl rfl rfl rfl (Yt rfl rfl) ?_
        refine Za rfl rfl rfl rfl (Zb (fo := 3) rfl Try.underlying80 rfl i_4 rfl rfl rfl) ?_
        refine Xl (l1 := []) (L' := [_, _]) rfl rfl rfl rfl (Zq rfl rfl rfl (Zf 0 rfl) (by first | exact of_decide_eq_true rfl | omega | (simp; done) | (simp; omega) | (simp at *; omega)) i_4 rfl rfl) rfl ?_
        refine Zg ?_
        refine Ya (Lq := []) (isq := []) (m := 9) Ym rfl rfl ?_
        refine Zh 0 rfl rfl rfl rfl (by kernel_rfl) (fun _ _ => Zc rfl rfl) ?_
        first
         | refine Zh 1 rfl rfl rfl rfl (by kernel_rfl) (fun _ _ => Ze rfl rfl) ?_
         | refine Zh 1 rfl rfl rfl rfl (by kernel_rfl) (fun _ _ => Yt rfl rfl) ?_
        refine Zh 2 rfl rfl rfl rfl (by kernel_rfl) (fun _ _ => Zb (fo := 0) rfl Try.underlying80 rfl i_78 rfl rfl rfl) ?_
        refine Zh 3 rfl rfl rfl rfl (by kernel_rfl) (fun _ _ => Zc rfl rfl) ?_
        first
         | refine Zh 4 rfl rfl rfl rfl (by kernel_rfl) (fun _ _ => Ze rfl rfl) ?_
         | refine Zh 4 rfl rfl rfl rfl (by kernel_rfl) (fun _ _ => Yt rfl rfl) ?_
        refine Zh 5 rfl rfl rfl rfl (by kernel_rfl) (fun _ _ => Zj rfl rfl (Zf 1 rfl) (Zr hyk) Try.underlying3 rfl) ?_
        first
         | refine Zh 6 rfl rfl rfl rfl (by kernel_rfl) (fun _ _ => (V_conv rfl rfl Try.underlying3 Try.underlying23).int (Xs (by omega))) ?_
         | refine Zh 6 rfl rfl rfl rfl (by kernel_rfl) (fun _ _ => V_conv rfl rfl Try.underlying3 Try.underlying23) ?_
        refine GH_all [7] (by kernel_rfl) (by decide) ?_
        refine (And.intro ?_ trivial)
        ·
         refine Zz (L2 := [_, _]) rfl rfl rfl rfl rfl rfl Try.call80 (Xw _ (wrap_bd y.2).1 (wrap_bd y.2).2) [] [] rfl rfl [] (by rintro v post ⟨rfl, rfl⟩; exact ⟨_, rfl⟩) ?_
         rintro v post ⟨rfl, rfl⟩
         show GH _ _ _ _ _ _ _ [_, _] _
         refine GH_all [8] (by kernel_rfl) (by decide) ?_
         refine (And.intro ?_ trivial)
         ·
          refine Zz (L2 := []) rfl rfl rfl rfl rfl rfl Try.call79 (Xo _ _ _ _ _ _ _ hp hu (by omega)) [0, 0] [] rfl rfl [] (by rintro v post ⟨rfl, u1, hu1, rfl⟩; exact ⟨_, rfl⟩) ?_
          rintro v post ⟨rfl, u1, hu1, rfl⟩
          show GH _ _ _ _ _ _ _ [_, _] _
          refine Zw (by kernel_rfl) ?_
          refine Zs ?_
          refine Zd (l := [0, 1]) rfl ?_
          first
           | refine Za rfl rfl rfl rfl ((Yu rfl rfl rfl).int (Zv (by omega))) ?_
           | refine Za rfl rfl rfl rfl (Yu rfl rfl rfl) ?_
          refine Za rfl rfl rfl rfl (Zc rfl rfl) ?_
          refine Zg ?_
          refine Yc ?_ [0, 0] ?_ (ih (i + 1, .pointer (some ⟨b, 0, none⟩), u1, t ++ encI y.2, true) ?_ ?_)
          · (refine (And.intro ?_ (And.intro ?_ (And.intro ?_ (And.intro ?_ trivial)))) <;> first | rfl | exact Zm (by omega) | exact Zm (by simp))
          · exact ⟨_, rfl⟩
          · exact ⟨by omega, .inr rfl, hu1, by rw [← encIs_next hy, ← List.append_assoc, ← ht], any_map_next hy hv (by clear hv ht htl; simp [badI, *])⟩
          · (first | omega | (dsimp only; omega))
      ·
       try (first | contradiction | (exact absurd rfl hc3) | (exfalso; omega) | (simp at hc3; done) | (exact absurd hc3 (by decide)) | (exact absurd (by decide) hc3))
       all_goals
        trace "@@cw_ints#5"
        refine Za rfl rfl rfl rfl (Zc rfl rfl) ?_
        first
         | refine Za rfl rfl rfl rfl (Ze rfl rfl) ?_
         | refine Za rfl rfl rfl rfl (Yt rfl rfl) ?_
        refine Za rfl rfl rfl rfl (Zj rfl rfl (Zf 1 rfl) (Zr hyk) Try.underlying3 rfl) ?_
        refine Za rfl rfl rfl rfl (V_gtr rfl rfl rfl) ?_
        refine Za rfl rfl rfl rfl (Xu rfl rfl rfl) ?_
        first
         | refine Za rfl rfl rfl rfl (Ze rfl rfl) ?_
         | refine Za rfl rfl rfl rfl (Yt rfl rfl) ?_
        refine Za rfl rfl rfl rfl (Zb (fo := 3) rfl Try.underlying80 rfl i_4 rfl rfl rfl) ?_
        refine Xl (l1 := []) (L' := [_, _]) rfl rfl rfl rfl (Zq rfl rfl rfl (Zf 0 rfl) (by first | exact of_decide_eq_true rfl | omega | (simp; done) | (simp; omega) | (simp at *; omega)) i_4 rfl rfl) rfl ?_
        refine Zg ?_
        refine Ya (Lq := []) (isq := []) (m := 9) Ym rfl rfl ?_
        refine Zh 0 rfl rfl rfl rfl (by kernel_rfl) (fun _ _ => Zc rfl rfl) ?_
        first
         | refine Zh 1 rfl rfl rfl rfl (by kernel_rfl) (fun _ _ => Ze rfl rfl) ?_
         | refine Zh 1 rfl rfl rfl rfl (by kernel_rfl) (fun _ _ => Yt rfl rfl) ?_
        refine Zh 2 rfl rfl rfl rfl (by kernel_rfl) (fun _ _ => Zb (fo := 0) rfl Try.underlying80 rfl i_78 rfl rfl rfl) ?_
        refine Zh 3 rfl rfl rfl rfl (by kernel_rfl) (fun _ _ => Zc rfl rfl) ?_
        first
         | refine Zh 4 rfl rfl rfl rfl (by kernel_rfl) (fun _ _ => Ze rfl rfl) ?_
         | refine Zh 4 rfl rfl rfl rfl (by kernel_rfl) (fun _ _ => Yt rfl rfl) ?_
        refine Zh 5 rfl rfl rfl rfl (by kernel_rfl) (fun _ _ => Zj rfl rfl (Zf 1 rfl) (Zr hyk) Try.underlying3 rfl) ?_
        first
         | refine Zh 6 rfl rfl rfl rfl (by kernel_rfl) (fun _ _ => (V_conv rfl rfl Try.underlying3 Try.underlying23).int (Xs (by omega))) ?_
         | refine Zh 6 rfl rfl rfl rfl (by kernel_rfl) (fun _ _ => V_conv rfl rfl Try.underlying3 Try.underlying23) ?_
        refine GH_all [7] (by kernel_rfl) (by decide) ?_
        refine (And.intro ?_ trivial)
        ·
         refine Zz (L2 := [_, _]) rfl rfl rfl rfl rfl rfl Try.call80 (Xw _ (wrap_bd y.2).1 (wrap_bd y.2).2) [] [] rfl rfl [] (by rintro v post ⟨rfl, rfl⟩; exact ⟨_, rfl⟩) ?_
         rintro v post ⟨rfl, rfl⟩
         show GH _ _ _ _ _ _ _ [_, _] _
         refine GH_all [8] (by kernel_rfl) (by decide) ?_
         refine (And.intro ?_ trivial)
         ·
          refine Zz (L2 := []) rfl rfl rfl rfl rfl rfl Try.call79 (Xo _ _ _ _ _ _ _ hp hu (by omega)) [0, 0] [] rfl rfl [] (by rintro v post ⟨rfl, u1, hu1, rfl⟩; exact ⟨_, rfl⟩) ?_
          rintro v post ⟨rfl, u1, hu1, rfl⟩
          show GH _ _ _ _ _ _ _ [_, _] _
          refine Zw (by kernel_rfl) ?_
          refine Zs ?_
          refine Zd (l := [0, 1]) rfl ?_
          first
           | refine Za rfl rfl rfl rfl ((Yu rfl rfl rfl).int (Zv (by omega))) ?_
           | refine Za rfl rfl rfl rfl (Yu rfl rfl rfl) ?_
          refine Za rfl rfl rfl rfl (Zc rfl rfl) ?_
          refine Zg ?_
          refine Yc ?_ [0, 0] ?_ (ih (i + 1, .pointer (some ⟨b, 0, none⟩), u1, t ++ encI y.2, (decide (1099511627776 < y.2))) ?_ ?_)
          · (refine (And.intro ?_ (And.intro ?_ (And.intro ?_ (And.intro ?_ trivial)))) <;> first | rfl | exact Zm (by omega) | exact Zm (by simp))
          · exact ⟨_, rfl⟩
          · exact ⟨by omega, .inr rfl, hu1, by rw [← encIs_next hy, ← List.append_assoc, ← ht], any_map_next hy hv (by clear hv ht htl; simp [badI, *])⟩
          · (first | omega | (dsimp only; omega))
  ·
   try (first | contradiction | (exact absurd rfl hc1) | (exfalso; omega) | (simp at hc1; done) | (exact absurd hc1 (by decide)) | (exact absurd (by decide) hc1))
   all_goals
    trace "@@cw_ints#1"
    refine Yx rfl ?_
    refine G_end (post := [_, _]) Try.func96 rfl Zo [0, 0] rfl ?_
    dsimp only [packed]
    have e : ks.take i = ks := List.take_of_length_le (by omega)
    rw [e] at ht hv
    subst ht hv
    exact ⟨rfl, p, u, hp, hu, rfl⟩


theorem chain_part (s : List UInt8) : s.length ≤ (text s).length := by unfold text; rw [List.length_append]; omega

set_option maxRecDepth 100000 in
set_option maxHeartbeats 1000000 in
theorem cw_texts (b : Nat) (p : Value) (u : Sl) (tx : List UInt8) (w : Bool) (hp : UsedOr b p) (hu : Txt u tx) (o1 : Option Nat) (p1 q1 : Nat) (c1 : Array Value) (T1 : TypeId) (f1 : Nat × Nat) (bx : Nat) (cs : Array Value) (T : TypeId) (fz : Nat × Nat) (ks : List (Nat × List UInt8)) (hs : Sees 1 o1 p1 q1 c1 (ks.map fun y => .pointer (some ⟨bx, y.1, none⟩)) ks.length) (hk : ∀ y ∈ ks, cs[y.1]? = some (.string (bs y.2))) (hl : tx.length + (encTs (ks.map Prod.snd)).length ≤ 140737488350000) :
    Ct Try.prog 142 [.pointer (some ⟨b, 0, none⟩), sv o1 p1 ks.length q1] [(o1, .cells c1 T1 f1), (some bx, .cells cs T fz)] [(some b, .cells #[p, u.v (tx).length, .pointer none, .bool w] 80 (0, 0)), (u.ob, .cells u.cs 5 u.fz)] fun v post => v = .tuple #[] ∧ ∃ p1 u1, UsedOr b p1 ∧ Txt u1 (tx ++ encTs (ks.map Prod.snd)) ∧ post = [(some b, .cells #[p1, u1.v (tx ++ encTs (ks.map Prod.snd)).length, .pointer none, .bool (w || (ks.map Prod.snd).any badT)] 80 (0, 0)), (u1.ob, .cells u1.cs 5 u1.fz)] := by
 have hl1 := hs.le
 have hl2 := hs.max
 refine Yv Try.func142 rfl rfl (fun w0 => ?_)
 show G _ _ [(0, _), (1, _)] _ _
 refine Zi ?_
 refine Zd (l := [0, 1, 2]) rfl ?_
 refine Za rfl rfl rfl rfl (Zc rfl rfl) ?_
 refine Za rfl rfl rfl rfl (Yf rfl rfl Try.underlying278 rfl) ?_
 refine Za rfl rfl rfl rfl (Zc rfl rfl) ?_
 refine Zg ?_
 refine Zp ?_
 refine Yc ?he1 [0, 0] ?hl1 (Xc (X := Nat × Value × Sl × List UInt8 × Bool) (fun x_ => match x_ with | ⟨i, p, u, t, v⟩ => i ≤ ks.length ∧ UsedOr b p ∧ Txt u t ∧ t = tx ++ encTs ((ks.take i).map Prod.snd) ∧ v = (w || ((ks.take i).map Prod.snd).any badT)) (fun x_ => match x_ with | ⟨i, p, u, t, v⟩ => ks.length - i) (fun x_ => match x_ with | ⟨i, p, u, t, v⟩ => [(0, .pointer (some ⟨b, 0, none⟩)), (6, sv o1 p1 ks.length q1), (7, .int .i64 (ks.length : Int)), (8, .int .i64 (i : Int))]) (fun x_ => match x_ with | ⟨i, p, u, t, v⟩ => [(some b, .cells #[p, u.v (t).length, .pointer none, .bool v] 80 (0, 0)), (u.ob, .cells u.cs 5 u.fz)]) ?round1 (0, p, u, tx, w) ?h01)
 case he1 => exact (And.intro rfl (And.intro rfl (And.intro rfl (And.intro rfl trivial))))
 case hl1 => exact ⟨_, rfl⟩
 case h01 => exact ⟨Nat.zero_le _, hp, hu, by simp [encTs], by simp⟩
 case round1 =>
  intro x_ hJ ih
  try dsimp only at hJ ih
  obtain ⟨i, p, u, t, v⟩ := x_
  try dsimp only at hJ ih
  obtain ⟨hi, hp, hu, ht, hv⟩ := hJ
  show G _ _ [(0, .pointer (some ⟨b, 0, none⟩)), (6, sv o1 p1 ks.length q1), (7, .int .i64 (ks.length : Int)), (8, .int .i64 (i : Int))] [(some b, .cells #[p, u.v (t).length, .pointer none, .bool v] 80 (0, 0)), (u.ob, .cells u.cs 5 u.fz)] _
  refine Zi ?_
  refine Zd (l := [0]) rfl ?_
  refine Za rfl rfl rfl rfl (Xh rfl rfl rfl) ?_
  refine Zg ?_
  refine Zi ?_
  refine Yl rfl (fun hc1 => ?_) (fun hc1 => ?_)
  ·
   try (first | contradiction | (exact absurd rfl hc1) | (exfalso; omega) | (simp at hc1; done) | (exact absurd hc1 (by decide)) | (exact absurd (by decide) hc1))
   all_goals
    trace "@@cw_texts#0"
    refine Zu ?_
    refine Zi ?_
    refine Zp ?_
    refine Zi ?_
    obtain ⟨y, hy⟩ := Xv (show i < ks.length by omega)
    obtain ⟨bo1, rfl⟩ := hs.isSome (by omega)
    have hym := List.mem_of_getElem? hy
    have hyk := hk y hym
    have hpl := encTs_part (l := ks) (i + 1)
    rw [← encTs_next hy, List.length_append] at hpl
    have htl := congrArg List.length ht
    rw [List.length_append] at htl
    have hce := chain_part y.2
    refine Zd (l := [0, 1, 2]) rfl ?_
    first
     | refine Za rfl rfl rfl rfl (Zl (s := 1) rfl Try.underlying278 i_244 rfl rfl rfl rfl (by omega)) ?_
     | refine Za rfl rfl rfl rfl (V_indexAddr (s := 1) rfl Try.underlying278 i_244 rfl rfl rfl (by omega) (by first | omega | (simp; done) | (simp; omega) | (simp at *; omega))) ?_
    refine Za rfl rfl rfl rfl (Zj rfl rfl (Zf 0 rfl) (Zr (ptr_at hs hy)) Try.underlying244 rfl) ?_
    refine Za rfl rfl rfl rfl (Zk rfl rfl) ?_
    refine Zg ?_
    refine Zi ?_
    refine Zi ?_
    refine Zd (l := [0, 1, 2, 3, 4]) rfl ?_
    refine Za rfl rfl rfl rfl (Zc rfl rfl) ?_
    first
     | refine Za rfl rfl rfl rfl (Ze rfl rfl) ?_
     | refine Za rfl rfl rfl rfl (Yt rfl rfl) ?_
    refine Za rfl rfl rfl rfl (Zb (fo := 2) rfl Try.underlying80 rfl i_74 rfl rfl rfl) ?_
    refine Za rfl rfl rfl rfl (Zj rfl rfl (Zf 2 rfl) rfl Try.underlying74 rfl) ?_
    refine Za rfl rfl rfl rfl (V_pneqN rfl Try.underlying74 rfl rfl) ?_
    refine Zg ?_
    refine G_else rfl ?_
    refine Zu ?_
    refine Zi ?_
    refine Zd (l := [0, 1, 2, 3, 4, 5, 6, 7, 8, 9, 10, 11, 12, 13, 14]) rfl ?_
    refine Za rfl rfl rfl rfl (Zc rfl rfl) ?_
    refine Za rfl rfl rfl rfl (Zc rfl rfl) ?_
    first
     | refine Za rfl rfl rfl rfl (Ze rfl rfl) ?_
     | refine Za rfl rfl rfl rfl (Yt rfl rfl) ?_
    refine Za rfl rfl rfl rfl (Zb (fo := 3) rfl Try.underlying80 rfl i_4 rfl rfl rfl) ?_
    refine Za rfl rfl rfl rfl (Zj rfl rfl (Zf 2 rfl) rfl Try.underlying4 rfl) ?_
    refine Za rfl rfl rfl rfl (Zc rfl rfl) ?_
    refine G_split 29 rfl (fun hc2 => ?_) (fun hc2 => ?_)
    ·
     try (first | contradiction | (exact absurd rfl hc2) | (exfalso; omega) | (simp at hc2; done) | (exact absurd hc2 (by decide)) | (exact absurd (by decide) hc2))
     all_goals
      trace "@@cw_texts#2"
      refine Zt rfl rfl rfl rfl ?_
      refine Zt rfl rfl rfl rfl ?_
      refine Zt rfl rfl rfl rfl ?_
      refine Zt rfl rfl rfl rfl ?_
      refine Zt rfl rfl rfl rfl ?_
      refine Za rfl rfl rfl rfl (Yk rfl rfl rfl) ?_
      first
       | refine Za rfl rfl rfl rfl (Ze rfl rfl) ?_
       | refine Za rfl rfl rfl rfl (Yt rfl rfl) ?_
      refine Za rfl rfl rfl rfl (Zb (fo := 3) rfl Try.underlying80 rfl i_4 rfl rfl rfl) ?_
      refine Xl (l1 := []) (L' := [_, _]) rfl rfl rfl rfl (Zq rfl rfl rfl (Zf 0 rfl) (by first | exact of_decide_eq_true rfl | omega | (simp; done) | (simp; omega) | (simp at *; omega)) i_4 rfl rfl) rfl ?_
      refine Zg ?_
      refine Ya (Lq := []) (isq := []) (m := 8) Ym rfl rfl ?_
      refine Zh 0 rfl rfl rfl rfl (by kernel_rfl) (fun _ _ => Zc rfl rfl) ?_
      first
       | refine Zh 1 rfl rfl rfl rfl (by kernel_rfl) (fun _ _ => Ze rfl rfl) ?_
       | refine Zh 1 rfl rfl rfl rfl (by kernel_rfl) (fun _ _ => Yt rfl rfl) ?_
      refine Zh 2 rfl rfl rfl rfl (by kernel_rfl) (fun _ _ => Zb (fo := 0) rfl Try.underlying80 rfl i_78 rfl rfl rfl) ?_
      refine Zh 3 rfl rfl rfl rfl (by kernel_rfl) (fun _ _ => Zc rfl rfl) ?_
      first
       | refine Zh 4 rfl rfl rfl rfl (by kernel_rfl) (fun _ _ => Ze rfl rfl) ?_
       | refine Zh 4 rfl rfl rfl rfl (by kernel_rfl) (fun _ _ => Yt rfl rfl) ?_
      refine Zh 5 rfl rfl rfl rfl (by kernel_rfl) (fun _ _ => Zj rfl rfl (Zf 1 rfl) (Zr hyk) Try.underlying9 rfl) ?_
      refine GH_all [6] (by kernel_rfl) (by decide) ?_
      refine (And.intro ?_ trivial)
      ·
       refine Zz (L2 := [_, _]) rfl rfl rfl rfl rfl rfl Try.call81 (ct_text _ (by omega)) [] [] rfl rfl [] (by rintro v post ⟨rfl, rfl⟩; exact ⟨_, rfl⟩) ?_
       rintro v post ⟨rfl, rfl⟩
       show GH _ _ _ _ _ _ _ [_, _] _
       refine GH_all [7] (by kernel_rfl) (by decide) ?_
       refine (And.intro ?_ trivial)
       ·
        refine Zz (L2 := []) rfl rfl rfl rfl rfl rfl Try.call79 (Xo _ _ _ _ _ _ _ hp hu (by omega)) [0, 0] [] rfl rfl [] (by rintro v post ⟨rfl, u1, hu1, rfl⟩; exact ⟨_, rfl⟩) ?_
        rintro v post ⟨rfl, u1, hu1, rfl⟩
        show GH _ _ _ _ _ _ _ [_, _] _
        refine Zw (by kernel_rfl) ?_
        refine Zs ?_
        refine Zd (l := [0, 1]) rfl ?_
        first
         | refine Za rfl rfl rfl rfl ((Yu rfl rfl rfl).int (Zv (by omega))) ?_
         | refine Za rfl rfl rfl rfl (Yu rfl rfl rfl) ?_
        refine Za rfl rfl rfl rfl (Zc rfl rfl) ?_
        refine Zg ?_
        refine Yc ?_ [0, 0] ?_ (ih (i + 1, .pointer (some ⟨b, 0, none⟩), u1, t ++ text y.2, true) ?_ ?_)
        · (refine (And.intro ?_ (And.intro ?_ (And.intro ?_ (And.intro ?_ trivial)))) <;> first | rfl | exact Zm (by omega) | exact Zm (by simp))
        · exact ⟨_, rfl⟩
        · exact ⟨by omega, .inr rfl, hu1, by rw [← encTs_next hy, ← List.append_assoc, ← ht], any_map_next hy hv (by clear hv ht htl; simp [badT, *])⟩
        · (first | omega | (dsimp only; omega))
    ·
     try (first | contradiction | (exact absurd rfl hc2) | (exfalso; omega) | (simp at hc2; done) | (exact absurd hc2 (by decide)) | (exact absurd (by decide) hc2))
     all_goals
      trace "@@cw_texts#3"
      refine Za rfl rfl rfl rfl (Zc rfl rfl) ?_
      first
       | refine Za rfl rfl rfl rfl (Ze rfl rfl) ?_
       | refine Za rfl rfl rfl rfl (Yt rfl rfl) ?_
      refine Za rfl rfl rfl rfl (Zj rfl rfl (Zf 1 rfl) (Zr hyk) Try.underlying9 rfl) ?_
      refine Za rfl rfl rfl rfl (V_slen rfl rfl Try.underlying9 rfl) ?_
      refine Za rfl rfl rfl rfl (V_gtr rfl rfl rfl) ?_
      refine Za rfl rfl rfl rfl (Xu rfl rfl rfl) ?_
      first
       | refine Za rfl rfl rfl rfl (Ze rfl rfl) ?_
       | refine Za rfl rfl rfl rfl (Yt rfl rfl) ?_
      refine Za rfl rfl rfl rfl (Zb (fo := 3) rfl Try.underlying80 rfl i_4 rfl rfl rfl) ?_
      refine Xl (l1 := []) (L' := [_, _]) rfl rfl rfl rfl (Zq rfl rfl rfl (Zf 0 rfl) (by first | exact of_decide_eq_true rfl | omega | (simp; done) | (simp; omega) | (simp at *; omega)) i_4 rfl rfl) rfl ?_
      refine Zg ?_
      refine Ya (Lq := []) (isq := []) (m := 8) Ym rfl rfl ?_
      refine Zh 0 rfl rfl rfl rfl (by kernel_rfl) (fun _ _ => Zc rfl rfl) ?_
      first
       | refine Zh 1 rfl rfl rfl rfl (by kernel_rfl) (fun _ _ => Ze rfl rfl) ?_
       | refine Zh 1 rfl rfl rfl rfl (by kernel_rfl) (fun _ _ => Yt rfl rfl) ?_
      refine Zh 2 rfl rfl rfl rfl (by kernel_rfl) (fun _ _ => Zb (fo := 0) rfl Try.underlying80 rfl i_78 rfl rfl rfl) ?_
      refine Zh 3 rfl rfl rfl rfl (by kernel_rfl) (fun _ _ => Zc rfl rfl) ?_
      first
       | refine Zh 4 rfl rfl rfl rfl (by kernel_rfl) (fun _ _ => Ze rfl rfl) ?_
       | refine Zh 4 rfl rfl rfl rfl (by kernel_rfl) (fun _ _ => Yt rfl rfl) ?_
      refine Zh 5 rfl rfl rfl rfl (by kernel_rfl) (fun _ _ => Zj rfl rfl (Zf 1 rfl) (Zr hyk) Try.underlying9 rfl) ?_
      refine GH_all [6] (by kernel_rfl) (by decide) ?_
      refine (And.intro ?_ trivial)
      ·
       refine Zz (L2 := [_, _]) rfl rfl rfl rfl rfl rfl Try.call81 (ct_text _ (by omega)) [] [] rfl rfl [] (by rintro v post ⟨rfl, rfl⟩; exact ⟨_, rfl⟩) ?_
       rintro v post ⟨rfl, rfl⟩
       show GH _ _ _ _ _ _ _ [_, _] _
       refine GH_all [7] (by kernel_rfl) (by decide) ?_
       refine (And.intro ?_ trivial)
       ·
        refine Zz (L2 := []) rfl rfl rfl rfl rfl rfl Try.call79 (Xo _ _ _ _ _ _ _ hp hu (by omega)) [0, 0] [] rfl rfl [] (by rintro v post ⟨rfl, u1, hu1, rfl⟩; exact ⟨_, rfl⟩) ?_
        rintro v post ⟨rfl, u1, hu1, rfl⟩
        show GH _ _ _ _ _ _ _ [_, _] _
        refine Zw (by kernel_rfl) ?_
        refine Zs ?_
        refine Zd (l := [0, 1]) rfl ?_
        first
         | refine Za rfl rfl rfl rfl ((Yu rfl rfl rfl).int (Zv (by omega))) ?_
         | refine Za rfl rfl rfl rfl (Yu rfl rfl rfl) ?_
        refine Za rfl rfl rfl rfl (Zc rfl rfl) ?_
        refine Zg ?_
        refine Yc ?_ [0, 0] ?_ (ih (i + 1, .pointer (some ⟨b, 0, none⟩), u1, t ++ text y.2, (decide (200 < (y.2.length : Int)))) ?_ ?_)
        · (refine (And.intro ?_ (And.intro ?_ (And.intro ?_ (And.intro ?_ trivial)))) <;> first | rfl | exact Zm (by omega) | exact Zm (by simp))
        · exact ⟨_, rfl⟩
        · exact ⟨by omega, .inr rfl, hu1, by rw [← encTs_next hy, ← List.append_assoc, ← ht], any_map_next hy hv (by clear hv ht htl; simp [badT, *])⟩
        · (first | omega | (dsimp only; omega))
  ·
   try (first | contradiction | (exact absurd rfl hc1) | (exfalso; omega) | (simp at hc1; done) | (exact absurd hc1 (by decide)) | (exact absurd (by decide) hc1))
   all_goals
    trace "@@cw_texts#1"
    refine Yx rfl ?_
    refine G_end (post := [_, _]) Try.func142 rfl Zo [0, 0] rfl ?_
    dsimp only [packed]
    have e : ks.take i = ks := List.take_of_length_le (by omega)
    rw [e] at ht hv
    subst ht hv
    exact ⟨rfl, p, u, hp, hu, rfl⟩

end
end Go.Proofs.Ytjnaeoelnmhjfaa

set_option linter.unusedSimpArgs false
set_option linter.unusedVariables false
namespace Go.Proofs.Ytjnaeoelnmhjfaa
open Go Go.RowKit

section



/-- A slice inside a slice. -/
structure Ins (α : Type) where
  p : Option Addr
  ob : Option Nat
  off : Nat
  cap : Nat
  cs : Array Value
  T : TypeId
  fr : Nat × Nat
  l : List α
def insK {α : Type} (s : Ins α) : Option Nat × Obj := (s.ob, .cells s.cs s.T s.fr)
def insV {α : Type} (s : Ins α) : Value := .slice s.p s.l.length s.cap
structure InsOk {α : Type} (sz : Nat) (f : α → List Value) (s : Ins α) : Prop where
  le : s.l.length ≤ s.cap
  max : s.cap ≤ 9223372036854775807
  n : s.l.length ≤ 1048576
  sees : (s.p = s.ob.map (fun b => ⟨b, s.off, none⟩) ∧ Sees sz s.ob s.off s.cap s.cs (s.l.flatMap f) s.l.length) ∨ (s.l = [] ∧ s.cap = 0)
theorem InsOk.isS {α : Type} {sz : Nat} {f : α → List Value} {s : Ins α} (h : InsOk sz f s) {i : Nat} (hi : i < s.l.length) : ∃ b, s.p = some ⟨b, s.off, none⟩ ∧ s.ob = some b ∧ Sees sz (some b) s.off s.cap s.cs (s.l.flatMap f) s.l.length := by
  rcases h.sees with ⟨h1, h2⟩ | ⟨h1, h2⟩
  · obtain ⟨b, hb⟩ := h2.isSome (by omega)
    refine ⟨b, by rw [h1, hb]; rfl, hb, ?_⟩
    rw [hb] at h2; exact h2
  · rw [h1] at hi; simp at hi
theorem Yg {α : Type} {s : Ins α} {b : Nat} (h : s.ob = some b) : insK s = (some b, .cells s.cs s.T s.fr) := by unfold insK; rw [h]
/-- An invocation that waits. -/
structure Fr where
  a : Int × Int × Int
  s : Ins (Int × Int)
/-- A tenant that waits, as the document has it. -/
structure Tr where
  a : Int × Int × Int
  q : Int
  s : Ins Fr
  g : Bool
/-- A share. -/
structure Sr where
  q : Int
  s : Ins Tr
  g : Bool
def i1C (x : Int) : List Value := [.int .i64 x]
theorem i1_len (x : Int) : (i1C x).length = 1 := rfl
/-- A need. -/
structure Pr where
  n : List UInt8
  u : Int
  v : Ins Int
  s : Ins Sr
section
variable {f : Fr} {t : Tr} {s : Sr} {p : Pr} {l : List Pr} {z : Option Nat × Obj}
end

end
end Go.Proofs.Ytjnaeoelnmhjfaa
