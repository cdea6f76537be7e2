/- How a call goes: loops, returns, regions, operations, calls of contracts. No program in sight. -/
import Derived.Test.YtkekkalgebgokaaDoorG
set_option linter.unusedSimpArgs false
set_option linter.unusedVariables false
namespace Go.Proofs.YtkekkalgebgokaaDoor
open Go Go.RowKit

section
variable {c : Cx} {n : Nat} {env : List (Nat × Value)} {L : List (Option Nat × Obj)} {k : List Item}

theorem G_loop {X : Type} {body : Code} (J : X → Prop) (μ : X → Nat) (E : X → List (Nat × Value)) (H : X → List (Option Nat × Obj))
    (round : ∀ x, J x → (∀ x', J x' → μ x' < μ x → G c n (E x') (H x') (.inLoop body :: k)) → G c n (E x) (H x) (.code body :: .inLoop body :: k))
    (x0 : X) (h0 : J x0) : G c n (E x0) (H x0) (.code (.loop body) :: k) := by
  have key : ∀ m x, μ x = m → J x → G c n (E x) (H x) (.code body :: .inLoop body :: k) := by
    intro m
    induction m using Nat.strongRecOn with
    | _ m ih =>
      intro x hm hJ
      refine round x hJ fun x' hJ' hlt a w hk hmm => goes_of (fun _ _ => step_inLoop) (ih (μ x') (hm ▸ hlt) x' rfl hJ' a w hk hmm)
  exact fun a w hk hm => goes_of (fun _ _ => step_loop) (key _ x0 rfl h0 a w hk hm)

/-- A result, as it stands at the return. -/
def rvrun (tmps : Array Value) (r : ResultVar) : Sem Value := match r with
  | .tmp t => pure (tmps.getD t undef)
  | .cell x t => do loadVar t (← asAddr (tmps.getD x undef))

def RV (c : Cx) (n : Nat) (env : List (Nat × Value)) (L : List (Option Nat × Obj)) (r : ResultVar) (v : Value) : Prop :=
  ∀ a w, Knows c.ds n env a → Mem c.w0 c.A c.S L w → (rvrun a.tmps r).run c.P w = .ok v w

def RVs (c : Cx) (n : Nat) (env : List (Nat × Value)) (L : List (Option Nat × Obj)) : List ResultVar → List Value → Prop
  | [], [] => True
  | r :: rs, v :: vs => RV c n env L r v ∧ RVs c n env L rs vs
  | _, _ => False

theorem RVs_nil : RVs c n env L [] [] := trivial
theorem RVs_cons {r : ResultVar} {v : Value} {rs : List ResultVar} {vs : List Value} (h : RV c n env L r v) (hs : RVs c n env L rs vs) : RVs c n env L (r :: rs) (v :: vs) := ⟨h, hs⟩

def packed (vs : List Value) : Value := match vs with
  | [v] => v
  | vs => .tuple vs.toArray

theorem RVs.run {a : Act} {w : World} (hk : Knows c.ds n env a) (hm : Mem c.w0 c.A c.S L w) : ∀ {rs : List ResultVar} {vs : List Value}, RVs c n env L rs vs → (rs.mapM (rvrun a.tmps)).run c.P w = .ok vs w
  | [], [], _ => rfl
  | r :: rs, v :: vs, h => by
    have h0 := h.1 a w hk hm
    have ih := RVs.run hk hm h.2
    rw [List.mapM_cons]
    simp [h0, ih]
  | [], _ :: _, h => h.elim
  | _ :: _, [], h => h.elim

theorem goes_ret {fn : Func} {rs : List ResultVar} {vs : List Value} {post : List (Option Nat × Obj)} (hr : fn.results = rs.toArray)
    (hv : RVs c n env L rs vs) {a : Act} {w : World} (hk : Knows c.ds n env a) (hm : Mem c.w0 c.A c.S L w) : (results fn a.tmps).run c.P w = .ok (packed vs) w := by
  have h1 := hv.run hk hm
  have he : results fn a.tmps = (do
      let vs ← fn.results.mapM (rvrun a.tmps)
      pure (if h : vs.size = 1 then vs[0] else .tuple vs)) := by
    unfold results
    have : (rvrun a.tmps) = (fun | .tmp t => pure (a.tmps.getD t undef) | .cell x t => do loadVar t (← asAddr (a.tmps.getD x undef)) : ResultVar → Sem Value) := by
      funext r
      cases r <;> rfl
    rw [this]
    rfl
  rw [he, hr]
  simp only [List.mapM_toArray, Sem.run_bind, Sem.run_map, h1, Result.andThen_ok, Sem.run_pure]
  unfold packed
  match vs with
  | [] => rfl
  | [v] => rfl
  | _ :: _ :: _ => rfl

theorem Mem.dropA {w0 w : World} {A L : List (Option Nat × Obj)} {S : List Nat} (h : Mem w0 A S L w) : Mem w0 [] S L w := ⟨h.has.dropA, h.own, h.chg⟩

theorem G_ret {fn : Func} {rs : List ResultVar} {vs : List Value} {post M : List (Option Nat × Obj)} (hf : c.P.funcs[c.f]? = some fn) (hr : fn.results = rs.toArray)
    (hv : RVs c n env L rs vs) (is : List Nat) (hl : tk is L = some (post, M)) (hR : c.R (packed vs) post) (hds : c.ds = [] := by rfl) : G c n env L (.code .ret :: k) := by
  intro a w hk hm b hb hkind cs
  have h3 := goes_ret (post := post) hr hv hk hm
  exact ⟨packed vs, post, w, _, hR, (hm.sub (tk_perm hl)).dropA, .one step_ret, hb, rfl, hk.defers.trans hds, hkind, fn, by rw [← hf, ← hb]; rfl, h3⟩

theorem G_end {fn : Func} {rs : List ResultVar} {vs : List Value} {post M : List (Option Nat × Obj)} (hf : c.P.funcs[c.f]? = some fn) (hr : fn.results = rs.toArray)
    (hv : RVs c n env L rs vs) (is : List Nat) (hl : tk is L = some (post, M)) (hR : c.R (packed vs) post) (hds : c.ds = [] := by rfl) : G c n env L [] := by
  intro a w hk hm b hb hkind cs
  have h3 := goes_ret (post := post) hr hv hk hm
  exact ⟨packed vs, post, w, _, hR, (hm.sub (tk_perm hl)).dropA, .one step_end, hb, rfl, hk.defers.trans hds, hkind, fn, by rw [← hf, ← hb]; rfl, h3⟩

theorem RV_tmp {t : Nat} {v : Value} (h : fget env t = some v) : RV c n env L (.tmp t) v := fun a w hk _ => by
  have := hk.get t v h
  show (pure (a.tmps.getD t undef) : Sem Value).run c.P w = _
  rw [this]
  rfl

/-- A CONTRACT: called with these arguments where these blocks lie (A: read alone; L: may be written), it returns a value and leaves blocks of which R holds; nothing else that was there has turned. -/
def Ct (P : Program) (f : FuncId) (args : List Value) (A L : List (Option Nat × Obj)) (R : Value → List (Option Nat × Obj) → Prop) : Prop :=
  ∀ w0, Has w0 A L → Calls P f args.toArray w0 fun e w' => ∃ v post, e = .returned v ∧ R v post ∧ Mem w0 [] (hkeys L) post w'

def fargs : Nat → List Value → List (Nat × Value)
  | _, [] => []
  | i, v :: vs => (i, v) :: fargs (i + 1) vs

theorem fget_fargs : ∀ (vs : List Value) (i t : Nat) (v : Value), fget (fargs i vs) t = some v → ∃ j, t = i + j ∧ vs[j]? = some v
  | [], i, t, v, h => by simp [fargs, fget] at h
  | u :: vs, i, t, v, h => by
    simp only [fargs] at h
    rw [fget_cons] at h
    by_cases e : i = t
    · rw [if_pos e] at h
      exact ⟨0, by omega, by simpa using h⟩
    · rw [if_neg e] at h
      obtain ⟨j, h1, h2⟩ := fget_fargs vs (i + 1) t v h
      exact ⟨j + 1, by omega, by simpa using h2⟩

theorem ct_of {P : Program} {f : FuncId} {fn : Func} {body : Code} {args : List Value} {A L : List (Option Nat × Obj)} {R : Value → List (Option Nat × Obj) → Prop}
    (hf : P.funcs[f]? = some fn) (hb : fn.body = some body) (hn : Nat.ble args.length fn.ntmps = true)
    (h : ∀ w0, G ⟨P, f, w0, A, hkeys L, R, []⟩ fn.ntmps (fargs 0 args) L [.code body]) : Ct P f args A L R := by
  intro w0 hw cs
  let b : Frame := { (default : Frame) with fn := f, kind := .normal }
  have hn : args.length ≤ fn.ntmps := by simpa using hn
  have henter : Frame.enter P f args.toArray .normal =
      b.at { tmps := args.toArray ++ Array.replicate (fn.ntmps - args.toArray.size) undef, defers := [] } [.code body] := by
    simp [Frame.enter, Frame.at, hf, hb, b]
  obtain ⟨v, post, w', fr, hR, hm, hst, hfn, hl⟩ := h w0 { tmps := args.toArray ++ Array.replicate (fn.ntmps - args.toArray.size) undef, defers := [] } w0
    ⟨by simp; omega, rfl, fun t v ht => by
      obtain ⟨j, rfl, hj⟩ := fget_fargs _ _ _ _ ht
      have hlt : j < args.length := by
        rcases Nat.lt_or_ge j args.length with h | h
        · exact h
        · rw [List.getElem?_eq_none h] at hj; cases hj
      rw [Nat.zero_add, Array.getD_eq_getD_getElem?, Array.getElem?_append_left (by simpa using hlt)]
      simp [hj]⟩
    ⟨hw, fun b o hm => .inl (mem_hkeys.2 ⟨o, hm⟩), Chg.refl _ _⟩ b rfl rfl cs
  rw [← henter] at hst
  exact ⟨.returned v, w', fr, ⟨v, post, rfl, hR, hm⟩, hst, hfn, hl⟩

/-- Whether an operation is wanted. -/
def fguard (ops : Array Oper) (env : List (Nat × Value)) (o : Oper) : Option Bool := match o.guard with
  | none => some true
  | some (j, want) => match (ops[j]?).bind (·.dst) with
    | none => none
    | some d => match fget env d with
      | some (.bool b) => some (b == want)
      | some (.tuple _) => some false
      | _ => none

theorem wanted_of {ds : List Deferred} {ops : Array Oper} {o : Oper} {a : Act} {g : Bool} (hk : Knows ds n env a) (h : fguard ops env o = some g) : Region.wanted o (yielded ops a.tmps) = g := by
  unfold fguard at h
  unfold Region.wanted
  split at h
  · rename_i hg
    simp only [Option.some.injEq] at h
    subst h
    simp [hg]
  · rename_i j want hg
    split at h
    · cases h
    · rename_i d hd
      split at h
      · rename_i b hb
        simp only [Option.some.injEq] at h
        subst h
        have h1 := hk.get _ _ hb
        have h2 : a.tmps[d]? = some (.bool b) := by
          rw [Array.getD_eq_getD_getElem?] at h1
          cases h3 : a.tmps[d]? with
          | none => rw [h3] at h1; simp [undef] at h1
          | some x => rw [h3] at h1; simpa using h1
        rw [hg]
        simp only [yielded, hd, Option.bind_some, h2]
        cases b <;> cases want <;> rfl
      · rename_i vs hb
        simp only [Option.some.injEq] at h
        subst h
        have h1 := hk.get _ _ hb
        rw [hg]
        rw [Array.getD_eq_getD_getElem?] at h1
        cases h3 : a.tmps[d]? with
        | none => simp only [yielded, hd, Option.bind_some, h3]; cases want <;> rfl
        | some x =>
          rw [h3] at h1
          simp only [Option.getD_some] at h1
          subst h1
          simp only [yielded, hd, Option.bind_some, h3]; cases want <;> rfl
      · cases h

theorem goes_op {ops : Array Oper} {i : Nat} {rest : List Nat} {o : Oper} {a : Act} {w : World} (ho : ops[i]? = some o) (hw : Region.wanted o (yielded ops a.tmps) = true)
    (h : o.upon c.P a (fun a' w' => GoesTo c (.inRegion ops rest :: k) a' w') (fun _ _ _ => False) ((execOp a.eval o).run c.P w)) : GoesTo c (.inRegion ops (i :: rest) :: k) a w := by
  intro b hb hkind cs
  have hg := stepG_op (P := c.P) (b := b) (k := k) (cs := cs) (w := w) (rest := rest) ho hw
  have hfin : ∀ v, (b.at a (.inRegion ops (i :: rest) :: k)).finish v = b.at (a.put o.dst v) (.inRegion ops rest :: k) := by
    intro v; rw [Frame.finish_at, ho]; rfl
  unfold Oper.upon at h
  split at h
  · rename_i v w' hr
    obtain ⟨v', p, w2, fr, hR, hm, hst, e⟩ := h b hb hkind cs
    refine ⟨v', p, w2, fr, hR, hm, .head (step_lone_go ?_) hst, e⟩
    rw [hg, ← hfin]; simp [stepG.apply, hr]
  · rename_i w' hr
    obtain ⟨v', p, w2, fr, hR, hm, hst, e⟩ := h b hb hkind cs
    refine ⟨v', p, w2, fr, hR, hm, .head (step_lone_go ?_) hst, e⟩
    rw [hg, ← hfin]; simp [stepG.apply, hr]
  · rename_i d w' hr
    obtain ⟨v', p, w2, fr, hR, hm, hst, e⟩ := h b hb hkind cs
    refine ⟨v', p, w2, fr, hR, hm, .head (step_lone_go ?_) hst, e⟩
    have : ({ b.at a (.inRegion ops (i :: rest) :: k) with defers := d :: a.defers } : Frame).finish undef =
        b.at ({ a with defers := d :: a.defers }.put o.dst undef) (.inRegion ops rest :: k) := by
      have := Frame.finish_at b { a with defers := d :: a.defers } ops i rest k undef
      rw [ho] at this; exact this
    rw [hg]; simp only [stepG.apply, Sem.runT_eq, hr, GStep.bare_after]
    exact congrArg (fun fr => GStep.go { frame := fr, callers := cs, status := .running, dying := none } w') this
  · rename_i f args w' hr
    obtain ⟨e, w'', fr, hR, hsteps, _, hleave⟩ := h (b.at a (.inRegion ops (i :: rest) :: k) :: cs)
    have henter : step c.P (lone (b.at a (.inRegion ops (i :: rest) :: k)) cs w) =
        .next (lone (Frame.enter c.P f args .normal) (b.at a (.inRegion ops (i :: rest) :: k) :: cs) w') :=
      step_lone_go (by rw [hg]; simp [stepG.apply, hr, Frame.at])
    cases e with
    | returned v =>
      obtain ⟨v', p, w2, fr', hR', hm, hst, e⟩ := hR b hb hkind cs
      refine ⟨v', p, w2, fr', hR', hm, .head henter (hsteps.trans (.head ?_ hst)), e⟩
      rw [← hfin]; exact step_leave_returned hleave
    | panicked chain => exact hR.elim
    | outgrown => obtain ⟨_, _, hR⟩ := hR; exact hR.elim
  · rename_i row args w' hr
    obtain ⟨v, w'', hR, hsteps⟩ := h (b.at a (.inRegion ops (i :: rest) :: k)) cs
    have henter : step c.P (lone (b.at a (.inRegion ops (i :: rest) :: k)) cs w) =
        .next (lone (Frame.ofRow c.P row args .normal) (b.at a (.inRegion ops (i :: rest) :: k) :: cs) w') :=
      step_lone_go (by rw [hg]; simp [stepG.apply, hr, Frame.at])
    obtain ⟨v', p, w2, fr', hR', hm, hst, e⟩ := hR b hb hkind cs
    refine ⟨v', p, w2, fr', hR', hm, .head henter (hsteps.trans ?_), e⟩
    rw [hfin]; exact hst
  · exact h.elim
  · exact h.elim

theorem G_region {id : Nat} {ops : Array Oper} {l : List Nat} (hl : List.range ops.size = l) (h : G c n env L (.inRegion ops l :: k)) : G c n env L (.code (.region id ops false) :: k) :=
  fun a w hk hm => goes_of (fun _ _ => step_region) (by rw [hl]; exact h a w hk hm)
theorem G_done {ops : Array Oper} (h : G c n env L k) : G c n env L (.inRegion ops [] :: k) := fun a w hk hm => goes_of (fun _ _ => step_region_end) (h a w hk hm)

theorem G_off {ops : Array Oper} {i : Nat} {rest : List Nat} {o : Oper} {d : Nat} (ho : ops[i]? = some o) (hd : o.dst = some d) (hn : Nat.blt d n = true) (hg : fguard ops env o = some false)
    (h : G c n ((d, undef) :: env) L (.inRegion ops rest :: k)) : G c n env L (.inRegion ops (i :: rest) :: k) := by
  intro a w hk hm
  refine goes_of (a' := a.put o.dst undef) (w' := w) (todo' := .inRegion ops rest :: k) (fun b cs => ?_) (h _ w (hd ▸ hk.put hn undef) hm)
  have := step_op_skip (P := c.P) (b := b) (a := a) (k := k) (cs := cs) (w := w) (ops := ops) (i := i) (rest := rest) (by simp [ho, wanted_of hk hg])
  rw [ho] at this
  exact this
theorem G_offN {ops : Array Oper} {i : Nat} {rest : List Nat} {o : Oper} (ho : ops[i]? = some o) (hd : o.dst = none) (hg : fguard ops env o = some false)
    (h : G c n env L (.inRegion ops rest :: k)) : G c n env L (.inRegion ops (i :: rest) :: k) := by
  intro a w hk hm
  refine goes_of (a' := a.put o.dst undef) (w' := w) (todo' := .inRegion ops rest :: k) (fun b cs => ?_) (h _ w (hd ▸ hk.putNone undef) hm)
  have := step_op_skip (P := c.P) (b := b) (a := a) (k := k) (cs := cs) (w := w) (ops := ops) (i := i) (rest := rest) (by simp [ho, wanted_of hk hg])
  rw [ho] at this
  exact this

/-- An operation that only tells a value. -/
def Val (c : Cx) (n : Nat) (env : List (Nat × Value)) (L : List (Option Nat × Obj)) (o : Oper) (v : Value) : Prop :=
  ∀ a w, Knows c.ds n env a → Mem c.w0 c.A c.S L w → (execOp a.eval o).run c.P w = .ok (.value v) w

theorem G_val {ops : Array Oper} {i : Nat} {rest : List Nat} {o : Oper} {d : Nat} {v : Value} (ho : ops[i]? = some o) (hd : o.dst = some d) (hn : Nat.blt d n = true) (hg : fguard ops env o = some true)
    (hv : Val c n env L o v) (h : G c n ((d, v) :: env) L (.inRegion ops rest :: k)) : G c n env L (.inRegion ops (i :: rest) :: k) := by
  intro a w hk hm
  refine goes_op ho (wanted_of hk hg) ?_
  rw [hv a w hk hm, Oper.upon_value, hd]
  exact h _ w (hk.put hn v) hm

/-- An operation that makes a block. -/
def New (c : Cx) (n : Nat) (env : List (Nat × Value)) (L : List (Option Nat × Obj)) (o : Oper) (mk : Nat → Value) (ob : Obj) : Prop :=
  ∀ a w, Knows c.ds n env a → Mem c.w0 c.A c.S L w → (execOp a.eval o).run c.P w = .ok (.value (mk w.heap.size)) (w.alloc ob)

theorem Mem.alloc {w0 w : World} {A L : List (Option Nat × Obj)} {S : List Nat} (h : Mem w0 A S L w) (ob : Obj) : Mem w0 A S ((some w.heap.size, ob) :: L) (w.alloc ob) := by
  have hlt : ∀ b o, (some b, o) ∈ A ++ L → b < w.heap.size := fun b o hm => h.has.lt hm
  refine ⟨⟨fun b o hm => ?_, List.pairwise_cons.2 ⟨fun x hx b hb hx' => ?_, h.has.apart⟩, fun b o hm => ?_, fun x hx y hy b hxb hyb => ?_⟩, fun b o hm => ?_, ?_⟩
  · have hm' : (some b, o) ∈ A ++ L := List.mem_append_left _ hm
    rw [Below.heap_alloc _ _ _ (hlt _ _ hm')]
    exact h.has.liesA b o hm
  · obtain ⟨xb, xo⟩ := x
    simp only at hb hx'
    subst hx'
    cases hb
    have := hlt _ _ (List.mem_append_right A hx)
    omega
  · rcases List.mem_cons.1 hm with e | hm
    · cases e
      show (w.heap.push _)[w.heap.size]? = _
      simp
    · rw [Below.heap_alloc _ _ _ (hlt _ _ (List.mem_append_right A hm))]
      exact h.has.lies b o hm
  · rcases List.mem_cons.1 hy with e | hy
    · subst e
      obtain ⟨xb, xo⟩ := x
      simp only at hxb hyb
      subst hxb
      cases hyb
      have := hlt _ _ (List.mem_append_left L hx)
      omega
    · exact h.has.cross x hx y hy b hxb hyb
  · rcases List.mem_cons.1 hm with e | hm
    · cases e
      exact .inr h.chg.size
    · exact h.own b o hm
  · refine ⟨h.chg.os, h.chg.tape, h.chg.output, by have := h.chg.size; simp; omega, fun i hi hS => ?_⟩
    rw [Below.heap_alloc _ _ _ (by have := h.chg.size; omega)]
    exact h.chg.block i hi hS

theorem G_new {ops : Array Oper} {i : Nat} {rest : List Nat} {o : Oper} {d : Nat} {mk : Nat → Value} {ob : Obj} (ho : ops[i]? = some o) (hd : o.dst = some d) (hn : Nat.blt d n = true) (hg : fguard ops env o = some true)
    (hv : New c n env L o mk ob) (h : ∀ b, G c n ((d, mk b) :: env) ((some b, ob) :: L) (.inRegion ops rest :: k)) : G c n env L (.inRegion ops (i :: rest) :: k) := by
  intro a w hk hm
  refine goes_op ho (wanted_of hk hg) ?_
  rw [hv a w hk hm, Oper.upon_value, hd]
  exact h w.heap.size _ _ (hk.put hn _) (hm.alloc ob)

/-- An operation that writes a block. -/
def Put (c : Cx) (n : Nat) (env : List (Nat × Value)) (L : List (Option Nat × Obj)) (o : Oper) (b : Nat) (ob : Obj) : Prop :=
  ∀ a w, Knows c.ds n env a → Mem c.w0 c.A c.S L w → ∃ w', (execOp a.eval o).run c.P w = .ok .skip w' ∧ w'.os = w.os ∧ w'.tape = w.tape ∧ w'.output = w.output ∧ w'.heap.size = w.heap.size ∧ w'.heap[b]? = some ob ∧ ∀ k, k ≠ b → w'.heap[k]? = w.heap[k]?

theorem Mem.put {w0 w w' : World} {A L : List (Option Nat × Obj)} {S : List Nat} {b : Nat} {o ob : Obj} {l1 l2 : List (Option Nat × Obj)} (h : Mem w0 A S L w) (hL : L = l1 ++ (some b, o) :: l2)
    (h1 : w'.os = w.os) (h2 : w'.tape = w.tape) (h3 : w'.output = w.output) (h4 : w'.heap.size = w.heap.size) (h5 : w'.heap[b]? = some ob) (h6 : ∀ k, k ≠ b → w'.heap[k]? = w.heap[k]?) : Mem w0 A S (l1 ++ (some b, ob) :: l2) w' := by
  subst hL
  have hp : ∀ x : Option Nat × Obj, (l1 ++ x :: l2).Perm (x :: (l1 ++ l2)) := fun x => List.perm_middle
  have hh := h.has.perm (hp _)
  obtain ⟨ha, hr⟩ := List.pairwise_cons.1 hh.apart
  have hown : b ∈ S ∨ w0.heap.size ≤ b := h.own b o (by simp)
  have hbase : Has w' A ((some b, ob) :: (l1 ++ l2)) := by
    refine ⟨fun b' o' hm => ?_, List.pairwise_cons.2 ⟨fun x hx b1 hb1 => ha x hx b1 hb1, hr⟩, fun b' o' hm => ?_, fun x hx y hy => ?_⟩
    · have hne : b' ≠ b := fun e => hh.cross _ hm (some b, o) (by simp) b' rfl (by rw [e])
      rw [h6 b' hne]
      exact hh.liesA b' o' hm
    · rcases List.mem_cons.1 hm with e | hm
      · cases e; exact h5
      · have hne : b' ≠ b := fun e => ha _ hm b rfl (by rw [e])
        rw [h6 b' hne]
        exact hh.lies b' o' (List.mem_cons_of_mem _ hm)
    · rcases List.mem_cons.1 hy with e | hy
      · subst e
        exact fun b1 hx1 hy1 => hh.cross x hx (some b, o) (by simp) b1 hx1 hy1
      · exact hh.cross x hx y (List.mem_cons_of_mem _ hy)
  refine ⟨hbase.perm (hp (some b, ob)).symm, fun b' o' hm => ?_, ⟨h1.trans h.chg.os, h2.trans h.chg.tape, h3.trans h.chg.output, by rw [h4]; exact h.chg.size, fun i hi hS => ?_⟩⟩
  · rcases List.mem_append.1 hm with hm | hm
    · exact h.own b' o' (List.mem_append_left _ hm)
    · rcases List.mem_cons.1 hm with e | hm
      · cases e; exact hown
      · exact h.own b' o' (List.mem_append_right _ (List.mem_cons_of_mem _ hm))
  · have hne : i ≠ b := fun e => by subst e; rcases hown with h' | h'; exact hS h'; omega
    rw [h6 i hne]
    exact h.chg.block i hi hS

theorem G_put {ops : Array Oper} {i : Nat} {rest : List Nat} {o : Oper} {b : Nat} {old ob : Obj} {l1 l2 L' : List (Option Nat × Obj)} (ho : ops[i]? = some o) (hd : o.dst = none) (hg : fguard ops env o = some true)
    (hL : L = l1 ++ (some b, old) :: l2) (hv : Put c n env L o b ob) (hL' : l1 ++ (some b, ob) :: l2 = L') (h : G c n env L' (.inRegion ops rest :: k)) : G c n env L (.inRegion ops (i :: rest) :: k) := by
  intro a w hk hm
  obtain ⟨w', hr, h1, h2, h3, h4, h5, h6⟩ := hv a w hk hm
  refine goes_op ho (wanted_of hk hg) ?_
  rw [hr, Oper.upon_skip, hd]
  subst hL'
  exact h _ w' (hk.putNone undef) (hm.put hL h1 h2 h3 h4 h5 h6)

theorem Mem.call {w0 w w' : World} {A L A' L' L2 post : List (Option Nat × Obj)} {S : List Nat} {is js : List Nat} (h : Mem w0 A S L w) (hL : tk is L = some (L', L2)) (_hA : pk js (A ++ L2) = some A')
    (hp : Mem w [] (hkeys L') post w') : Mem w0 A S (post ++ L2) w' := by
  have p1 := tk_perm hL
  have hb : Has w A (L' ++ L2) := h.has.perm p1
  have pw2 := List.pairwise_append.1 hb.apart
  have hlt2 : ∀ b o, (some b, o) ∈ A ++ L2 → b < w.heap.size := fun b o hm => by
    rcases List.mem_append.1 hm with hm | hm
    · exact lt_of_lies (hb.liesA b o hm)
    · exact lt_of_lies (hb.lies b o (List.mem_append_right _ hm))
  have hnot : ∀ b o, (some b, o) ∈ A ++ L2 → b ∉ hkeys L' := fun b o hm hin => by
    obtain ⟨o', ho'⟩ := mem_hkeys.1 hin
    rcases List.mem_append.1 hm with hm | hm
    · exact hb.cross _ hm _ (List.mem_append_left _ ho') b rfl rfl
    · exact pw2.2.2 _ ho' _ hm b rfl rfl
  have hcross : ∀ x ∈ A ++ L2, ∀ y ∈ post, Apart x y := fun x hx y hy b hxb hyb => by
    obtain ⟨xb, xo⟩ := x
    obtain ⟨yb, yo⟩ := y
    simp only at hxb hyb
    subst hxb hyb
    rcases hp.own b yo hy with h' | h'
    · exact hnot b xo hx h'
    · have := hlt2 _ _ hx
      omega
  refine ⟨⟨fun b o hm => ?_, List.pairwise_append.2 ⟨hp.has.apart, pw2.2.1, fun x hx y hy => (hcross y (List.mem_append_right _ hy) x hx).symm⟩, fun b o hm => ?_, fun x hx y hy => ?_⟩, fun b o hm => ?_, h.chg.trans hp.chg (fun b hb' => ?_)⟩
  · have hm' : (some b, o) ∈ A ++ L2 := List.mem_append_left _ hm
    rw [hp.chg.block b (hlt2 _ _ hm') (hnot b o hm')]
    exact hb.liesA b o hm
  · rcases List.mem_append.1 hm with hm | hm
    · exact hp.lies hm
    · have hm' : (some b, o) ∈ A ++ L2 := List.mem_append_right _ hm
      rw [hp.chg.block b (hlt2 _ _ hm') (hnot b o hm')]
      exact hb.lies b o (List.mem_append_right _ hm)
  · rcases List.mem_append.1 hy with hy | hy
    · exact hcross x (List.mem_append_left _ hx) y hy
    · exact hb.cross x hx y (List.mem_append_right _ hy)
  · rcases List.mem_append.1 hm with hm | hm
    · rcases hp.own b o hm with h' | h'
      · obtain ⟨o', ho'⟩ := mem_hkeys.1 h'
        exact h.own b o' (p1.mem_iff.2 (List.mem_append_left _ ho'))
      · exact .inr (Nat.le_trans h.chg.size h')
    · exact h.own b o (p1.mem_iff.2 (List.mem_append_right _ hm))
  · obtain ⟨o', ho'⟩ := mem_hkeys.1 hb'
    exact h.own b o' (p1.mem_iff.2 (List.mem_append_left _ ho'))

theorem Mem.has_call {w0 w : World} {A L A' L' L2 : List (Option Nat × Obj)} {S : List Nat} {is js : List Nat} (h : Mem w0 A S L w) (hL : tk is L = some (L', L2)) (hA : pk js (A ++ L2) = some A') : Has w A' L' := by
  have hb : Has w A (L' ++ L2) := h.has.perm (tk_perm hL)
  have hmem := pk_mem hA
  have pw2 := List.pairwise_append.1 hb.apart
  refine ⟨fun b o hm => ?_, pw2.1, fun b o hm => hb.lies b o (List.mem_append_left _ hm), fun x hx y hy => ?_⟩
  · rcases List.mem_append.1 (hmem _ hm) with hm | hm
    · exact hb.liesA b o hm
    · exact hb.lies b o (List.mem_append_right _ hm)
  · rcases List.mem_append.1 (hmem _ hx) with hx | hx
    · exact hb.cross x hx y (List.mem_append_left _ hy)
    · exact (pw2.2.2 y hy x hx).symm

theorem G_call {ops : Array Oper} {i : Nat} {rest : List Nat} {o : Oper} {d : Nat} {g : FuncId} {xs : Array Operand} {ts : Array TypeId} {args : List Value} {A' L' L2 : List (Option Nat × Obj)} {R' : Value → List (Option Nat × Obj) → Prop}
    (ho : ops[i]? = some o) (hd : o.dst = some d) (hn : Nat.blt d n = true) (hg : fguard ops env o = some true) (hop : o.op = .call ⟨.value (.func g), xs, ts⟩) (hxs : fevs env xs.toList = some args)
    (hcf : ∀ (az : Array Value) w, (callFunc g az).run c.P w = .ok (.enter g az) w) (hct : Ct c.P g args A' L' R') (is js : List Nat) (hL : tk is L = some (L', L2)) (hA : pk js (c.A ++ L2) = some A')
    (K : ∀ v post, R' v post → G c n ((d, v) :: env) (post ++ L2) (.inRegion ops rest :: k)) : G c n env L (.inRegion ops (i :: rest) :: k) := by
  intro a w hk hm
  refine goes_op ho (wanted_of hk hg) ?_
  have hx : xs.map a.eval = args.toArray := by
    apply Array.toList_inj.1
    simpa using hk.evals hxs
  have hr : (execOp a.eval o).run c.P w = .ok (.enter g args.toArray) w := by
    unfold execOp
    simp [hop, resolve, Act.eval, Deferred.ofValue, hx, invoke, hcf]
  rw [hr, Oper.upon_enter]
  refine (hct w (hm.has_call hL hA)).mono fun e w' ⟨v, post, he, hR, hp⟩ => ?_
  subst he
  simp only [hd]
  exact K v post hR _ w' (hk.put hn v) (hm.call hL hA hp)

theorem G_callN {ops : Array Oper} {i : Nat} {rest : List Nat} {o : Oper} {g : FuncId} {xs : Array Operand} {ts : Array TypeId} {args : List Value} {A' L' L2 : List (Option Nat × Obj)} {R' : Value → List (Option Nat × Obj) → Prop}
    (ho : ops[i]? = some o) (hd : o.dst = none) (hg : fguard ops env o = some true) (hop : o.op = .call ⟨.value (.func g), xs, ts⟩) (hxs : fevs env xs.toList = some args)
    (hcf : ∀ (az : Array Value) w, (callFunc g az).run c.P w = .ok (.enter g az) w) (hct : Ct c.P g args A' L' R') (is js : List Nat) (hL : tk is L = some (L', L2)) (hA : pk js (c.A ++ L2) = some A')
    (K : ∀ v post, R' v post → G c n env (post ++ L2) (.inRegion ops rest :: k)) : G c n env L (.inRegion ops (i :: rest) :: k) := by
  intro a w hk hm
  refine goes_op ho (wanted_of hk hg) ?_
  have hx : xs.map a.eval = args.toArray := by
    apply Array.toList_inj.1
    simpa using hk.evals hxs
  have hr : (execOp a.eval o).run c.P w = .ok (.enter g args.toArray) w := by
    unfold execOp
    simp [hop, resolve, Act.eval, Deferred.ofValue, hx, invoke, hcf]
  rw [hr, Oper.upon_enter]
  refine (hct w (hm.has_call hL hA)).mono fun e w' ⟨v, post, he, hR, hp⟩ => ?_
  subst he
  simp only [hd]
  exact K v post hR _ w' (hk.putNone v) (hm.call hL hA hp)
end
end Go.Proofs.YtkekkalgebgokaaDoor
