/- What the law LogAppends needs, part 5. -/
import Derived.Test.YtbblkgdejgoncaaDoorPkLogAppends1
import Derived.Test.YtbblkgdejgoncaaDoorPkLogAppends2
import Derived.Test.YtbblkgdejgoncaaDoorPkLogAppends3
import Derived.Test.YtbblkgdejgoncaaDoorPkLogAppends4
import Derived.RangeFuncRecord
import Derived.Test.YtbblkgdejgoncaaDoorRows
import Derived.WalkKit
import Derived.ProofKit
import Derived.OpenShut
import Derived.ShutString
import Derived.ChangeOld
import Derived.Below
import Derived.Deep.Slices

/- A range over a function: the loop's record, its rounds, the mark that it leaves. No program in sight. -/
set_option linter.unusedSimpArgs false
set_option linter.unusedVariables false
namespace Go.Proofs.YtbblkgdejgoncaaDoor
open Go Go.RowKit

theorem Mem.putObj {w0 w : World} {A l1 l2 : List (Option Nat × Obj)} {S : List Nat} {r : Nat} {o : Obj} (h : Mem w0 A S (l1 ++ (some r, o) :: l2) w) (o' : Obj) : Mem w0 A S (l1 ++ (some r, o') :: l2) (w.putObj r o') :=
  h.put rfl rfl rfl rfl (by simp) (World.putObj_heap_same (h.has.lt (List.mem_append_right A (by simp : (some r, o) ∈ l1 ++ (some r, o) :: l2)))) (fun k hk => World.putObj_heap_other hk)

/-- A ROUND's CONTRACT: begun where these blocks lie, it hands a value back to whoever called yield. -/
def Rd (P : Program) (l : Nat) (f : FuncId) (tmps : Array Value) (assign body : Code) (A L : List (Option Nat × Obj)) (R : Value → List (Option Nat × Obj) → Prop) : Prop :=
  ∀ w0, Has w0 A L → ∀ (cl : Frame) cs, ∃ v post w', R v post ∧ Mem w0 [] (hkeys L) post w' ∧ Steps P (lone (Frame.round l f tmps assign body .normal) (cl :: cs) w0) (lone (cl.finish v) cs w')

def GoesR (c : Cx) (l : Nat) (todo : List Item) (a : Act) (w : World) : Prop :=
  ∀ (b : Frame), b.fn = c.f → b.kind = .normal → b.roundOf = some l → ∀ (cl : Frame) cs, ∃ v post w', c.R v post ∧ Mem c.w0 [] c.S post w' ∧ Steps c.P (lone (b.atR a todo) (cl :: cs) w) (lone (cl.finish v) cs w')
def GR (c : Cx) (l n : Nat) (env : List (Nat × Value)) (L : List (Option Nat × Obj)) (todo : List Item) : Prop :=
  ∀ a w, Knows c.ds n env a → Mem c.w0 c.A c.S L w → GoesR c l todo a w

section
variable {c : Cx} {l n : Nat} {env : List (Nat × Value)} {L : List (Option Nat × Obj)} {k : List Item}
theorem goesR_of {todo todo' : List Item} {a a' : Act} {w w' : World} (hs : ∀ (b : Frame) cs, step c.P (lone (b.atR a todo) cs w) = .next (lone (b.atR a' todo') cs w')) (h : GoesR c l todo' a' w') : GoesR c l todo a w :=
  fun b hb hk hr cl cs => let ⟨v, p, w2, hR, hm, hst⟩ := h b hb hk hr cl cs; ⟨v, p, w2, hR, hm, .head (hs b (cl :: cs)) hst⟩
theorem GR_skip (h : GR c l n env L k) : GR c l n env L (.code .skip :: k) := fun a w hk hm => goesR_of (fun _ _ => stepR_skip) (h a w hk hm)
theorem GR_label {t : Nat} (h : GR c l n env L k) : GR c l n env L (.code (.label t) :: k) := fun a w hk hm => goesR_of (fun _ _ => stepR_label) (h a w hk hm)
theorem GR_inBlock {id : Nat} (h : GR c l n env L k) : GR c l n env L (.inBlock id :: k) := fun a w hk hm => goesR_of (fun _ _ => stepR_inBlock) (h a w hk hm)
theorem GR_seq {x y : Code} (h : GR c l n env L (.code x :: .code y :: k)) : GR c l n env L (.code (.seq x y) :: k) := fun a w hk hm => goesR_of (fun _ _ => stepR_seq) (h a w hk hm)
theorem GR_block {id : Nat} {x : Code} (h : GR c l n env L (.code x :: .inBlock id :: k)) : GR c l n env L (.code (.block id x) :: k) := fun a w hk hm => goesR_of (fun _ _ => stepR_block) (h a w hk hm)
theorem GR_exit {id : Nat} {k' : List Item} (he : exitTo id k = some k') (h : GR c l n env L k') : GR c l n env L (.code (.exit id) :: k) := fun a w hk hm => goesR_of (fun _ _ => stepR_exit he) (h a w hk hm)
theorem GR_region {id : Nat} {ops : Array Oper} {r : List Nat} (hl : List.range ops.size = r) (h : GR c l n env L (.inRegion ops r :: k)) : GR c l n env L (.code (.region id ops false) :: k) :=
  fun a w hk hm => goesR_of (fun _ _ => stepR_region) (by rw [hl]; exact h a w hk hm)
theorem GR_done {ops : Array Oper} (h : GR c l n env L k) : GR c l n env L (.inRegion ops [] :: k) := fun a w hk hm => goesR_of (fun _ _ => stepR_region_end) (h a w hk hm)
theorem GR_begin {r : Loop} {l1 l2 L' : List (Option Nat × Obj)} (hL : L = l1 ++ (some l, .loop r) :: l2) (hr : r.state = .ready) (hL' : l1 ++ (some l, .loop { r with state := .busy }) :: l2 = L') (h : GR c l n env L' k) : GR c l n env L (.beginRound :: k) := by
  intro a w hk hm b hb hkind hro cl cs
  subst hL hL'
  have hl : w.heap[l]? = some (.loop r) := hm.lies (by simp)
  obtain ⟨v, p, w2, hR, hm2, hst⟩ := h a _ hk (hm.putObj (.loop { r with state := .busy })) b hb hkind hro cl cs
  exact ⟨v, p, w2, hR, hm2, .head (stepR_beginRound hro (run_beginRound hl hr)) hst⟩
/-- A round that falls off its end. -/
theorem GR_end {r : Loop} {l1 l2 L' post M : List (Option Nat × Obj)} (hL : L = l1 ++ (some l, .loop r) :: l2) (hL' : l1 ++ (some l, .loop { r with state := .ready, pending := none }) :: l2 = L') (is : List Nat) (ht : tk is L' = some (post, M)) (hR : c.R (.bool true) post) : GR c l n env L [] := by
  intro a w hk hm b hb hkind hro cl cs
  subst hL hL'
  have hl : w.heap[l]? = some (.loop r) := hm.lies (by simp)
  have h1 := hm.putObj (.loop { r with state := .ready, pending := none })
  exact ⟨.bool true, post, _, hR, (h1.sub (tk_perm ht)).dropA, .one (stepR_round_end hro hkind (run_endRound none hl))⟩

theorem goesR_op {ops : Array Oper} {i : Nat} {rest : List Nat} {o : Oper} {a : Act} {w : World} (ho : ops[i]? = some o) (hnd : ∀ x, o.op ≠ .defer x) (hw : Region.wanted o (yielded ops a.tmps) = true)
    (h : o.upon c.P a (fun a' w' => GoesR c l (.inRegion ops rest :: k) a' w') (fun _ _ _ => False) ((execOp a.eval o).run c.P w)) : GoesR c l (.inRegion ops (i :: rest) :: k) a w := by
  intro b hb hkind hro cl cs
  have hg := stepGR_op (P := c.P) (b := b) (k := k) (cs := cl :: cs) (w := w) (rest := rest) ho hw
  rw [Oper.semAt_eq _ _ _ hnd] at hg
  have hfin : ∀ v, (b.atR a (.inRegion ops (i :: rest) :: k)).finish v = b.atR (a.put o.dst v) (.inRegion ops rest :: k) := by
    intro v; rw [Frame.finish_atR, ho]; rfl
  unfold Oper.upon at h
  split at h
  · rename_i v w' hr
    obtain ⟨v', p, w2, hR, hm, hst⟩ := h b hb hkind hro cl cs
    refine ⟨v', p, w2, hR, hm, .head (step_lone_go ?_) hst⟩
    rw [hg, ← hfin]; simp [stepG.apply, hr]
  · rename_i w' hr
    obtain ⟨v', p, w2, hR, hm, hst⟩ := h b hb hkind hro cl cs
    refine ⟨v', p, w2, hR, hm, .head (step_lone_go ?_) hst⟩
    rw [hg, ← hfin]; simp [stepG.apply, hr]
  · rename_i d w' hr
    obtain ⟨v', p, w2, hR, hm, hst⟩ := h b hb hkind hro cl cs
    refine ⟨v', p, w2, hR, hm, .head (step_lone_go ?_) hst⟩
    have : ({ b.atR a (.inRegion ops (i :: rest) :: k) with defers := d :: a.defers } : Frame).finish undef =
        b.atR ({ a with defers := d :: a.defers }.put o.dst undef) (.inRegion ops rest :: k) := by
      have := Frame.finish_atR b { a with defers := d :: a.defers } ops i rest k undef
      rw [ho] at this; exact this
    rw [hg]; simp only [stepG.apply, Sem.runT_eq, hr, GStep.bare_after]
    exact congrArg (fun fr => GStep.go { frame := fr, callers := cl :: cs, status := .running, dying := none } w') this
  · rename_i f args w' hr
    obtain ⟨e, w'', fr, hR, hsteps, _, hleave⟩ := h (b.atR a (.inRegion ops (i :: rest) :: k) :: cl :: cs)
    have henter : step c.P (lone (b.atR a (.inRegion ops (i :: rest) :: k)) (cl :: cs) w) =
        .next (lone (Frame.enter c.P f args .normal) (b.atR a (.inRegion ops (i :: rest) :: k) :: cl :: cs) w') :=
      step_lone_go (by rw [hg]; simp [stepG.apply, hr, Frame.atR])
    cases e with
    | returned v =>
      obtain ⟨v', p, w2, hR', hm, hst⟩ := hR b hb hkind hro cl cs
      refine ⟨v', p, w2, hR', hm, .head henter (hsteps.trans (.head ?_ hst))⟩
      rw [← hfin]; exact step_leave_returned hleave
    | panicked chain => exact hR.elim
    | outgrown => obtain ⟨_, _, hR⟩ := hR; exact hR.elim
  · rename_i row args w' hr
    obtain ⟨v, w'', hR, hsteps⟩ := h (b.atR a (.inRegion ops (i :: rest) :: k)) (cl :: cs)
    have henter : step c.P (lone (b.atR a (.inRegion ops (i :: rest) :: k)) (cl :: cs) w) =
        .next (lone (Frame.ofRow c.P row args .normal) (b.atR a (.inRegion ops (i :: rest) :: k) :: cl :: cs) w') :=
      step_lone_go (by rw [hg]; simp [stepG.apply, hr, Frame.atR])
    obtain ⟨v', p, w2, hR', hm, hst⟩ := hR b hb hkind hro cl cs
    refine ⟨v', p, w2, hR', hm, .head henter (hsteps.trans ?_)⟩
    rw [hfin]; exact hst
  · exact h.elim
  · exact h.elim
theorem GR_val {ops : Array Oper} {i : Nat} {rest : List Nat} {o : Oper} {d : Nat} {v : Value} (ho : ops[i]? = some o) (hd : o.dst = some d) (hn : Nat.blt d n = true) (hg : fguard ops env o = some true) (hnd : ∀ x, o.op ≠ .defer x)
    (hv : Val c n env L o v) (h : GR c l n ((d, v) :: env) L (.inRegion ops rest :: k)) : GR c l n env L (.inRegion ops (i :: rest) :: k) := by
  intro a w hk hm
  refine goesR_op ho hnd (wanted_of hk hg) ?_
  rw [hv a w hk hm, Oper.upon_value, hd]
  exact h _ w (hk.put hn v) hm
theorem GR_new {ops : Array Oper} {i : Nat} {rest : List Nat} {o : Oper} {d : Nat} {mk : Nat → Value} {ob : Obj} (ho : ops[i]? = some o) (hd : o.dst = some d) (hn : Nat.blt d n = true) (hg : fguard ops env o = some true) (hnd : ∀ x, o.op ≠ .defer x)
    (hv : New c n env L o mk ob) (h : ∀ b, GR c l n ((d, mk b) :: env) ((some b, ob) :: L) (.inRegion ops rest :: k)) : GR c l n env L (.inRegion ops (i :: rest) :: k) := by
  intro a w hk hm
  refine goesR_op ho hnd (wanted_of hk hg) ?_
  rw [hv a w hk hm, Oper.upon_value, hd]
  exact h w.heap.size _ _ (hk.put hn _) (hm.alloc ob)
theorem GR_put {ops : Array Oper} {i : Nat} {rest : List Nat} {o : Oper} {b : Nat} {old ob : Obj} {l1 l2 L' : List (Option Nat × Obj)} (ho : ops[i]? = some o) (hd : o.dst = none) (hg : fguard ops env o = some true) (hnd : ∀ x, o.op ≠ .defer x)
    (hL : L = l1 ++ (some b, old) :: l2) (hv : Put c n env L o b ob) (hL' : l1 ++ (some b, ob) :: l2 = L') (h : GR c l n env L' (.inRegion ops rest :: k)) : GR c l n env L (.inRegion ops (i :: rest) :: k) := by
  intro a w hk hm
  obtain ⟨w', hr, h1, h2, h3, h4, h5, h6⟩ := hv a w hk hm
  refine goesR_op ho hnd (wanted_of hk hg) ?_
  rw [hr, Oper.upon_skip, hd]
  subst hL'
  exact h _ w' (hk.putNone undef) (hm.put hL h1 h2 h3 h4 h5 h6)
theorem GR_append {ops : Array Oper} {i : Nat} {rest : List Nat} {o : Oper} {d m nn sz bt : Nat} {x y : Operand} {t u e ty : TypeId} {ds : TypeDesc} {ps : String} {es : Array Edge} {gd : Option (Nat × Bool)} {ti : TypeInfo} {z xv : Value} {s : Sl} {xs news : List Value} {l1 l2 : List (Option Nat × Obj)}
    (ho : ops[i]? = some o) (hop : o = ⟨some d, .call ⟨.builtin .append, #[x, y], #[t, u]⟩, ty, ps, es, gd⟩) (hn : Nat.blt d n = true) (hg : fguard ops env o = some true)
    (ht : c.P.underlying t = some (.slice e)) (hu : c.P.underlying u = some ds) (hds : ds = .string ∨ ∃ e', ds = .slice e') (hi : c.P.info? e = some ti) (hz : ti.zero = some z) (hsz : ti.size = sz) (hzs : z.cells.size = sz) (hbt : ti.bytes = bt)
    (hx : fev env x = some (s.v nn)) (hy : fev env y = some xv) (hown : Own sz s xs nn) (hL : L = l1 ++ (s.ob, .cells s.cs e s.fz) :: l2) (hS : ∀ w, Has w c.A L → Src c.P w sz xv m news)
    (h63 : nn + m ≤ 9223372036854775807) (hbytes : (nn + m) * bt ≤ 140737488355328)
    (h : ∀ s' : Sl, Own sz s' (xs ++ news) (nn + m) → More s s' → GR c l n ((d, s'.v (nn + m)) :: env) (l1 ++ (s'.ob, .cells s'.cs e s'.fz) :: l2) (.inRegion ops rest :: k)) : GR c l n env L (.inRegion ops (i :: rest) :: k) := by
  intro a w hk hm
  subst hop
  refine goesR_op ho (fun _ h => by cases h) (wanted_of hk hg) ?_
  obtain ⟨s', w', hr, h1, h2, h3, h4, h5⟩ := run_append_any (P := c.P) w t u ty e ds ti z sz ht hu hds hi hz hsz hzs s xs nn hown (fun b hb => hm.lies (by rw [hL, ← hb]; simp)) xv m news (hS w hm.has) h63 (by rw [hbt]; exact hbytes)
  have hrun : (execOp a.eval ⟨some d, .call ⟨.builtin .append, #[x, y], #[t, u]⟩, ty, ps, es, gd⟩).run c.P w = .ok (.value (s'.v (nn + m))) w' := by
    unfold execOp
    simp only [resolve, invoke, builtin, Sem.run_bind, Sem.run_pure, Result.andThen_ok, List.map_toArray, List.map_cons, List.map_nil, hk.eval hx, hk.eval hy, hr]
  rw [hrun, Oper.upon_value]
  subst hL
  exact h s' h1 h5 _ w' (hk.put hn _) (hm.grown h2 h3 h4)
theorem zip_one (t : Tmp) (v : Value) (T : Array Value) : ((#[t] : Array Tmp).zip #[v]).foldl (fun tmps (t, a) => tmps.setIfInBounds t a) T = T.setIfInBounds t v := by simp
/-- A round's contract, out of its walk. -/
theorem rd_of {P : Program} {f : FuncId} {tmps : Array Value} {assign body : Code} {A L : List (Option Nat × Obj)} {R : Value → List (Option Nat × Obj) → Prop} (hk : Knows [] n env ⟨tmps, []⟩)
    (h : ∀ w0, GR ⟨P, f, w0, A, hkeys L, R, []⟩ l n env L [.code assign, .beginRound, .code body]) : Rd P l f tmps assign body A L R := by
  intro w0 hw cl cs
  let b : Frame := { (default : Frame) with fn := f, kind := .normal, roundOf := some l }
  have hb0 : Frame.round l f tmps assign body .normal = b.atR { tmps := tmps, defers := [] } [.code assign, .beginRound, .code body] := by
    simp [Frame.round, Frame.atR, b]
  obtain ⟨v, post, w', hR, hm, hst⟩ := h w0 ⟨tmps, []⟩ w0 hk ⟨hw, fun b o hm => .inl (mem_hkeys.2 ⟨o, hm⟩), Chg.refl _ _⟩ b rfl rfl rfl cl cs
  rw [hb0]
  exact ⟨v, post, w', hR, hm, hst⟩

/-- A call of yield. -/
theorem G_yield {ops : Array Oper} {i : Nat} {rest : List Nat} {o : Oper} {d : Nat} {x : Operand} {xs : Array Operand} {ts : Array TypeId} {args : List Value} {r : Loop} {A' L' L2 : List (Option Nat × Obj)} {R' : Value → List (Option Nat × Obj) → Prop}
    (ho : ops[i]? = some o) (hd : o.dst = some d) (hn : Nat.blt d n = true) (hg : fguard ops env o = some true) (hop : o.op = .call ⟨.value x, xs, ts⟩) (hxs : fevs env xs.toList = some args)
    (hfn : fev env x = some (.func (.yield l) #[] #[])) (hl : (some l, .loop r) ∈ c.A ++ L) (hps : args.toArray.size = r.params.size)
    (hrd : Rd c.P l r.fn ((r.params.zip args.toArray).foldl (fun tmps (t, a) => tmps.setIfInBounds t a) r.tmps) r.assign r.body A' L' R') (is js : List Nat) (hL : tk is L = some (L', L2)) (hA : pk js (c.A ++ L2) = some A')
    (K : ∀ v post, R' v post → G c n ((d, v) :: env) (post ++ L2) (.inRegion ops rest :: k)) : G c n env L (.inRegion ops (i :: rest) :: k) := by
  intro a w hk hm b hb hkind cs
  have hgs := stepG_op (P := c.P) (b := b) (k := k) (cs := cs) (w := w) (rest := rest) ho (wanted_of hk hg)
  have hfin : ∀ v, (b.at a (.inRegion ops (i :: rest) :: k)).finish v = b.at (a.put o.dst v) (.inRegion ops rest :: k) := by
    intro v; rw [Frame.finish_at, ho]; rfl
  have hx : xs.map a.eval = args.toArray := by
    apply Array.toList_inj.1
    simpa using hk.evals hxs
  have hy := run_yield (P := c.P) (hm.has.both hl) hps
  have hr : (execOp a.eval o).run c.P w = .ok (.round l r.fn ((r.params.zip args.toArray).foldl (fun tmps (t, a) => tmps.setIfInBounds t a) r.tmps) r.assign r.body) w := by
    unfold execOp
    have hf := hk.eval hfn
    simp [hop, resolve, hf, Deferred.ofValue, hx, invoke, hy]
  obtain ⟨v, post, w', hR, hp, hst⟩ := hrd w (hm.has_call hL hA) (b.at a (.inRegion ops (i :: rest) :: k)) cs
  have hstep : step c.P (lone (b.at a (.inRegion ops (i :: rest) :: k)) cs w) = .next (lone (Frame.round l r.fn ((r.params.zip args.toArray).foldl (fun tmps (t, a) => tmps.setIfInBounds t a) r.tmps) r.assign r.body .normal) (b.at a (.inRegion ops (i :: rest) :: k) :: cs) w) :=
    step_lone_go (by rw [hgs]; simp [stepG.apply, hr, Frame.at])
  rw [hfin, hd] at hst
  obtain ⟨v', p, w2, fr, hR', hm', hst', e⟩ := K v post hR _ w' (hk.put hn v) (hm.call hL hA hp) b hb hkind cs
  exact ⟨v', p, w2, fr, hR', hm', .head hstep (hst.trans hst'), e⟩

theorem Mem.callP {w0 w w' : World} {A L L' L2 post : List (Option Nat × Obj)} {S : List Nat} (h : Mem w0 A S L w) (p1 : L.Perm (L' ++ L2))
    (hp : Mem w [] (hkeys L') post w') : Mem w0 A S (post ++ L2) w' := by
  have h' : Mem w0 A S (L' ++ L2) w := ⟨h.has.perm p1, fun b o hm => h.own b o (p1.mem_iff.2 hm), h.chg⟩
  have ht : tk (List.replicate L'.length 0) (L' ++ L2) = some (L', L2) := by
    clear h h' p1 hp
    induction L' with
    | nil => rfl
    | cons x L' ih => simp [List.replicate_succ, tk, ih]
  exact h'.call ht (js := []) (A' := []) rfl hp
theorem Mem.has_callP {w0 w : World} {A L A' L' L2 : List (Option Nat × Obj)} {S : List Nat} (h : Mem w0 A S L w) (p1 : L.Perm (L' ++ L2)) (hmem : ∀ x ∈ A', x ∈ A ++ L2) : Has w A' L' := by
  have hb : Has w A (L' ++ L2) := h.has.perm p1
  have pw2 := List.pairwise_append.1 hb.apart
  refine ⟨fun b o hm => ?_, pw2.1, fun b o hm => hb.lies b o (List.mem_append_left _ hm), fun x hx y hy => ?_⟩
  · rcases List.mem_append.1 (hmem _ hm) with hm | hm
    · exact hb.liesA b o hm
    · exact hb.lies b o (List.mem_append_right _ hm)
  · rcases List.mem_append.1 (hmem _ hx) with hx | hx
    · exact hb.cross x hx y (List.mem_append_left _ hy)
    · exact (pw2.2.2 y hy x hx).symm

/-- The record of a loop that begins. -/
def loop0 (f : FuncId) (T : Array Value) (ps : Array Tmp) (assign body : Code) (D : Nat) : Loop := { state := .ready, pending := none, fn := f, tmps := T, params := ps, assign, body, defers := D }
def markD (D : Nat) : List Deferred := [{ target := .collected D, args := #[] }]
def Cx.marked (c : Cx) (D : Nat) : Cx := { c with ds := markD D }
/-- THE STATEMENT: the iterator's contract, at this loop's record; behind it the frame bears the mark. -/
theorem G_rangeFunc {g : Operand} {ps : Array Tmp} {assign body : Code} {gf : FuncId} {vs : List Value} {A' L' L2 : List (Option Nat × Obj)} {R' : Nat → Nat → Array Value → Value → List (Option Nat × Obj) → Prop}
    (hds : c.ds = []) (hfn : fev env g = some (.func (.func gf) #[] vs.toArray)) (hcf : ∀ (az : Array Value) w, (callFunc gf az).run c.P w = .ok (.enter gf az) w)
    (hct : ∀ l D T, Knows [] n env ⟨T, []⟩ → Ct c.P gf (.func (.yield l) #[] #[] :: vs) A' ((some l, .loop (loop0 c.f T ps assign body D)) :: L') (R' l D T)) (is js : List Nat) (hL : tk is L = some (L', L2)) (hA : pk js (c.A ++ L2) = some A')
    (K : ∀ l D T v post, R' l D T v post → ∃ r post', post = (some l, .loop r) :: post' ∧ r.state ≠ .busy ∧ r.pending = none ∧ G (c.marked D) n env ((some D, .deferred (some [])) :: (post' ++ L2)) k) : G c n env L (.code (.rangeFunc g ps assign body) :: k) := by
  intro a w hk hm b hb hkind cs
  have hdf : a.defers = [] := hk.defers.trans hds
  let b' : Frame := { b with roundOf := none }
  have hat : ∀ (a : Act) todo, b'.atR a todo = b.at a todo := fun _ _ => rfl
  have he := run_enterLoop_outer (P := c.P) (w := w) b'.fn a.tmps ps assign body
  have hev := hk.eval hfn
  let W1 := (w.alloc (.deferred (some []))).alloc (.loop { state := .ready, pending := none, fn := b'.fn, tmps := a.tmps, params := ps, assign, body, defers := w.heap.size })
  have hres : (resolve a.eval (rangeCall g (w.heap.size + 1)) 0).run c.P W1 = .ok { target := .fn (.func gf) vs.toArray, args := #[.func (.yield (w.heap.size + 1)) #[] #[]] } W1 := by
    simp only [resolve, hev]
    simp [go_sem]
  have hinv : (invoke (Target.fn (.func gf) vs.toArray) #[.func (.yield (w.heap.size + 1)) #[] #[]]).run c.P W1 = .ok (.enter gf (Value.func (.yield (w.heap.size + 1)) #[] #[] :: vs).toArray) W1 := by
    simp [invoke, go_sem, hcf]
  have s1 := stepR_rangeFunc (P := c.P) (b := b') (a := a) (k := k) (cs := cs) (w := w) he hres hinv
  have m0 := hm.alloc (.deferred (some []))
  have m1 := m0.alloc (.loop (loop0 c.f a.tmps ps assign body w.heap.size))
  have hfb : b'.fn = c.f := hb
  have hW1 : (w.alloc (.deferred (some []))).alloc (.loop (loop0 c.f a.tmps ps assign body w.heap.size)) = W1 := by show _ = (w.alloc _).alloc (.loop { state := .ready, pending := none, fn := b'.fn, tmps := a.tmps, params := ps, assign, body, defers := w.heap.size }); rw [hfb]; rfl
  rw [hW1, show (w.alloc (.deferred (some []))).heap.size = w.heap.size + 1 by simp] at m1
  have p1 := tk_perm hL
  have p2 : ((some (w.heap.size + 1), Obj.loop (loop0 c.f a.tmps ps assign body w.heap.size)) :: (some w.heap.size, Obj.deferred (some [])) :: L).Perm (((some (w.heap.size + 1), Obj.loop (loop0 c.f a.tmps ps assign body w.heap.size)) :: L') ++ ((some w.heap.size, Obj.deferred (some [])) :: L2)) := by
    rw [List.cons_append]
    refine List.Perm.cons _ ?_
    exact (List.Perm.cons _ p1).trans List.perm_middle.symm
  have hkT : Knows [] n env ⟨a.tmps, []⟩ := ⟨hk.size, rfl, hk.get⟩
  obtain ⟨e, w3, fr, ⟨v, post, rfl, hR, hp⟩, hsteps, hfn', hleave⟩ := hct (w.heap.size + 1) w.heap.size a.tmps hkT W1 (m1.has_callP p2 (fun x hx => by
    rcases List.mem_append.1 (pk_mem hA x hx) with h | h
    · exact List.mem_append_left _ h
    · exact List.mem_append_right _ (List.mem_cons_of_mem _ h))) (b'.atR { a with defers := [{ target := .collected w.heap.size, args := #[] }] ++ a.defers } (.inRangeFunc (w.heap.size + 1) :: k) :: cs)
  have m3 := m1.callP p2 hp
  obtain ⟨r, post', rfl, hbusy, hpend, hG⟩ := K _ _ _ v post hR
  have hl : w3.heap[w.heap.size + 1]? = some (.loop r) := m3.lies (by simp)
  have m4 : Mem c.w0 c.A c.S ([] ++ (some (w.heap.size + 1), Obj.loop { r with state := .exhausted }) :: (post' ++ ((some w.heap.size, Obj.deferred (some [])) :: L2))) (w3.putObj (w.heap.size + 1) (.loop { r with state := .exhausted })) := Mem.putObj (l1 := []) (o := .loop r) m3 _
  have m5 : Mem c.w0 c.A c.S ((some w.heap.size, Obj.deferred (some [])) :: (post' ++ L2)) (w3.putObj (w.heap.size + 1) (.loop { r with state := .exhausted })) := m4.sub (R := [(some (w.heap.size + 1), Obj.loop { r with state := .exhausted })]) (by
    rw [List.nil_append]
    exact (List.Perm.cons _ List.perm_middle).trans (List.perm_append_singleton _ _).symm)
  have hend : (Instr.endLoop (w.heap.size + 1)).run c.P w3 = .ok none (w3.putObj (w.heap.size + 1) (.loop { r with state := .exhausted })) := (run_endLoop (P := c.P) hl hbusy).trans (by rw [hpend])
  obtain ⟨v', p, w2, fr2, hR2, hm2, hst2, e2⟩ := hG { a with defers := [{ target := .collected w.heap.size, args := #[] }] ++ a.defers } _ ⟨hk.size, by rw [hdf]; rfl, hk.get⟩ m5 b hb hkind cs
  refine ⟨v', p, w2, fr2, hR2, hm2, ?_, e2⟩
  have s2 : Steps c.P (lone (b.at a (.code (.rangeFunc g ps assign body) :: k)) cs w) (lone (b.at { a with defers := [{ target := .collected w.heap.size, args := #[] }] ++ a.defers } k) cs (w3.putObj (w.heap.size + 1) (.loop { r with state := .exhausted }))) := by
    have s3 : step c.P (lone (b.at { a with defers := [{ target := .collected w.heap.size, args := #[] }] ++ a.defers } (.endRangeFunc (w.heap.size + 1) :: k)) cs w3) = .next (lone (b.at { a with defers := [{ target := .collected w.heap.size, args := #[] }] ++ a.defers } k) cs (w3.putObj (w.heap.size + 1) (.loop { r with state := .exhausted }))) := by
      have s4 := stepR_endRangeFunc (b := b') (a := { a with defers := [{ target := .collected w.heap.size, args := #[] }] ++ a.defers }) (k := k) (cs := cs) hend
      rw [hat, hat] at s4
      exact s4
    rw [hat, hat] at s1
    refine .head s1 (hsteps.trans (.head ?_ (.one s3)))
    have hf := finish_atR_inRangeFunc (b := b') (a := { a with defers := [{ target := .collected w.heap.size, args := #[] }] ++ a.defers }) (k := k) (w.heap.size + 1) v
    rw [hat, hat] at hf
    rw [← hf]; exact step_leave_returned hleave
  exact s2.trans hst2

/-- A return past the mark. -/
theorem G_retD {D : Nat} {fn : Func} {rs : List ResultVar} {vs : List Value} {l1 l2 L' post M : List (Option Nat × Obj)} (hds : c.ds = markD D) (hL : L = l1 ++ (some D, .deferred (some [])) :: l2) (hL' : l1 ++ (some D, .deferred none) :: l2 = L')
    (hf : c.P.funcs[c.f]? = some fn) (hr : fn.results = rs.toArray)
    (hv : RVs c n env L' rs vs) (is : List Nat) (hl : tk is L' = some (post, M)) (hR : c.R (packed vs) post) : G c n env L (.code .ret :: k) := by
  intro a w hk hm b hb hkind cs
  subst hL hL'
  have hD : w.heap[D]? = some (.deferred (some [])) := hm.lies (by simp)
  have h1 := hm.putObj (.deferred none)
  have h3 := goes_ret (post := post) hr hv hk h1
  have hdf := hk.defers.trans hds
  let fr0 : Frame := { b.at a (.code .ret :: k) with mode := .returning }
  have s1 : step c.P (lone (b.at a (.code .ret :: k)) cs w) = .next (lone fr0 cs w) := step_ret
  have s2 := step_collected (P := c.P) (fr := fr0) (cs := cs) (w := w) (d := { target := .collected D, args := #[] }) (ds := []) (by show FrameMode.returning ≠ .run; simp) hdf rfl (run_takeDeferred hD)
  exact ⟨packed vs, post, _, { fr0 with defers := [] ++ [] }, hR, (h1.sub (tk_perm hl)).dropA, .head s1 (.one s2), hb, rfl, rfl, hkind, fn, by rw [← hf, ← hb]; rfl, h3⟩
end
end Go.Proofs.YtbblkgdejgoncaaDoor

/- The walks of layer 26: a log, what is put behind all, and what reads it. -/
set_option linter.unusedSimpArgs false
set_option linter.unusedVariables false
namespace Go.Proofs.YtbblkgdejgoncaaDoor
open Go Go.RowKit

section
theorem infLogW_3 : Tryd.prog.info? 3 = some Tryd.t3 := by kernel_rfl
theorem infLogW_9 : Tryd.prog.info? 9 = some Tryd.t9 := by kernel_rfl
theorem infLogW_22 : Tryd.prog.info? 22 = some Tryd.t22 := by kernel_rfl
theorem infLogW_35 : Tryd.prog.info? 35 = some Tryd.t35 := by kernel_rfl
theorem infLogW_134 : Tryd.prog.info? 134 = some Tryd.t134 := by kernel_rfl
theorem infLogW_136 : Tryd.prog.info? 136 = some Tryd.t136 := by kernel_rfl
theorem plcLogW_134 : placesOf Tryd.prog (Tryd.prog.fieldsOf 134) = some [(0, 1), (1, 1), (2, 1)] := by kernel_rfl
theorem plcLogW_136 : placesOf Tryd.prog (Tryd.prog.fieldsOf 136) = some [(0, 3), (3, 1), (4, 1)] := by kernel_rfl


def rgC (d : Nat) (f b : Int) : List Value := [.pointer (some ⟨d, 0, none⟩), .int .i64 f, .int .i64 b]
def lgC (d : Nat) (f b : Int) (e a : Nat) : List Value := [.pointer (some ⟨d, 0, none⟩), .int .i64 f, .int .i64 b, .int .u32 (e : Int), .int .i64 (a : Int)]
def rdC (d : Nat) (f b : Int) (base e a : Nat) : List Value := [.pointer (some ⟨d, 0, none⟩), .int .i64 f, .int .i64 b, .int .u32 (base : Int), .int .u32 (e : Int), .int .i64 (a : Int), .int .i64 0]
/-- What is wrong with a region. -/
def rgE (N : Nat) (f b : Int) : Int := if f < 0 ∨ b < 1 ∨ (N : Int) < b ∨ (N : Int) - b < f then 1 else 0
theorem rgE_ok {N : Nat} {f b : Int} : rgE N f b = 0 ↔ 0 ≤ f ∧ 1 ≤ b ∧ f + b ≤ (N : Int) := by
  unfold rgE
  constructor
  · intro h; split at h
    · cases h
    · omega
  · intro h; rw [if_neg (by omega)]
theorem rgE_one {N : Nat} {f b : Int} (h : ¬ rgE N f b = 0) : rgE N f b = 1 := by
  unfold rgE at *; split at h
  · rename_i g; rw [if_pos g]
  · exact absurd rfl h

set_option maxRecDepth 100000 in
set_option maxHeartbeats 1000000 in
theorem lg_ok (d n lb lcap : Nat) (lcs : Array Value) (uw : Sl) (k : Dk) (h : DkAt k n lb lcs lcap uw) (f b : Int) (hf0 : -9223372036854775808 ≤ f) (hf1 : f ≤ 9223372036854775807) (hb0 : -9223372036854775808 ≤ b) (hb1 : b ≤ 9223372036854775807) :
    Ct Tryd.prog 75 [.agg (rgC d f b).toArray] [(some d, .cells #[.slice (some ⟨lb, 0, none⟩) n lcap, uw.v k.W.length, .int .i64 k.fuse, .bool k.dead] 110 (0, 0))] [] fun v post => v = .int .i64 (rgE n f b) ∧ post = [] := by
 have hq := h.bd
 have hq1 := hq.n1
 have hq2 := hq.n4
 have hq3 := hq.ncs
 have hq4 := hq.ncap
 have hq5 := hq.cap
 have hq6 := hq.w
 have hq7 := hq.wc
 have hln := h.len
 refine ct_of Tryd.func75 rfl rfl (fun w0 => ?_)
 show G _ _ [(0, _)] _ _
 refine G_seq ?_
 refine G_region (l := [0, 1]) rfl ?_
 refine G_new rfl rfl rfl rfl (N_boxA rfl rfl) (fun b1 => ?_)
 refine G_val rfl rfl rfl rfl (V_assign rfl rfl) ?_
 refine G_done ?_
 refine G_seq ?_
 refine G_block ?_
 refine G_seq ?_
 refine G_region (l := [0, 1, 2, 3]) rfl ?_
 refine G_val rfl rfl rfl rfl (V_fieldAddr (fo := 0) rfl Tryd.underlying134 rfl infLogW_35 rfl rfl rfl) ?_
 refine G_val rfl rfl rfl rfl (V_load1 rfl rfl (mem_at 1 rfl) rfl Tryd.underlying35 rfl) ?_
 refine G_val rfl rfl rfl rfl (V_peqlN rfl Tryd.underlying35 rfl rfl) ?_
 refine G_val rfl rfl rfl rfl (V_assign rfl rfl) ?_
 refine G_done ?_
 refine G_else rfl ?_
 refine G_seq ?_
 refine G_draw mixedK (by kernel_rfl) ?_
 refine GQ_val rfl rfl rfl rfl (V_fieldAddr (fo := 1) rfl Tryd.underlying134 rfl infLogW_3 rfl rfl rfl) ?_
 refine GQ_val rfl rfl rfl rfl (V_load1 rfl rfl (mem_at 1 rfl) rfl Tryd.underlying3 rfl) ?_
 refine GQ_val rfl rfl rfl rfl (V_lss rfl rfl rfl) ?_
 refine GQ_val rfl rfl rfl rfl (V_move rfl rfl) ?_
 refine GQ_splitD 11 rfl (fun hc1 => ?_) (fun hc1 => ?_)
 · skip
   refine GQ_off rfl rfl rfl rfl ?_
   refine GQ_off rfl rfl rfl rfl ?_
   refine GQ_off rfl rfl rfl rfl ?_
   refine GQ_val rfl rfl rfl rfl (V_pickT rfl rfl rfl) ?_
   refine GQ_val rfl rfl rfl rfl (V_move rfl rfl) ?_
   refine GQ_off rfl rfl rfl rfl ?_
   refine GQ_off rfl rfl rfl rfl ?_
   refine GQ_off rfl rfl rfl rfl ?_
   refine GQ_off rfl rfl rfl rfl ?_
   refine GQ_off rfl rfl rfl rfl ?_
   refine GQ_off rfl rfl rfl rfl ?_
   refine GQ_val rfl rfl rfl rfl (V_pickT rfl rfl rfl) ?_
   refine GQ_val rfl rfl rfl rfl (V_move rfl rfl) ?_
   refine GQ_off rfl rfl rfl rfl ?_
   refine GQ_off rfl rfl rfl rfl ?_
   refine GQ_off rfl rfl rfl rfl ?_
   refine GQ_off rfl rfl rfl rfl ?_
   refine GQ_off rfl rfl rfl rfl ?_
   refine GQ_off rfl rfl rfl rfl ?_
   refine GQ_off rfl rfl rfl rfl ?_
   refine GQ_off rfl rfl rfl rfl ?_
   refine GQ_off rfl rfl rfl rfl ?_
   refine GQ_val rfl rfl rfl rfl (V_pickT rfl rfl rfl) ?_
   refine GQ_val rfl rfl rfl rfl (V_assign rfl rfl) ?_
   refine GQ_done rfl ?_
   refine G_then rfl ?_
   refine G_seq ?_
   refine G_region (l := [0]) rfl ?_
   refine G_val rfl rfl rfl rfl (V_assign rfl rfl) ?_
   refine G_done ?_
   refine G_ret (post := []) Tryd.func75 rfl (RVs_cons (RV_tmp rfl) RVs_nil) [] rfl ?_
   dsimp only [packed]
   refine ⟨int_eq ?_, rfl⟩; unfold rgE; first | rw [if_pos (by omega)] | rw [if_neg (by omega)]
 refine GQ_val rfl rfl rfl rfl (V_fieldAddr (fo := 2) rfl Tryd.underlying134 rfl infLogW_3 rfl rfl rfl) ?_
 refine GQ_val rfl rfl rfl rfl (V_load1 rfl rfl (mem_at 1 rfl) rfl Tryd.underlying3 rfl) ?_
 refine GQ_val rfl rfl rfl rfl (V_lss rfl rfl rfl) ?_
 refine GQ_val rfl rfl rfl rfl (V_pickF rfl rfl rfl) ?_
 refine GQ_val rfl rfl rfl rfl (V_move rfl rfl) ?_
 refine GQ_splitD 16 rfl (fun hc2 => ?_) (fun hc2 => ?_)
 · skip
   refine GQ_off rfl rfl rfl rfl ?_
   refine GQ_off rfl rfl rfl rfl ?_
   refine GQ_off rfl rfl rfl rfl ?_
   refine GQ_off rfl rfl rfl rfl ?_
   refine GQ_off rfl rfl rfl rfl ?_
   refine GQ_off rfl rfl rfl rfl ?_
   refine GQ_val rfl rfl rfl rfl (V_pickT rfl rfl rfl) ?_
   refine GQ_val rfl rfl rfl rfl (V_move rfl rfl) ?_
   refine GQ_off rfl rfl rfl rfl ?_
   refine GQ_off rfl rfl rfl rfl ?_
   refine GQ_off rfl rfl rfl rfl ?_
   refine GQ_off rfl rfl rfl rfl ?_
   refine GQ_off rfl rfl rfl rfl ?_
   refine GQ_off rfl rfl rfl rfl ?_
   refine GQ_off rfl rfl rfl rfl ?_
   refine GQ_off rfl rfl rfl rfl ?_
   refine GQ_off rfl rfl rfl rfl ?_
   refine GQ_val rfl rfl rfl rfl (V_pickT rfl rfl rfl) ?_
   refine GQ_val rfl rfl rfl rfl (V_assign rfl rfl) ?_
   refine GQ_done rfl ?_
   refine G_then rfl ?_
   refine G_seq ?_
   refine G_region (l := [0]) rfl ?_
   refine G_val rfl rfl rfl rfl (V_assign rfl rfl) ?_
   refine G_done ?_
   refine G_ret (post := []) Tryd.func75 rfl (RVs_cons (RV_tmp rfl) RVs_nil) [] rfl ?_
   dsimp only [packed]
   refine ⟨int_eq ?_, rfl⟩; unfold rgE; first | rw [if_pos (by omega)] | rw [if_neg (by omega)]
 refine GQ_val rfl rfl rfl rfl (V_fieldAddr (fo := 2) rfl Tryd.underlying134 rfl infLogW_3 rfl rfl rfl) ?_
 refine GQ_val rfl rfl rfl rfl (V_load1 rfl rfl (mem_at 1 rfl) rfl Tryd.underlying3 rfl) ?_
 refine GQ_val rfl rfl rfl rfl (V_fieldAddr (fo := 0) rfl Tryd.underlying134 rfl infLogW_35 rfl rfl rfl) ?_
 refine GQ_val rfl rfl rfl rfl (V_load1 rfl rfl (mem_at 1 rfl) rfl Tryd.underlying35 rfl) ?_
 refine GQ_call rfl rfl rfl rfl rfl rfl Tryd.call98 (dk_size _ _ _ _ _ _ _ h) [0] rfl (fun v post hp => (hp : _ ∧ _).1) ?_
 refine GQ_val rfl rfl rfl rfl (V_gtr rfl rfl rfl) ?_
 refine GQ_val rfl rfl rfl rfl (V_pickF rfl rfl rfl) ?_
 refine GQ_val rfl rfl rfl rfl (V_move rfl rfl) ?_
 refine GQ_splitD 24 rfl (fun hc3 => ?_) (fun hc3 => ?_)
 · skip
   refine GQ_off rfl rfl rfl rfl ?_
   refine GQ_off rfl rfl rfl rfl ?_
   refine GQ_off rfl rfl rfl rfl ?_
   refine GQ_off rfl rfl rfl rfl ?_
   refine GQ_off rfl rfl rfl rfl ?_
   refine GQ_off rfl rfl rfl rfl ?_
   refine GQ_off rfl rfl rfl rfl ?_
   refine GQ_off rfl rfl rfl rfl ?_
   refine GQ_off rfl rfl rfl rfl ?_
   refine GQ_val rfl rfl rfl rfl (V_pickT rfl rfl rfl) ?_
   refine GQ_val rfl rfl rfl rfl (V_assign rfl rfl) ?_
   refine GQ_done rfl ?_
   refine G_then rfl ?_
   refine G_seq ?_
   refine G_region (l := [0]) rfl ?_
   refine G_val rfl rfl rfl rfl (V_assign rfl rfl) ?_
   refine G_done ?_
   refine G_ret (post := []) Tryd.func75 rfl (RVs_cons (RV_tmp rfl) RVs_nil) [] rfl ?_
   dsimp only [packed]
   refine ⟨int_eq ?_, rfl⟩; unfold rgE; first | rw [if_pos (by omega)] | rw [if_neg (by omega)]
 refine GQ_val rfl rfl rfl rfl (V_fieldAddr (fo := 1) rfl Tryd.underlying134 rfl infLogW_3 rfl rfl rfl) ?_
 refine GQ_val rfl rfl rfl rfl (V_load1 rfl rfl (mem_at 1 rfl) rfl Tryd.underlying3 rfl) ?_
 refine GQ_val rfl rfl rfl rfl (V_fieldAddr (fo := 0) rfl Tryd.underlying134 rfl infLogW_35 rfl rfl rfl) ?_
 refine GQ_val rfl rfl rfl rfl (V_load1 rfl rfl (mem_at 1 rfl) rfl Tryd.underlying35 rfl) ?_
 refine GQ_call rfl rfl rfl rfl rfl rfl Tryd.call98 (dk_size _ _ _ _ _ _ _ h) [0] rfl (fun v post hp => (hp : _ ∧ _).1) ?_
 refine GQ_val rfl rfl rfl rfl (V_fieldAddr (fo := 2) rfl Tryd.underlying134 rfl infLogW_3 rfl rfl rfl) ?_
 refine GQ_val rfl rfl rfl rfl (V_load1 rfl rfl (mem_at 1 rfl) rfl Tryd.underlying3 rfl) ?_
 first
   | refine GQ_val rfl rfl rfl rfl ((V_sub rfl rfl rfl).int (wrap_i64 (by omega))) ?_
   | refine GQ_val rfl rfl rfl rfl (V_sub rfl rfl rfl) ?_
 refine GQ_val rfl rfl rfl rfl (V_gtr rfl rfl rfl) ?_
 refine GQ_val rfl rfl rfl rfl (V_pickF rfl rfl rfl) ?_
 refine GQ_val rfl rfl rfl rfl (V_assign rfl rfl) ?_
 refine GQ_done rfl ?_
 refine G_ifD rfl (fun hc4 => ?_) (fun hc4 => ?_)
 · skip
   refine G_seq ?_
   refine G_region (l := [0]) rfl ?_
   refine G_val rfl rfl rfl rfl (V_assign rfl rfl) ?_
   refine G_done ?_
   refine G_ret (post := []) Tryd.func75 rfl (RVs_cons (RV_tmp rfl) RVs_nil) [] rfl ?_
   dsimp only [packed]
   refine ⟨int_eq ?_, rfl⟩; unfold rgE; first | rw [if_pos (by omega)] | rw [if_neg (by omega)]
 refine G_skip ?_
 refine G_inBlock ?_
 refine G_seq ?_
 refine G_region (l := [0]) rfl ?_
 refine G_val rfl rfl rfl rfl (V_assign rfl rfl) ?_
 refine G_done ?_
 refine G_ret (post := []) Tryd.func75 rfl (RVs_cons (RV_tmp rfl) RVs_nil) [] rfl ?_
 dsimp only [packed]
 refine ⟨int_eq ?_, rfl⟩; unfold rgE; first | rw [if_pos (by omega)] | rw [if_neg (by omega)]

set_option maxRecDepth 100000 in
set_option maxHeartbeats 1000000 in
theorem lg_ok_nil (x y : Value) :
    Ct Tryd.prog 75 [.agg #[.pointer none, x, y]] [] [] fun v post => v = .int .i64 19 ∧ post = [] := by
 refine ct_of Tryd.func75 rfl rfl (fun w0 => ?_)
 show G _ _ [(0, _)] _ _
 refine G_seq ?_
 refine G_region (l := [0, 1]) rfl ?_
 refine G_new rfl rfl rfl rfl (N_boxA rfl rfl) (fun b1 => ?_)
 refine G_val rfl rfl rfl rfl (V_assign rfl rfl) ?_
 refine G_done ?_
 refine G_seq ?_
 refine G_block ?_
 refine G_seq ?_
 refine G_region (l := [0, 1, 2, 3]) rfl ?_
 refine G_val rfl rfl rfl rfl (V_fieldAddr (fo := 0) rfl Tryd.underlying134 rfl infLogW_35 rfl rfl rfl) ?_
 refine G_val rfl rfl rfl rfl (V_load1 rfl rfl (mem_at 0 rfl) rfl Tryd.underlying35 rfl) ?_
 refine G_val rfl rfl rfl rfl (V_peqlN rfl Tryd.underlying35 rfl rfl) ?_
 refine G_val rfl rfl rfl rfl (V_assign rfl rfl) ?_
 refine G_done ?_
 refine G_then rfl ?_
 refine G_seq ?_
 refine G_region (l := [0]) rfl ?_
 refine G_val rfl rfl rfl rfl (V_assign rfl rfl) ?_
 refine G_done ?_
 refine G_ret (post := []) Tryd.func75 rfl (RVs_cons (RV_tmp rfl) RVs_nil) [] rfl ?_
 dsimp only [packed]
 exact ⟨rfl, rfl⟩

set_option maxRecDepth 100000 in
set_option maxHeartbeats 1000000 in
theorem lg_new (d n lb lcap : Nat) (lcs : Array Value) (uw : Sl) (k : Dk) (h : DkAt k n lb lcs lcap uw) (f b : Int) (hf0 : -9223372036854775808 ≤ f) (hf1 : f ≤ 9223372036854775807) (hb0 : -9223372036854775808 ≤ b) (hb1 : b ≤ 9223372036854775807) (e : Nat) (a : Int) (he : e < 4294967296) (ha0 : -9223372036854775808 ≤ a) (ha1 : a ≤ 9223372036854775807) :
    Ct Tryd.prog 35 [.pointer (some ⟨d, 0, none⟩), .int .i64 f, .int .i64 b, .int .u32 (e : Int), .int .i64 a] [(some d, .cells #[.slice (some ⟨lb, 0, none⟩) n lcap, uw.v k.W.length, .int .i64 k.fuse, .bool k.dead] 110 (0, 0))] [] fun v post => (rgE n f b ≠ 0 ∧ v = .tuple #[.pointer none, .int .i64 1] ∧ post = []) ∨ (rgE n f b = 0 ∧ ((e : Int) = 0 ∨ a < 0 ∨ b < a) ∧ v = .tuple #[.pointer none, .int .i64 1] ∧ post = []) ∨ (rgE n f b = 0 ∧ 0 < e ∧ 0 ≤ a ∧ a ≤ b ∧ ∃ g, v = .tuple #[.pointer (some ⟨g, 0, none⟩), .int .i64 0] ∧ post = [(some g, .cells (lgC d f b e a.toNat).toArray 136 (0, 0))]) := by
 have hq := h.bd
 have hq1 := hq.n1
 have hq2 := hq.n4
 have hq3 := hq.ncs
 have hq4 := hq.ncap
 have hq5 := hq.cap
 have hq6 := hq.w
 have hq7 := hq.wc
 have hln := h.len
 refine ct_of Tryd.func35 rfl rfl (fun w0 => ?_)
 show G _ _ [(0, _), (1, _), (2, _), (3, _), (4, _)] _ _
 refine G_seq ?_
 refine G_region (l := [0, 1]) rfl ?_
 refine G_val rfl rfl rfl rfl (V_assign rfl rfl) ?_
 refine G_val rfl rfl rfl rfl (V_assign rfl rfl) ?_
 refine G_done ?_
 refine G_seq ?_
 refine G_region (l := [0, 1, 2, 3, 4, 5]) rfl ?_
 refine G_val rfl rfl rfl rfl (V_move rfl rfl) ?_
 refine G_val rfl rfl rfl rfl (V_move rfl rfl) ?_
 refine G_val rfl rfl rfl rfl (V_move rfl rfl) ?_
 refine G_val rfl rfl rfl rfl (V_buildS (cs := [_, _, _]) rfl Tryd.underlying134 infLogW_134 rfl plcLogW_134 rfl rfl rfl) ?_
 refine G_new rfl rfl rfl rfl (N_allocA rfl infLogW_134 rfl) (fun b12 => ?_)
 refine G_put (l1 := []) (L' := [_]) rfl rfl rfl rfl (P_storeA (s := 3) rfl rfl rfl (mem_at 0 rfl) (by first | rfl | (simp [bcells_length, wCells, kCells, rgC, lgC, rdC]; done) | (simp [bcells_length, wCells, kCells, rgC, lgC, rdC]; omega) | (simp [bcells_length, *, wCells, kCells, rgC, lgC, rdC]; done)) infLogW_134 rfl (by first | rfl | (simp [bcells_length, wCells, kCells, rgC, lgC, rdC]; done) | (simp [bcells_length, wCells, kCells, rgC, lgC, rdC]; omega) | (simp [bcells_length, *, wCells, kCells, rgC, lgC, rdC]; done)) (by first | rfl | exact bcells_all _ | (simp [Value.oneCell', wCells, kCells, rgC, lgC, rdC]; done) | (simp [Value.oneCell', *, wCells, kCells, rgC, lgC, rdC]; done))) rfl ?_
 refine G_done ?_
 refine G_seq ?_
 refine G_seq ?_
 refine G_region (l := [0, 1, 2]) rfl ?_
 first
   | refine G_val rfl rfl rfl rfl (V_loadW (s := 3) rfl rfl (mem_at 1 rfl) Tryd.underlying134 rfl infLogW_134 rfl (by first | rfl | (simp [bcells_length, wCells, kCells, rgC, lgC, rdC]; done) | (simp [bcells_length, wCells, kCells, rgC, lgC, rdC]; omega) | (simp [bcells_length, *, wCells, kCells, rgC, lgC, rdC]; done))) ?_
   | refine G_val rfl rfl rfl rfl (V_loadA (s := 3) rfl rfl (mem_at 1 rfl) Tryd.underlying134 rfl infLogW_134 rfl rfl (by first | rfl | (simp [bcells_length, wCells, kCells, rgC, lgC, rdC]; done) | (simp [bcells_length, wCells, kCells, rgC, lgC, rdC]; omega) | (simp [bcells_length, *, wCells, kCells, rgC, lgC, rdC]; done))) ?_
 refine G_call (L2 := [_]) rfl rfl rfl rfl rfl rfl Tryd.call75 (lg_ok d n lb lcap lcs uw k h f b hf0 hf1 hb0 hb1) [] [0] rfl rfl ?_
 rintro v post ⟨rfl, rfl⟩
 show G _ _ _ [_] _
 refine G_val rfl rfl rfl rfl (V_assign rfl rfl) ?_
 refine G_done ?_
 refine G_seq ?_
 refine G_region (l := [0, 1]) rfl ?_
 refine G_val rfl rfl rfl rfl (V_move rfl rfl) ?_
 refine G_val rfl rfl rfl rfl (V_neq rfl rfl rfl) ?_
 refine G_done ?_
 refine G_ifD rfl (fun hc1 => ?_) (fun hc1 => ?_)
 · skip
   refine G_seq ?_
   refine G_region (l := [0, 1, 2]) rfl ?_
   refine G_val rfl rfl rfl rfl (V_move rfl rfl) ?_
   refine G_val rfl rfl rfl rfl (V_assign rfl rfl) ?_
   refine G_val rfl rfl rfl rfl (V_assign rfl rfl) ?_
   refine G_done ?_
   refine G_ret (post := []) Tryd.func35 rfl (RVs_cons (RV_tmp rfl) (RVs_cons (RV_tmp rfl) RVs_nil)) [] rfl ?_
   dsimp only [packed]
   first
     | (refine .inl ⟨by assumption, ?_, rfl⟩; rw [rgE_one (by assumption)])
     | exact .inr (.inl ⟨by omega, by omega, rfl, rfl⟩)
     | (refine .inr (.inr ⟨by omega, by omega, by omega, by omega, b38, rfl, ?_⟩); unfold lgC; rw [Int.toNat_of_nonneg (by omega)])
 refine G_skip ?_
 refine G_seq ?_
 refine G_seq ?_
 refine G_region (l := [0, 1, 2, 3, 4, 5, 6, 7, 8, 9, 10]) rfl ?_
 refine G_val rfl rfl rfl rfl (V_move rfl rfl) ?_
 refine G_val rfl rfl rfl rfl (V_eql rfl rfl rfl) ?_
 refine G_val rfl rfl rfl rfl (V_move rfl rfl) ?_
 refine G_splitD 25 rfl (fun hc2 => ?_) (fun hc2 => ?_)
 · skip
   refine G_off rfl rfl rfl rfl ?_
   refine G_off rfl rfl rfl rfl ?_
   refine G_val rfl rfl rfl rfl (V_pickT rfl rfl rfl) ?_
   refine G_val rfl rfl rfl rfl (V_move rfl rfl) ?_
   refine G_off rfl rfl rfl rfl ?_
   refine G_off rfl rfl rfl rfl ?_
   refine G_off rfl rfl rfl rfl ?_
   refine G_val rfl rfl rfl rfl (V_pickT rfl rfl rfl) ?_
   refine G_done ?_
   refine G_then rfl ?_
   refine G_seq ?_
   refine G_region (l := [0, 1]) rfl ?_
   refine G_val rfl rfl rfl rfl (V_assign rfl rfl) ?_
   refine G_val rfl rfl rfl rfl (V_assign rfl rfl) ?_
   refine G_done ?_
   refine G_ret (post := []) Tryd.func35 rfl (RVs_cons (RV_tmp rfl) (RVs_cons (RV_tmp rfl) RVs_nil)) [] rfl ?_
   dsimp only [packed]
   first
     | (refine .inl ⟨by assumption, ?_, rfl⟩; rw [rgE_one (by assumption)])
     | exact .inr (.inl ⟨by omega, by omega, rfl, rfl⟩)
     | (refine .inr (.inr ⟨by omega, by omega, by omega, by omega, b38, rfl, ?_⟩); unfold lgC; rw [Int.toNat_of_nonneg (by omega)])
 refine G_val rfl rfl rfl rfl (V_move rfl rfl) ?_
 refine G_val rfl rfl rfl rfl (V_lss rfl rfl rfl) ?_
 refine G_val rfl rfl rfl rfl (V_pickF rfl rfl rfl) ?_
 refine G_val rfl rfl rfl rfl (V_move rfl rfl) ?_
 refine G_splitD 29 rfl (fun hc3 => ?_) (fun hc3 => ?_)
 · skip
   refine G_off rfl rfl rfl rfl ?_
   refine G_off rfl rfl rfl rfl ?_
   refine G_off rfl rfl rfl rfl ?_
   refine G_val rfl rfl rfl rfl (V_pickT rfl rfl rfl) ?_
   refine G_done ?_
   refine G_then rfl ?_
   refine G_seq ?_
   refine G_region (l := [0, 1]) rfl ?_
   refine G_val rfl rfl rfl rfl (V_assign rfl rfl) ?_
   refine G_val rfl rfl rfl rfl (V_assign rfl rfl) ?_
   refine G_done ?_
   refine G_ret (post := []) Tryd.func35 rfl (RVs_cons (RV_tmp rfl) (RVs_cons (RV_tmp rfl) RVs_nil)) [] rfl ?_
   dsimp only [packed]
   first
     | (refine .inl ⟨by assumption, ?_, rfl⟩; rw [rgE_one (by assumption)])
     | exact .inr (.inl ⟨by omega, by omega, rfl, rfl⟩)
     | (refine .inr (.inr ⟨by omega, by omega, by omega, by omega, b38, rfl, ?_⟩); unfold lgC; rw [Int.toNat_of_nonneg (by omega)])
 refine G_val rfl rfl rfl rfl (V_move rfl rfl) ?_
 refine G_val rfl rfl rfl rfl (V_move rfl rfl) ?_
 refine G_val rfl rfl rfl rfl (V_gtr rfl rfl rfl) ?_
 refine G_val rfl rfl rfl rfl (V_pickF rfl rfl rfl) ?_
 refine G_done ?_
 refine G_ifD rfl (fun hc4 => ?_) (fun hc4 => ?_)
 · skip
   refine G_seq ?_
   refine G_region (l := [0, 1]) rfl ?_
   refine G_val rfl rfl rfl rfl (V_assign rfl rfl) ?_
   refine G_val rfl rfl rfl rfl (V_assign rfl rfl) ?_
   refine G_done ?_
   refine G_ret (post := []) Tryd.func35 rfl (RVs_cons (RV_tmp rfl) (RVs_cons (RV_tmp rfl) RVs_nil)) [] rfl ?_
   dsimp only [packed]
   first
     | (refine .inl ⟨by assumption, ?_, rfl⟩; rw [rgE_one (by assumption)])
     | exact .inr (.inl ⟨by omega, by omega, rfl, rfl⟩)
     | (refine .inr (.inr ⟨by omega, by omega, by omega, by omega, b38, rfl, ?_⟩); unfold lgC; rw [Int.toNat_of_nonneg (by omega)])
 refine G_skip ?_
 refine G_seq ?_
 refine G_region (l := [0, 1, 2, 3, 4, 5, 6]) rfl ?_
 first
   | refine G_val rfl rfl rfl rfl (V_loadW (s := 3) rfl rfl (mem_at 1 rfl) Tryd.underlying134 rfl infLogW_134 rfl (by first | rfl | (simp [bcells_length, wCells, kCells, rgC, lgC, rdC]; done) | (simp [bcells_length, wCells, kCells, rgC, lgC, rdC]; omega) | (simp [bcells_length, *, wCells, kCells, rgC, lgC, rdC]; done))) ?_
   | refine G_val rfl rfl rfl rfl (V_loadA (s := 3) rfl rfl (mem_at 1 rfl) Tryd.underlying134 rfl infLogW_134 rfl rfl (by first | rfl | (simp [bcells_length, wCells, kCells, rgC, lgC, rdC]; done) | (simp [bcells_length, wCells, kCells, rgC, lgC, rdC]; omega) | (simp [bcells_length, *, wCells, kCells, rgC, lgC, rdC]; done))) ?_
 refine G_val rfl rfl rfl rfl (V_move rfl rfl) ?_
 refine G_val rfl rfl rfl rfl (V_move rfl rfl) ?_
 refine G_val rfl rfl rfl rfl (V_buildS (cs := [_, _, _, _, _]) rfl Tryd.underlying136 infLogW_136 rfl plcLogW_136 rfl rfl rfl) ?_
 refine G_new rfl rfl rfl rfl (N_boxA rfl rfl) (fun b38 => ?_)
 refine G_val rfl rfl rfl rfl (V_assign rfl rfl) ?_
 refine G_val rfl rfl rfl rfl (V_assign rfl rfl) ?_
 refine G_done ?_
 refine G_ret (post := [_]) Tryd.func35 rfl (RVs_cons (RV_tmp rfl) (RVs_cons (RV_tmp rfl) RVs_nil)) [0] rfl ?_
 dsimp only [packed]
 first
   | (refine .inl ⟨by assumption, ?_, rfl⟩; rw [rgE_one (by assumption)])
   | exact .inr (.inl ⟨by omega, by omega, rfl, rfl⟩)
   | (refine .inr (.inr ⟨by omega, by omega, by omega, by omega, b38, rfl, ?_⟩); unfold lgC; rw [Int.toNat_of_nonneg (by omega)])

set_option maxRecDepth 100000 in
set_option maxHeartbeats 1000000 in
theorem lg_new_nil (x y z w : Int) :
    Ct Tryd.prog 35 [.pointer none, .int .i64 x, .int .i64 y, .int .u32 z, .int .i64 w] [] [] fun v post => v = .tuple #[.pointer none, .int .i64 19] ∧ post = [] := by
 refine ct_of Tryd.func35 rfl rfl (fun w0 => ?_)
 show G _ _ [(0, _), (1, _), (2, _), (3, _), (4, _)] _ _
 refine G_seq ?_
 refine G_region (l := [0, 1]) rfl ?_
 refine G_val rfl rfl rfl rfl (V_assign rfl rfl) ?_
 refine G_val rfl rfl rfl rfl (V_assign rfl rfl) ?_
 refine G_done ?_
 refine G_seq ?_
 refine G_region (l := [0, 1, 2, 3, 4, 5]) rfl ?_
 refine G_val rfl rfl rfl rfl (V_move rfl rfl) ?_
 refine G_val rfl rfl rfl rfl (V_move rfl rfl) ?_
 refine G_val rfl rfl rfl rfl (V_move rfl rfl) ?_
 refine G_val rfl rfl rfl rfl (V_buildS (cs := [_, _, _]) rfl Tryd.underlying134 infLogW_134 rfl plcLogW_134 rfl rfl rfl) ?_
 refine G_new rfl rfl rfl rfl (N_allocA rfl infLogW_134 rfl) (fun b12 => ?_)
 refine G_put (l1 := []) (L' := [_]) rfl rfl rfl rfl (P_storeA (s := 3) rfl rfl rfl (mem_at 0 rfl) (by first | rfl | (simp [bcells_length, wCells, kCells, rgC, lgC, rdC]; done) | (simp [bcells_length, wCells, kCells, rgC, lgC, rdC]; omega) | (simp [bcells_length, *, wCells, kCells, rgC, lgC, rdC]; done)) infLogW_134 rfl (by first | rfl | (simp [bcells_length, wCells, kCells, rgC, lgC, rdC]; done) | (simp [bcells_length, wCells, kCells, rgC, lgC, rdC]; omega) | (simp [bcells_length, *, wCells, kCells, rgC, lgC, rdC]; done)) (by first | rfl | exact bcells_all _ | (simp [Value.oneCell', wCells, kCells, rgC, lgC, rdC]; done) | (simp [Value.oneCell', *, wCells, kCells, rgC, lgC, rdC]; done))) rfl ?_
 refine G_done ?_
 refine G_seq ?_
 refine G_seq ?_
 refine G_region (l := [0, 1, 2]) rfl ?_
 first
   | refine G_val rfl rfl rfl rfl (V_loadW (s := 3) rfl rfl (mem_at 0 rfl) Tryd.underlying134 rfl infLogW_134 rfl (by first | rfl | (simp [bcells_length, wCells, kCells, rgC, lgC, rdC]; done) | (simp [bcells_length, wCells, kCells, rgC, lgC, rdC]; omega) | (simp [bcells_length, *, wCells, kCells, rgC, lgC, rdC]; done))) ?_
   | refine G_val rfl rfl rfl rfl (V_loadA (s := 3) rfl rfl (mem_at 0 rfl) Tryd.underlying134 rfl infLogW_134 rfl rfl (by first | rfl | (simp [bcells_length, wCells, kCells, rgC, lgC, rdC]; done) | (simp [bcells_length, wCells, kCells, rgC, lgC, rdC]; omega) | (simp [bcells_length, *, wCells, kCells, rgC, lgC, rdC]; done))) ?_
 refine G_call (L2 := [_]) rfl rfl rfl rfl rfl rfl Tryd.call75 (lg_ok_nil _ _) [] [] rfl rfl ?_
 rintro v post ⟨rfl, rfl⟩
 show G _ _ _ [_] _
 refine G_val rfl rfl rfl rfl (V_assign rfl rfl) ?_
 refine G_done ?_
 refine G_seq ?_
 refine G_region (l := [0, 1]) rfl ?_
 refine G_val rfl rfl rfl rfl (V_move rfl rfl) ?_
 refine G_val rfl rfl rfl rfl (V_neq rfl rfl rfl) ?_
 refine G_done ?_
 refine G_ifD rfl (fun hc1 => ?_) (fun hc1 => ?_)
 rotate_left
 · (first | (exact absurd rfl hc1) | (exfalso; omega))
 refine G_seq ?_
 refine G_region (l := [0, 1, 2]) rfl ?_
 refine G_val rfl rfl rfl rfl (V_move rfl rfl) ?_
 refine G_val rfl rfl rfl rfl (V_assign rfl rfl) ?_
 refine G_val rfl rfl rfl rfl (V_assign rfl rfl) ?_
 refine G_done ?_
 refine G_ret (post := []) Tryd.func35 rfl (RVs_cons (RV_tmp rfl) (RVs_cons (RV_tmp rfl) RVs_nil)) [] rfl ?_
 dsimp only [packed]
 exact ⟨rfl, rfl⟩

set_option maxRecDepth 100000 in
set_option maxHeartbeats 1000000 in
theorem lg_at (d g : Nat) (f b : Int) (e a : Nat) :
    Ct Tryd.prog 44 [.pointer (some ⟨g, 0, none⟩)] [(some g, .cells (lgC d f b e a).toArray 136 (0, 0))] [] fun v post => v = .int .i64 (a : Int) ∧ post = [] := by
 refine ct_of Tryd.func44 rfl rfl (fun w0 => ?_)
 show G _ _ [(0, _)] _ _
 refine G_seq ?_
 refine G_region (l := [0]) rfl ?_
 refine G_val rfl rfl rfl rfl (V_assign rfl rfl) ?_
 refine G_done ?_
 refine G_seq ?_
 refine G_seq ?_
 refine G_region (l := [0, 1]) rfl ?_
 refine G_val rfl rfl rfl rfl (V_move rfl rfl) ?_
 refine G_val rfl rfl rfl rfl (V_peqlN rfl Tryd.underlying66 rfl rfl) ?_
 refine G_done ?_
 refine G_else rfl ?_
 refine G_skip ?_
 refine G_seq ?_
 refine G_region (l := [0, 1, 2, 3, 4]) rfl ?_
 refine G_val rfl rfl rfl rfl (V_move rfl rfl) ?_
 first
   | refine G_val rfl rfl rfl rfl (V_nilCheck rfl rfl) ?_
   | refine G_val rfl rfl rfl rfl (V_nilCheckF rfl rfl) ?_
 refine G_val rfl rfl rfl rfl (V_fieldAddr (fo := 4) rfl Tryd.underlying136 rfl infLogW_3 rfl rfl rfl) ?_
 refine G_val rfl rfl rfl rfl (V_load1 rfl rfl (mem_at 0 rfl) rfl Tryd.underlying3 rfl) ?_
 refine G_val rfl rfl rfl rfl (V_assign rfl rfl) ?_
 refine G_done ?_
 refine G_ret (post := []) Tryd.func44 rfl (RVs_cons (RV_tmp rfl) RVs_nil) [] rfl ?_
 dsimp only [packed]
 exact ⟨rfl, rfl⟩

set_option maxRecDepth 100000 in
set_option maxHeartbeats 1000000 in
theorem lg_at_nil  :
    Ct Tryd.prog 44 [.pointer none] [] [] fun v post => v = .int .i64 0 ∧ post = [] := by
 refine ct_of Tryd.func44 rfl rfl (fun w0 => ?_)
 show G _ _ [(0, _)] _ _
 refine G_seq ?_
 refine G_region (l := [0]) rfl ?_
 refine G_val rfl rfl rfl rfl (V_assign rfl rfl) ?_
 refine G_done ?_
 refine G_seq ?_
 refine G_seq ?_
 refine G_region (l := [0, 1]) rfl ?_
 refine G_val rfl rfl rfl rfl (V_move rfl rfl) ?_
 refine G_val rfl rfl rfl rfl (V_peqlN rfl Tryd.underlying66 rfl rfl) ?_
 refine G_done ?_
 refine G_then rfl ?_
 refine G_seq ?_
 refine G_region (l := [0]) rfl ?_
 refine G_val rfl rfl rfl rfl (V_assign rfl rfl) ?_
 refine G_done ?_
 refine G_ret (post := []) Tryd.func44 rfl (RVs_cons (RV_tmp rfl) RVs_nil) [] rfl ?_
 dsimp only [packed]
 exact ⟨rfl, rfl⟩

set_option maxRecDepth 100000 in
set_option maxHeartbeats 1000000 in
theorem lg_room (d g : Nat) (f b : Int) (e a : Nat) (hb0 : 0 ≤ b) (hb1 : b ≤ 1000000) (ha : a ≤ 1000000) :
    Ct Tryd.prog 45 [.pointer (some ⟨g, 0, none⟩)] [(some g, .cells (lgC d f b e a).toArray 136 (0, 0))] [] fun v post => v = .int .i64 (b - (a : Int)) ∧ post = [] := by
 refine ct_of Tryd.func45 rfl rfl (fun w0 => ?_)
 show G _ _ [(0, _)] _ _
 refine G_seq ?_
 refine G_region (l := [0]) rfl ?_
 refine G_val rfl rfl rfl rfl (V_assign rfl rfl) ?_
 refine G_done ?_
 refine G_seq ?_
 refine G_seq ?_
 refine G_region (l := [0, 1]) rfl ?_
 refine G_val rfl rfl rfl rfl (V_move rfl rfl) ?_
 refine G_val rfl rfl rfl rfl (V_peqlN rfl Tryd.underlying66 rfl rfl) ?_
 refine G_done ?_
 refine G_else rfl ?_
 refine G_skip ?_
 refine G_seq ?_
 refine G_draw mixedK (by kernel_rfl) ?_
 refine GQ_val rfl rfl rfl rfl (V_move rfl rfl) ?_
 first
   | refine GQ_val rfl rfl rfl rfl (V_nilCheck rfl rfl) ?_
   | refine GQ_val rfl rfl rfl rfl (V_nilCheckF rfl rfl) ?_
 refine GQ_val rfl rfl rfl rfl (V_fieldAddr (fo := 0) rfl Tryd.underlying136 rfl infLogW_134 rfl rfl rfl) ?_
 refine GQ_val rfl rfl rfl rfl (V_fieldAddr (fo := 2) rfl Tryd.underlying134 rfl infLogW_3 rfl rfl rfl) ?_
 refine GQ_val rfl rfl rfl rfl (V_load1 rfl rfl (mem_at 0 rfl) rfl Tryd.underlying3 rfl) ?_
 refine GQ_val rfl rfl rfl rfl (V_move rfl rfl) ?_
 first
   | refine GQ_val rfl rfl rfl rfl (V_nilCheck rfl rfl) ?_
   | refine GQ_val rfl rfl rfl rfl (V_nilCheckF rfl rfl) ?_
 refine GQ_val rfl rfl rfl rfl (V_fieldAddr (fo := 4) rfl Tryd.underlying136 rfl infLogW_3 rfl rfl rfl) ?_
 refine GQ_val rfl rfl rfl rfl (V_load1 rfl rfl (mem_at 0 rfl) rfl Tryd.underlying3 rfl) ?_
 first
   | refine GQ_val rfl rfl rfl rfl ((V_sub rfl rfl rfl).int (wrap_i64 (by omega))) ?_
   | refine GQ_val rfl rfl rfl rfl (V_sub rfl rfl rfl) ?_
 refine GQ_val rfl rfl rfl rfl (V_assign rfl rfl) ?_
 refine GQ_done rfl ?_
 refine G_ret (post := []) Tryd.func45 rfl (RVs_cons (RV_tmp rfl) RVs_nil) [] rfl ?_
 dsimp only [packed]
 exact ⟨rfl, rfl⟩

set_option maxRecDepth 100000 in
set_option maxHeartbeats 1000000 in
theorem lg_room_nil  :
    Ct Tryd.prog 45 [.pointer none] [] [] fun v post => v = .int .i64 0 ∧ post = [] := by
 refine ct_of Tryd.func45 rfl rfl (fun w0 => ?_)
 show G _ _ [(0, _)] _ _
 refine G_seq ?_
 refine G_region (l := [0]) rfl ?_
 refine G_val rfl rfl rfl rfl (V_assign rfl rfl) ?_
 refine G_done ?_
 refine G_seq ?_
 refine G_seq ?_
 refine G_region (l := [0, 1]) rfl ?_
 refine G_val rfl rfl rfl rfl (V_move rfl rfl) ?_
 refine G_val rfl rfl rfl rfl (V_peqlN rfl Tryd.underlying66 rfl rfl) ?_
 refine G_done ?_
 refine G_then rfl ?_
 refine G_seq ?_
 refine G_region (l := [0]) rfl ?_
 refine G_val rfl rfl rfl rfl (V_assign rfl rfl) ?_
 refine G_done ?_
 refine G_ret (post := []) Tryd.func45 rfl (RVs_cons (RV_tmp rfl) RVs_nil) [] rfl ?_
 dsimp only [packed]
 exact ⟨rfl, rfl⟩

set_option maxRecDepth 100000 in
set_option maxHeartbeats 1000000 in
theorem lg_fits (d g : Nat) (f b : Int) (e a : Nat) (s : List UInt8) (hb0 : 0 ≤ b) (hb1 : b ≤ 1000000) (ha : a ≤ 1000000) (hs : s.length ≤ 9223372036854775000) :
    Ct Tryd.prog 40 [.pointer (some ⟨g, 0, none⟩), .string (bs s)] [(some g, .cells (lgC d f b e a).toArray 136 (0, 0))] [] fun v post => v = .bool (decide (fitsL (b - (a : Int)) s)) ∧ post = [] := by
 refine ct_of Tryd.func40 rfl rfl (fun w0 => ?_)
 show G _ _ [(0, _), (1, _)] _ _
 refine G_seq ?_
 refine G_region (l := [0]) rfl ?_
 refine G_val rfl rfl rfl rfl (V_assign rfl rfl) ?_
 refine G_done ?_
 refine G_seq ?_
 refine G_region (l := [0, 1, 2, 3, 4, 5, 6, 7, 8, 9, 10, 11, 12, 13, 14, 15]) rfl ?_
 refine G_val rfl rfl rfl rfl (V_move rfl rfl) ?_
 refine G_val rfl rfl rfl rfl (V_pneqN rfl Tryd.underlying66 rfl rfl) ?_
 refine G_val rfl rfl rfl rfl (V_move rfl rfl) ?_
 refine G_val rfl rfl rfl rfl (V_move rfl rfl) ?_
 refine G_val rfl rfl rfl rfl (V_slen rfl rfl Tryd.underlying9 rfl) ?_
 refine G_val rfl rfl rfl rfl (V_leq rfl rfl rfl) ?_
 refine G_val rfl rfl rfl rfl (V_pickT rfl rfl rfl) ?_
 refine G_val rfl rfl rfl rfl (V_move rfl rfl) ?_
 refine G_splitD 12 rfl (fun hc1 => ?_) (fun hc1 => ?_)
 · skip
   refine G_val rfl rfl rfl rfl (V_move rfl rfl) ?_
   refine G_val rfl rfl rfl rfl (V_slen rfl rfl Tryd.underlying9 rfl) ?_
   refine G_call (L2 := []) rfl rfl rfl rfl rfl rfl Tryd.call55 (fr_many _ (by omega)) [] [] rfl rfl ?_
   rintro v post ⟨rfl, rfl⟩
   refine G_val rfl rfl rfl rfl (V_move rfl rfl) ?_
   refine G_call (L2 := []) rfl rfl rfl rfl rfl rfl Tryd.call45 (lg_room d g f b e a hb0 hb1 ha) [] [0] rfl rfl ?_
   rintro v post ⟨rfl, rfl⟩
   refine G_val rfl rfl rfl rfl (V_leq rfl rfl rfl) ?_
   refine G_val rfl rfl rfl rfl (V_pickT rfl rfl rfl) ?_
   refine G_val rfl rfl rfl rfl (V_assign rfl rfl) ?_
   refine G_done ?_
   refine G_ret (post := []) Tryd.func40 rfl (RVs_cons (RV_tmp rfl) RVs_nil) [] rfl ?_
   dsimp only [packed]
   refine ⟨?_, rfl⟩; first | exact bool_eq (decide_eq_true (by unfold fitsL; omega)).symm | exact bool_eq (decide_eq_false (by unfold fitsL; omega)).symm | exact bool_eq (decide_eq_decide.2 (by unfold fitsL; omega))
 refine G_off rfl rfl rfl rfl ?_
 refine G_off rfl rfl rfl rfl ?_
 refine G_off rfl rfl rfl rfl ?_
 refine G_off rfl rfl rfl rfl ?_
 refine G_off rfl rfl rfl rfl ?_
 refine G_off rfl rfl rfl rfl ?_
 refine G_val rfl rfl rfl rfl (V_pickF rfl rfl rfl) ?_
 refine G_val rfl rfl rfl rfl (V_assign rfl rfl) ?_
 refine G_done ?_
 refine G_ret (post := []) Tryd.func40 rfl (RVs_cons (RV_tmp rfl) RVs_nil) [] rfl ?_
 dsimp only [packed]
 refine ⟨?_, rfl⟩; first | exact bool_eq (decide_eq_true (by unfold fitsL; omega)).symm | exact bool_eq (decide_eq_false (by unfold fitsL; omega)).symm | exact bool_eq (decide_eq_decide.2 (by unfold fitsL; omega))

set_option maxRecDepth 100000 in
set_option maxHeartbeats 1000000 in
theorem lg_fits_nil (x : Value) :
    Ct Tryd.prog 40 [.pointer none, x] [] [] fun v post => v = .bool false ∧ post = [] := by
 refine ct_of Tryd.func40 rfl rfl (fun w0 => ?_)
 show G _ _ [(0, _), (1, _)] _ _
 refine G_seq ?_
 refine G_region (l := [0]) rfl ?_
 refine G_val rfl rfl rfl rfl (V_assign rfl rfl) ?_
 refine G_done ?_
 refine G_seq ?_
 refine G_region (l := [0, 1, 2, 3, 4, 5, 6, 7, 8, 9, 10, 11, 12, 13, 14, 15]) rfl ?_
 refine G_val rfl rfl rfl rfl (V_move rfl rfl) ?_
 refine G_val rfl rfl rfl rfl (V_pneqN rfl Tryd.underlying66 rfl rfl) ?_
 refine G_val rfl rfl rfl rfl (V_move rfl rfl) ?_
 refine G_off rfl rfl rfl rfl ?_
 refine G_off rfl rfl rfl rfl ?_
 refine G_off rfl rfl rfl rfl ?_
 refine G_val rfl rfl rfl rfl (V_pickF rfl rfl rfl) ?_
 refine G_val rfl rfl rfl rfl (V_move rfl rfl) ?_
 refine G_off rfl rfl rfl rfl ?_
 refine G_off rfl rfl rfl rfl ?_
 refine G_off rfl rfl rfl rfl ?_
 refine G_off rfl rfl rfl rfl ?_
 refine G_off rfl rfl rfl rfl ?_
 refine G_off rfl rfl rfl rfl ?_
 refine G_val rfl rfl rfl rfl (V_pickF rfl rfl rfl) ?_
 refine G_val rfl rfl rfl rfl (V_assign rfl rfl) ?_
 refine G_done ?_
 refine G_ret (post := []) Tryd.func40 rfl (RVs_cons (RV_tmp rfl) RVs_nil) [] rfl ?_
 dsimp only [packed]
 exact ⟨rfl, rfl⟩


theorem app_stop {k kk : Dk} {f b : Int} {e a i : Nat} {s bl : List UInt8} (h : lgE (b - a) s = 0) (hwr : WrsAt k kk (f + a) (lblks e a (piecesF s)) i) (hxb : (lblks e a (piecesF s))[i]? = some bl) (he : ¬ kk.writeE (f + a + (i : Int)) bl = 0) :
    appK k f b e a s = kk.write (f + a + (i : Int)) bl ∧ appE k f b e a s = kk.writeE (f + a + (i : Int)) bl ∧ appA k f b e a s = a := by
  obtain ⟨e1, e2⟩ := app_yes (k := k) (f := f) (e := e) h
  obtain ⟨e3, e4⟩ := wrs_stop hwr hxb he
  exact ⟨e1.trans e3, e2.trans e4, app_A1 (by rw [e2, e4]; exact he)⟩
theorem app_end {k kk : Dk} {f b : Int} {e a i : Nat} {s : List UInt8} (h : lgE (b - a) s = 0) (hwr : WrsAt k kk (f + a) (lblks e a (piecesF s)) i) (hi : manyN s.length ≤ i) :
    appK k f b e a s = kk ∧ appE k f b e a s = 0 ∧ appA k f b e a s = a + manyN s.length := by
  obtain ⟨e1, e2⟩ := app_yes (k := k) (f := f) (e := e) h
  obtain ⟨e3, e4⟩ := wrs_end hwr (by rw [lblks_len, piecesF_len]; exact hi)
  exact ⟨e1.trans e3, e2.trans e4, app_A0 (e2.trans e4)⟩
theorem app_long {k : Dk} {f b : Int} {e a : Nat} {s : List UInt8} (h : ¬ s.length ≤ 1000) : appK k f b e a s = k ∧ appE k f b e a s = 4 ∧ appA k f b e a s = a := by
  have h4 : lgE (b - a) s = 4 := by unfold lgE; rw [if_pos (by omega)]
  obtain ⟨e1, e2, e3⟩ := app_no (k := k) (f := f) (e := e) (b := b) (a := a) (s := s) (by rw [h4]; decide)
  exact ⟨e1, e2.trans h4, e3⟩
theorem app_full {k : Dk} {f b : Int} {e a : Nat} {s : List UInt8} (h : s.length ≤ 1000) (h1 : ¬ fitsL (b - (a : Int)) s) : appK k f b e a s = k ∧ appE k f b e a s = 17 ∧ appA k f b e a s = a := by
  have h4 : lgE (b - a) s = 17 := by unfold lgE; rw [if_neg (by omega), if_pos (by unfold fitsL at h1; omega)]
  obtain ⟨e1, e2, e3⟩ := app_no (k := k) (f := f) (e := e) (b := b) (a := a) (s := s) (by rw [h4]; decide)
  exact ⟨e1, e2.trans h4, e3⟩

set_option maxRecDepth 100000 in
set_option maxHeartbeats 1000000 in
theorem lg_append (d n lb lcap : Nat) (lcs : Array Value) (uw : Sl) (k : Dk) (h : DkAt k n lb lcs lcap uw) (g : Nat) (f b : Int) (e a : Nat) (s : List UInt8) (hr : rgE n f b = 0) (he0 : 0 < e) (he : e < 4294967296) (ha : (a : Int) ≤ b) (hW : k.W.length ≤ 1000000 - 100) (hsl : s.length ≤ 9223372036854775000) :
    Ct Tryd.prog 41 [.pointer (some ⟨g, 0, none⟩), .string (bs s)] [] [(some g, .cells (lgC d f b e a).toArray 136 (0, 0)), (some d, .cells #[.slice (some ⟨lb, 0, none⟩) n lcap, uw.v k.W.length, .int .i64 k.fuse, .bool k.dead] 110 (0, 0)), (some lb, .cells lcs 9 (0, 0)), (uw.ob, .cells uw.cs 116 uw.fz)] fun v post => v = .int .i64 (appE k f b e a s) ∧ ∃ lcs1 uw1, DkAt (appK k f b e a s) n lb lcs1 lcap uw1 ∧ post = [(some g, .cells (lgC d f b e (appA k f b e a s)).toArray 136 (0, 0)), (some d, .cells #[.slice (some ⟨lb, 0, none⟩) n lcap, uw1.v (appK k f b e a s).W.length, .int .i64 (appK k f b e a s).fuse, .bool (appK k f b e a s).dead] 110 (0, 0)), (some lb, .cells lcs1 9 (0, 0)), (uw1.ob, .cells uw1.cs 116 uw1.fz)] := by
 have hq := h.bd
 have hq1 := hq.n1
 have hq2 := hq.n4
 have hq3 := hq.ncs
 have hq4 := hq.ncap
 have hq5 := hq.cap
 have hq6 := hq.w
 have hq7 := hq.wc
 have hln := h.len
 have hr1 := hr
 rw [rgE_ok] at hr1
 obtain ⟨hr2, hr3, hr4⟩ := hr1
 have hpl := piecesF_len s
 refine ct_of Tryd.func41 rfl rfl (fun w0 => ?_)
 show G _ _ [(0, _), (1, _)] _ _
 refine G_seq ?_
 refine G_region (l := [0]) rfl ?_
 refine G_val rfl rfl rfl rfl (V_assign rfl rfl) ?_
 refine G_done ?_
 refine G_seq ?_
 refine G_seq ?_
 refine G_region (l := [0, 1]) rfl ?_
 refine G_val rfl rfl rfl rfl (V_move rfl rfl) ?_
 refine G_val rfl rfl rfl rfl (V_peqlN rfl Tryd.underlying66 rfl rfl) ?_
 refine G_done ?_
 refine G_else rfl ?_
 refine G_skip ?_
 refine G_seq ?_
 by_cases hle : s.length ≤ 1000
 · skip
   refine G_region (l := [0, 1, 2, 3, 4, 5, 6]) rfl ?_
   refine G_val rfl rfl rfl rfl (V_move rfl rfl) ?_
   refine G_call (L2 := [_, _, _, _]) rfl rfl rfl rfl rfl rfl Tryd.call53 ((fr_encode s (by omega)).weaken (fun v post h => by rw [(encF_yes hle).1, (encF_yes hle).2, piecesF_len] at h; exact h)) [] [] rfl rfl ?_
   rintro v post ⟨u, hu, rfl, rfl⟩
   show G _ _ _ [_, _, _, _, _] _
   refine G_val rfl rfl rfl rfl (V_move rfl rfl) ?_
   refine G_val rfl rfl rfl rfl (V_extract rfl rfl rfl) ?_
   refine G_val rfl rfl rfl rfl (V_extract rfl rfl rfl) ?_
   refine G_val rfl rfl rfl rfl (V_assign rfl rfl) ?_
   refine G_val rfl rfl rfl rfl (V_assign rfl rfl) ?_
   refine G_done ?_
   refine G_seq ?_
   refine G_block ?_
   refine G_seq ?_
   refine G_region (l := [0, 1, 2]) rfl ?_
   refine G_val rfl rfl rfl rfl (V_move rfl rfl) ?_
   refine G_val rfl rfl rfl rfl (V_neq rfl rfl rfl) ?_
   refine G_val rfl rfl rfl rfl (V_assign rfl rfl) ?_
   refine G_done ?_
   refine G_ifD rfl (fun hc1 => ?_) (fun hc1 => ?_)
   · (first | (exact absurd rfl hc1) | (exact absurd hc1 (by decide)) | (exfalso; omega))
   refine G_seq ?_
   refine G_region (l := [0, 1, 2, 3, 4]) rfl ?_
   refine G_val rfl rfl rfl rfl (V_move rfl rfl) ?_
   refine G_val rfl rfl rfl rfl (V_move rfl rfl) ?_
   refine G_call (L2 := [_, _, _, _, _]) rfl rfl rfl rfl rfl rfl Tryd.call40 (lg_fits d g f b e a s (by omega) (by omega) (by omega) (by omega)) [] [1] rfl rfl ?_
   rintro v post ⟨rfl, rfl⟩
   show G _ _ _ [_, _, _, _, _] _
   refine G_val rfl rfl rfl rfl (V_not rfl rfl) ?_
   refine G_val rfl rfl rfl rfl (V_assign rfl rfl) ?_
   refine G_done ?_
   refine G_if rfl (fun hc2 => ?_) (fun hc2 => ?_)
   · skip
     refine G_seq ?_
     refine G_region (l := [0]) rfl ?_
     refine G_val rfl rfl rfl rfl (V_assign rfl rfl) ?_
     refine G_done ?_
     refine G_ret (post := [_, _, _, _]) Tryd.func41 rfl (RVs_cons (RV_tmp rfl) RVs_nil) [1, 1, 1, 1] rfl ?_
     dsimp only [packed]
     first
       | (suffices hz : ¬ s.length ≤ 1000 by (obtain ⟨e1, e2, e3⟩ := app_long (k := k) (f := f) (b := b) (e := e) (a := a) (s := s) hz; rw [e1, e2, e3]; exact ⟨rfl, lcs, uw, h, rfl⟩)
          assumption)
       | (suffices hz : s.length ≤ 1000 ∧ ¬ fitsL (b - (a : Int)) s by (obtain ⟨e1, e2, e3⟩ := app_full (k := k) (f := f) (b := b) (e := e) (a := a) (s := s) hz.1 hz.2; rw [e1, e2, e3]; exact ⟨rfl, lcs, uw, h, rfl⟩)
          exact ⟨by assumption, by simpa using hc2⟩)
       | (suffices hz : ¬ kk.writeE (f + a + (i : Int)) (sealL e (a + i) p) = 0 by (obtain ⟨e1, e2, e3⟩ := app_stop (k := k) hfit hwr hxb hz; rw [e1, e2, e3]; exact ⟨rfl, lcs1, uw1, h1, rfl⟩)
          assumption)
       | (suffices hz : manyN s.length ≤ i by (obtain ⟨e1, e2, e3⟩ := app_end (k := k) hfit hwr hz; rw [e1, e2, e3]; exact ⟨rfl, cs, v, hkk, rfl⟩)
          omega)
   refine G_skip ?_
   refine G_inBlock ?_
   refine G_seq ?_
   refine G_seq ?_
   have hfit : lgE (b - a) s = 0 := lgE_0.2 (by simpa using hc2)
   have hfit2 := (lgE_0.1 hfit).2
   have hm21 : manyN s.length ≤ 21 := by unfold manyN; omega
   refine G_region (l := [0, 1, 2]) rfl ?_
   refine G_val rfl rfl rfl rfl (V_move rfl rfl) ?_
   refine G_val rfl rfl rfl rfl (V_len rfl rfl Tryd.underlying24 rfl) ?_
   refine G_val rfl rfl rfl rfl (V_move rfl rfl) ?_
   refine G_done ?_
   refine G_block ?_
   refine G_sub ?he9 [1, 1, 1, 1, 0] ?hl9 (G_loop (X := Nat × Dk × Array Value × Sl) (fun x => match x with | ⟨i, kk, cs, v⟩ => i ≤ manyN s.length ∧ DkAt kk n lb cs lcap v ∧ WrsAt k kk (f + a) (lblks e a (piecesF s)) i ∧ kk.W.length ≤ k.W.length + i) (fun x => match x with | ⟨i, kk, cs, v⟩ => manyN s.length - i) (fun x => match x with | ⟨i, kk, cs, v⟩ => [(0, .pointer (some ⟨g, 0, none⟩)), (1, .string (bs s)), (5, u.v (manyN s.length)), (28, u.v (manyN s.length)), (29, .int .i64 (manyN s.length : Int)), (30, .int .i64 (i : Int))]) (fun x => match x with | ⟨i, kk, cs, v⟩ => [(some g, .cells (lgC d f b e a).toArray 136 (0, 0)), (some d, .cells #[.slice (some ⟨lb, 0, none⟩) n lcap, v.v kk.W.length, .int .i64 kk.fuse, .bool kk.dead] 110 (0, 0)), (some lb, .cells cs 9 (0, 0)), (v.ob, .cells v.cs 116 v.fz), (u.ob, .cells u.cs 9 u.fz)]) ?round9 (0, k, lcs, uw) ?h09)
   case he9 => exact (And.intro rfl (And.intro rfl (And.intro rfl (And.intro rfl (And.intro rfl (And.intro rfl trivial))))))
   case hl9 => exact ⟨_, rfl⟩
   case h09 => exact ⟨Nat.zero_le _, h, wrs_start k _ _, Nat.le_refl _⟩
   case round9 =>
    intro x hJ ih
    try dsimp only at hJ ih
    obtain ⟨i, kk, cs, v⟩ := x
    try dsimp only at hJ ih
    obtain ⟨hi, hkk, hwr, hww⟩ := hJ
    show G _ _ [(0, .pointer (some ⟨g, 0, none⟩)), (1, .string (bs s)), (5, u.v (manyN s.length)), (28, u.v (manyN s.length)), (29, .int .i64 (manyN s.length : Int)), (30, .int .i64 (i : Int))] [(some g, .cells (lgC d f b e a).toArray 136 (0, 0)), (some d, .cells #[.slice (some ⟨lb, 0, none⟩) n lcap, v.v kk.W.length, .int .i64 kk.fuse, .bool kk.dead] 110 (0, 0)), (some lb, .cells cs 9 (0, 0)), (v.ob, .cells v.cs 116 v.fz), (u.ob, .cells u.cs 9 u.fz)] _
    refine G_seq ?_
    refine G_region (l := [0]) rfl ?_
    refine G_val rfl rfl rfl rfl (V_lss rfl rfl rfl) ?_
    refine G_done ?_
    refine G_seq ?_
    refine G_ifD rfl (fun hc3 => ?_) (fun hc3 => ?_)
    · skip
      refine G_skip ?_
      refine G_seq ?_
      refine G_block ?_
      refine G_seq ?_
      obtain ⟨p, hp⟩ := getI (show i < (piecesF s).length by omega)
      have hp48 := piecesF_48 s p (List.mem_of_getElem? hp)
      have hpE : sealE e p = 0 := (sealE_cases _ _).2 (by omega)
      have hxb : (lblks e a (piecesF s))[i]? = some (sealL e (a + i) p) := by rw [lblks_at, hp]; rfl
      obtain ⟨uo, ucs, ufz, ucap⟩ := u
      obtain ⟨ub, rfl⟩ := hu.isSome (by omega)
      refine G_region (l := [0, 1, 2, 3, 4]) rfl ?_
      refine G_val rfl rfl rfl rfl (V_move rfl rfl) ?_
      first
        | refine G_val rfl rfl rfl rfl (V_indexAddrN (s := 1) rfl Tryd.underlying24 infLogW_9 rfl rfl rfl rfl (by omega)) ?_
        | refine G_val rfl rfl rfl rfl (V_indexAddr (s := 1) rfl Tryd.underlying24 infLogW_9 rfl rfl rfl (by omega) (by first | omega | (simp [wCells, kCells, rgC, lgC, rdC]; done) | (simp [wCells, kCells, rgC, lgC, rdC]; omega) | (simp [wCells, kCells, rgC, lgC, rdC] at *; omega))) ?_
      refine G_val rfl rfl rfl rfl (V_load1 rfl rfl (mem_at 4 rfl) (nth_of (show ucs[0 + i * 1]? = some (strC p) by rw [Nat.zero_add, Nat.mul_one]; exact hu.nth (by simp [hp]))) Tryd.underlying9 rfl) ?_
      refine G_val rfl rfl rfl rfl (V_assign rfl rfl) ?_
      refine G_val rfl rfl rfl rfl (V_assign rfl rfl) ?_
      refine G_done ?_
      refine G_seq ?_
      refine G_draw mixedK (by kernel_rfl) ?_
      refine GQ_val rfl rfl rfl rfl (V_move rfl rfl) ?_
      first
        | refine GQ_val rfl rfl rfl rfl (V_nilCheck rfl rfl) ?_
        | refine GQ_val rfl rfl rfl rfl (V_nilCheckF rfl rfl) ?_
      refine GQ_val rfl rfl rfl rfl (V_fieldAddr (fo := 3) rfl Tryd.underlying136 rfl infLogW_22 rfl rfl rfl) ?_
      refine GQ_val rfl rfl rfl rfl (V_load1 rfl rfl (mem_at 0 rfl) rfl Tryd.underlying22 rfl) ?_
      refine GQ_val rfl rfl rfl rfl (V_move rfl rfl) ?_
      first
        | refine GQ_val rfl rfl rfl rfl (V_nilCheck rfl rfl) ?_
        | refine GQ_val rfl rfl rfl rfl (V_nilCheckF rfl rfl) ?_
      refine GQ_val rfl rfl rfl rfl (V_fieldAddr (fo := 4) rfl Tryd.underlying136 rfl infLogW_3 rfl rfl rfl) ?_
      refine GQ_val rfl rfl rfl rfl (V_load1 rfl rfl (mem_at 0 rfl) rfl Tryd.underlying3 rfl) ?_
      refine GQ_val rfl rfl rfl rfl (V_move rfl rfl) ?_
      refine GQ_val rfl rfl rfl rfl (Val.int (e' := ((a + i : Nat) : Int)) (V_add rfl rfl rfl) (by rw [wrap_i64 (by omega)]; omega)) ?_
      first
        | refine GQ_val rfl rfl rfl rfl ((V_conv rfl rfl Tryd.underlying3 Tryd.underlying22).int (wrap_u32 (by omega))) ?_
        | refine GQ_val rfl rfl rfl rfl (V_conv rfl rfl Tryd.underlying3 Tryd.underlying22) ?_
      refine GQ_val rfl rfl rfl rfl (V_move rfl rfl) ?_
      refine GQ_call rfl rfl rfl rfl rfl rfl Tryd.call72 ((seal_seal e (a + i) p he (by omega) (by omega)).weaken (fun v post h => by rw [hpE] at h; exact h)) [] rfl (fun v post hp => (hp : _ ∧ _).1) ?_
      refine GQ_val rfl rfl rfl rfl (V_move rfl rfl) ?_
      refine GQ_val rfl rfl rfl rfl (V_extract rfl rfl rfl) ?_
      refine GQ_val rfl rfl rfl rfl (V_extract rfl rfl rfl) ?_
      refine GQ_val rfl rfl rfl rfl (V_assign rfl rfl) ?_
      refine GQ_val rfl rfl rfl rfl (V_assign rfl rfl) ?_
      refine GQ_done rfl ?_
      refine G_seq ?_
      refine G_seq ?_
      refine G_region (l := [0, 1]) rfl ?_
      refine G_val rfl rfl rfl rfl (V_move rfl rfl) ?_
      refine G_val rfl rfl rfl rfl (V_neq rfl rfl rfl) ?_
      refine G_done ?_
      refine G_ifD rfl (fun hc4 => ?_) (fun hc4 => ?_)
      · (first | (exact absurd rfl hc4) | (exact absurd hc4 (by decide)) | (exfalso; omega))
      refine G_skip ?_
      refine G_seq ?_
      refine GH_start (Lq := [_]) (isq := [0]) (m := 20) mixedK rfl rfl ?_
      refine GH_take 0 rfl rfl rfl rfl (by kernel_rfl) (by kernel_rfl) (by kernel_rfl) (fun _ _ => (V_move rfl rfl)) ?_
      first
        | refine GH_take 1 rfl rfl rfl rfl (by kernel_rfl) (by kernel_rfl) (by kernel_rfl) (fun _ _ => (V_nilCheck rfl rfl)) ?_
        | refine GH_take 1 rfl rfl rfl rfl (by kernel_rfl) (by kernel_rfl) (by kernel_rfl) (fun _ _ => (V_nilCheckF rfl rfl)) ?_
      refine GH_take 2 rfl rfl rfl rfl (by kernel_rfl) (by kernel_rfl) (by kernel_rfl) (fun _ _ => (V_fieldAddr (fo := 0) rfl Tryd.underlying136 rfl infLogW_134 rfl rfl rfl)) ?_
      refine GH_take 3 rfl rfl rfl rfl (by kernel_rfl) (by kernel_rfl) (by kernel_rfl) (fun _ _ => (V_fieldAddr (fo := 0) rfl Tryd.underlying134 rfl infLogW_35 rfl rfl rfl)) ?_
      refine GH_take 4 rfl rfl rfl rfl (by kernel_rfl) (by kernel_rfl) (by kernel_rfl) (fun _ _ => (V_load1 rfl rfl (mem_at 0 rfl) rfl Tryd.underlying35 rfl)) ?_
      refine GH_take 5 rfl rfl rfl rfl (by kernel_rfl) (by kernel_rfl) (by kernel_rfl) (fun _ _ => (V_move rfl rfl)) ?_
      first
        | refine GH_take 6 rfl rfl rfl rfl (by kernel_rfl) (by kernel_rfl) (by kernel_rfl) (fun _ _ => (V_nilCheck rfl rfl)) ?_
        | refine GH_take 6 rfl rfl rfl rfl (by kernel_rfl) (by kernel_rfl) (by kernel_rfl) (fun _ _ => (V_nilCheckF rfl rfl)) ?_
      refine GH_take 7 rfl rfl rfl rfl (by kernel_rfl) (by kernel_rfl) (by kernel_rfl) (fun _ _ => (V_fieldAddr (fo := 0) rfl Tryd.underlying136 rfl infLogW_134 rfl rfl rfl)) ?_
      refine GH_take 8 rfl rfl rfl rfl (by kernel_rfl) (by kernel_rfl) (by kernel_rfl) (fun _ _ => (V_fieldAddr (fo := 1) rfl Tryd.underlying134 rfl infLogW_3 rfl rfl rfl)) ?_
      refine GH_take 9 rfl rfl rfl rfl (by kernel_rfl) (by kernel_rfl) (by kernel_rfl) (fun _ _ => (V_load1 rfl rfl (mem_at 0 rfl) rfl Tryd.underlying3 rfl)) ?_
      refine GH_take 10 rfl rfl rfl rfl (by kernel_rfl) (by kernel_rfl) (by kernel_rfl) (fun _ _ => (V_move rfl rfl)) ?_
      first
        | refine GH_take 11 rfl rfl rfl rfl (by kernel_rfl) (by kernel_rfl) (by kernel_rfl) (fun _ _ => (V_nilCheck rfl rfl)) ?_
        | refine GH_take 11 rfl rfl rfl rfl (by kernel_rfl) (by kernel_rfl) (by kernel_rfl) (fun _ _ => (V_nilCheckF rfl rfl)) ?_
      refine GH_take 12 rfl rfl rfl rfl (by kernel_rfl) (by kernel_rfl) (by kernel_rfl) (fun _ _ => (V_fieldAddr (fo := 4) rfl Tryd.underlying136 rfl infLogW_3 rfl rfl rfl)) ?_
      refine GH_take 13 rfl rfl rfl rfl (by kernel_rfl) (by kernel_rfl) (by kernel_rfl) (fun _ _ => (V_load1 rfl rfl (mem_at 0 rfl) rfl Tryd.underlying3 rfl)) ?_
      first
        | refine GH_take 14 rfl rfl rfl rfl (by kernel_rfl) (by kernel_rfl) (by kernel_rfl) (fun _ _ => ((V_add rfl rfl rfl).int (wrap_i64 (by omega)))) ?_
        | refine GH_take 14 rfl rfl rfl rfl (by kernel_rfl) (by kernel_rfl) (by kernel_rfl) (fun _ _ => (V_add rfl rfl rfl)) ?_
      refine GH_take 15 rfl rfl rfl rfl (by kernel_rfl) (by kernel_rfl) (by kernel_rfl) (fun _ _ => (V_move rfl rfl)) ?_
      first
        | refine GH_take 16 rfl rfl rfl rfl (by kernel_rfl) (by kernel_rfl) (by kernel_rfl) (fun _ _ => ((V_add rfl rfl rfl).int (wrap_i64 (by omega)))) ?_
        | refine GH_take 16 rfl rfl rfl rfl (by kernel_rfl) (by kernel_rfl) (by kernel_rfl) (fun _ _ => (V_add rfl rfl rfl)) ?_
      refine GH_take 17 rfl rfl rfl rfl (by kernel_rfl) (by kernel_rfl) (by kernel_rfl) (fun _ _ => (V_move rfl rfl)) ?_
      refine GH_all [18] (by kernel_rfl) (by decide) ?_
      refine (And.intro ?_ trivial)
      · skip
        refine GHop_call (L2 := [_, _]) rfl rfl rfl rfl rfl rfl Tryd.call20 (dk_write d n lb lcap cs v kk hkk (f + a + (i : Int)) (sealL e (a + i) p) (by omega)) [1, 1, 1] [] rfl rfl [3] (by rintro v post ⟨rfl, lcs1, uw1, h1, rfl⟩; exact ⟨_, rfl⟩) ?_
        rintro v post ⟨rfl, lcs1, uw1, h1, rfl⟩
        show GH _ _ _ _ _ _ _ [_, _, _, _, _] _
        refine GH_take 19 rfl rfl rfl rfl (by kernel_rfl) (by kernel_rfl) (by kernel_rfl) (fun _ _ => (V_assign rfl rfl)) ?_
        refine GH_done (by kernel_rfl) ?_
        refine G_seq ?_
        refine G_region (l := [0, 1]) rfl ?_
        refine G_val rfl rfl rfl rfl (V_move rfl rfl) ?_
        refine G_val rfl rfl rfl rfl (V_neq rfl rfl rfl) ?_
        refine G_done ?_
        refine G_ifD rfl (fun hc5 => ?_) (fun hc5 => ?_)
        · skip
          refine G_seq ?_
          refine G_region (l := [0, 1]) rfl ?_
          refine G_val rfl rfl rfl rfl (V_move rfl rfl) ?_
          refine G_val rfl rfl rfl rfl (V_assign rfl rfl) ?_
          refine G_done ?_
          refine G_ret (post := [_, _, _, _]) Tryd.func41 rfl (RVs_cons (RV_tmp rfl) RVs_nil) [3, 0, 0, 0] rfl ?_
          dsimp only [packed]
          first
            | (suffices hz : ¬ s.length ≤ 1000 by (obtain ⟨e1, e2, e3⟩ := app_long (k := k) (f := f) (b := b) (e := e) (a := a) (s := s) hz; rw [e1, e2, e3]; exact ⟨rfl, lcs, uw, h, rfl⟩)
               assumption)
            | (suffices hz : s.length ≤ 1000 ∧ ¬ fitsL (b - (a : Int)) s by (obtain ⟨e1, e2, e3⟩ := app_full (k := k) (f := f) (b := b) (e := e) (a := a) (s := s) hz.1 hz.2; rw [e1, e2, e3]; exact ⟨rfl, lcs, uw, h, rfl⟩)
               exact ⟨by assumption, by simpa using hc2⟩)
            | (suffices hz : ¬ kk.writeE (f + a + (i : Int)) (sealL e (a + i) p) = 0 by (obtain ⟨e1, e2, e3⟩ := app_stop (k := k) hfit hwr hxb hz; rw [e1, e2, e3]; exact ⟨rfl, lcs1, uw1, h1, rfl⟩)
               assumption)
            | (suffices hz : manyN s.length ≤ i by (obtain ⟨e1, e2, e3⟩ := app_end (k := k) hfit hwr hz; rw [e1, e2, e3]; exact ⟨rfl, cs, v, hkk, rfl⟩)
               omega)
        refine G_skip ?_
        refine G_inBlock ?_
        refine G_region (l := [0, 1]) rfl ?_
        first
          | refine G_val rfl rfl rfl rfl ((V_add rfl rfl rfl).int (wrap_i64 (by omega))) ?_
          | refine G_val rfl rfl rfl rfl (V_add rfl rfl rfl) ?_
        refine G_val rfl rfl rfl rfl (V_move rfl rfl) ?_
        refine G_done ?_
        refine G_sub ?_ [3, 0, 0, 0, 0] ?_ (ih (i + 1, kk.write (f + a + (i : Int)) (sealL e (a + i) p), lcs1, uw1) ?_ ?_)
        · (refine (And.intro ?_ (And.intro ?_ (And.intro ?_ (And.intro ?_ (And.intro ?_ (And.intro ?_ trivial)))))) <;> first | rfl | exact slot_int (by omega) | exact slot_int (by simp))
        · exact ⟨_, rfl⟩
        · exact ⟨by omega, h1, wrs_next hwr hxb (by omega), by show (kk.write (f + a + (i : Int)) (sealL e (a + i) p)).W.length ≤ k.W.length + (i + 1); have := write_W kk (f + a + (i : Int)) (sealL e (a + i) p); omega⟩
        · (first | omega | (dsimp only; omega))
    refine G_exit rfl ?_
    refine G_seq ?_
    refine G_region (l := [0, 1, 2, 3, 4, 5, 6, 7, 8, 9]) rfl ?_
    refine G_val rfl rfl rfl rfl (V_move rfl rfl) ?_
    first
      | refine G_val rfl rfl rfl rfl (V_nilCheck rfl rfl) ?_
      | refine G_val rfl rfl rfl rfl (V_nilCheckF rfl rfl) ?_
    refine G_val rfl rfl rfl rfl (V_fieldAddr (fo := 4) rfl Tryd.underlying136 rfl infLogW_3 rfl rfl rfl) ?_
    refine G_val rfl rfl rfl rfl (V_load1 rfl rfl (mem_at 0 rfl) rfl Tryd.underlying3 rfl) ?_
    refine G_val rfl rfl rfl rfl (V_move rfl rfl) ?_
    refine G_val rfl rfl rfl rfl (V_len rfl rfl Tryd.underlying24 rfl) ?_
    refine G_val rfl rfl rfl rfl (Val.int (e' := ((a + manyN s.length : Nat) : Int)) (V_add rfl rfl rfl) (by rw [wrap_i64 (by omega)]; omega)) ?_
    first
      | refine G_val rfl rfl rfl rfl (V_nilCheck rfl rfl) ?_
      | refine G_val rfl rfl rfl rfl (V_nilCheckF rfl rfl) ?_
    refine G_val rfl rfl rfl rfl (V_fieldAddr (fo := 4) rfl Tryd.underlying136 rfl infLogW_3 rfl rfl rfl) ?_
    refine G_put (l1 := []) (L' := [_, _, _, _, _]) rfl rfl rfl rfl (P_store1 rfl rfl rfl (mem_at 0 rfl) (by first | exact of_decide_eq_true rfl | omega | (simp [wCells, kCells, rgC, lgC, rdC]; done) | (simp [wCells, kCells, rgC, lgC, rdC]; omega) | (simp [wCells, kCells, rgC, lgC, rdC] at *; omega)) infLogW_3 rfl rfl) rfl ?_
    refine G_done ?_
    refine G_seq ?_
    refine G_region (l := [0]) rfl ?_
    refine G_val rfl rfl rfl rfl (V_assign rfl rfl) ?_
    refine G_done ?_
    refine G_ret (post := [_, _, _, _]) Tryd.func41 rfl (RVs_cons (RV_tmp rfl) RVs_nil) [0, 0, 0, 0] rfl ?_
    dsimp only [packed]
    first
      | (suffices hz : ¬ s.length ≤ 1000 by (obtain ⟨e1, e2, e3⟩ := app_long (k := k) (f := f) (b := b) (e := e) (a := a) (s := s) hz; rw [e1, e2, e3]; exact ⟨rfl, lcs, uw, h, rfl⟩)
         assumption)
      | (suffices hz : s.length ≤ 1000 ∧ ¬ fitsL (b - (a : Int)) s by (obtain ⟨e1, e2, e3⟩ := app_full (k := k) (f := f) (b := b) (e := e) (a := a) (s := s) hz.1 hz.2; rw [e1, e2, e3]; exact ⟨rfl, lcs, uw, h, rfl⟩)
         exact ⟨by assumption, by simpa using hc2⟩)
      | (suffices hz : ¬ kk.writeE (f + a + (i : Int)) (sealL e (a + i) p) = 0 by (obtain ⟨e1, e2, e3⟩ := app_stop (k := k) hfit hwr hxb hz; rw [e1, e2, e3]; exact ⟨rfl, lcs1, uw1, h1, rfl⟩)
         assumption)
      | (suffices hz : manyN s.length ≤ i by (obtain ⟨e1, e2, e3⟩ := app_end (k := k) hfit hwr hz; rw [e1, e2, e3]; exact ⟨rfl, cs, v, hkk, rfl⟩)
         omega)
 · skip
   refine G_region (l := [0, 1, 2, 3, 4, 5, 6]) rfl ?_
   refine G_val rfl rfl rfl rfl (V_move rfl rfl) ?_
   refine G_call (L2 := [_, _, _, _]) rfl rfl rfl rfl rfl rfl Tryd.call53 ((fr_encode s (by omega)).weaken (fun v post h => by rw [(encF_no hle).1, (encF_no hle).2] at h; exact h)) [] [] rfl rfl ?_
   rintro v post ⟨u, hu, rfl, rfl⟩
   show G _ _ _ [_, _, _, _, _] _
   refine G_val rfl rfl rfl rfl (V_move rfl rfl) ?_
   refine G_val rfl rfl rfl rfl (V_extract rfl rfl rfl) ?_
   refine G_val rfl rfl rfl rfl (V_extract rfl rfl rfl) ?_
   refine G_val rfl rfl rfl rfl (V_assign rfl rfl) ?_
   refine G_val rfl rfl rfl rfl (V_assign rfl rfl) ?_
   refine G_done ?_
   refine G_seq ?_
   refine G_block ?_
   refine G_seq ?_
   refine G_region (l := [0, 1, 2]) rfl ?_
   refine G_val rfl rfl rfl rfl (V_move rfl rfl) ?_
   refine G_val rfl rfl rfl rfl (V_neq rfl rfl rfl) ?_
   refine G_val rfl rfl rfl rfl (V_assign rfl rfl) ?_
   refine G_done ?_
   refine G_ifD rfl (fun hc1 => ?_) (fun hc1 => ?_)
   rotate_left
   · (first | (exact absurd rfl hc1) | (exact absurd hc1 (by decide)) | (exfalso; omega))
   refine G_seq ?_
   refine G_region (l := [0, 1]) rfl ?_
   refine G_val rfl rfl rfl rfl (V_move rfl rfl) ?_
   refine G_val rfl rfl rfl rfl (V_assign rfl rfl) ?_
   refine G_done ?_
   refine G_ret (post := [_, _, _, _]) Tryd.func41 rfl (RVs_cons (RV_tmp rfl) RVs_nil) [1, 1, 1, 1] rfl ?_
   dsimp only [packed]
   first
     | (suffices hz : ¬ s.length ≤ 1000 by (obtain ⟨e1, e2, e3⟩ := app_long (k := k) (f := f) (b := b) (e := e) (a := a) (s := s) hz; rw [e1, e2, e3]; exact ⟨rfl, lcs, uw, h, rfl⟩)
        assumption)
     | (suffices hz : s.length ≤ 1000 ∧ ¬ fitsL (b - (a : Int)) s by (obtain ⟨e1, e2, e3⟩ := app_full (k := k) (f := f) (b := b) (e := e) (a := a) (s := s) hz.1 hz.2; rw [e1, e2, e3]; exact ⟨rfl, lcs, uw, h, rfl⟩)
        exact ⟨by assumption, by simpa using hc2⟩)
     | (suffices hz : ¬ kk.writeE (f + a + (i : Int)) (sealL e (a + i) p) = 0 by (obtain ⟨e1, e2, e3⟩ := app_stop (k := k) hfit hwr hxb hz; rw [e1, e2, e3]; exact ⟨rfl, lcs1, uw1, h1, rfl⟩)
        assumption)
     | (suffices hz : manyN s.length ≤ i by (obtain ⟨e1, e2, e3⟩ := app_end (k := k) hfit hwr hz; rw [e1, e2, e3]; exact ⟨rfl, cs, v, hkk, rfl⟩)
        omega)

set_option maxRecDepth 100000 in
set_option maxHeartbeats 1000000 in
theorem lg_append_nil (x : Value) :
    Ct Tryd.prog 41 [.pointer none, x] [] [] fun v post => v = .int .i64 19 ∧ post = [] := by
 refine ct_of Tryd.func41 rfl rfl (fun w0 => ?_)
 show G _ _ [(0, _), (1, _)] _ _
 refine G_seq ?_
 refine G_region (l := [0]) rfl ?_
 refine G_val rfl rfl rfl rfl (V_assign rfl rfl) ?_
 refine G_done ?_
 refine G_seq ?_
 refine G_seq ?_
 refine G_region (l := [0, 1]) rfl ?_
 refine G_val rfl rfl rfl rfl (V_move rfl rfl) ?_
 refine G_val rfl rfl rfl rfl (V_peqlN rfl Tryd.underlying66 rfl rfl) ?_
 refine G_done ?_
 refine G_then rfl ?_
 refine G_seq ?_
 refine G_region (l := [0]) rfl ?_
 refine G_val rfl rfl rfl rfl (V_assign rfl rfl) ?_
 refine G_done ?_
 refine G_ret (post := []) Tryd.func41 rfl (RVs_cons (RV_tmp rfl) RVs_nil) [] rfl ?_
 dsimp only [packed]
 exact ⟨rfl, rfl⟩

end
end Go.Proofs.YtbblkgdejgoncaaDoor

/- The walks of layer 26, on: what reads a log. -/
set_option linter.unusedSimpArgs false
set_option linter.unusedVariables false
namespace Go.Proofs.YtbblkgdejgoncaaDoor
open Go Go.RowKit

section
theorem infLogX_3 : Tryd.prog.info? 3 = some Tryd.t3 := by kernel_rfl
theorem infLogX_9 : Tryd.prog.info? 9 = some Tryd.t9 := by kernel_rfl
theorem infLogX_22 : Tryd.prog.info? 22 = some Tryd.t22 := by kernel_rfl
theorem infLogX_29 : Tryd.prog.info? 29 = some Tryd.t29 := by kernel_rfl
theorem infLogX_35 : Tryd.prog.info? 35 = some Tryd.t35 := by kernel_rfl
theorem infLogX_134 : Tryd.prog.info? 134 = some Tryd.t134 := by kernel_rfl


theorem blk_small {rb : List (List UInt8)} {i : Nat} {x : List UInt8} (h : rb.getD i [] = x) : pE rb i = openE x ∧ pD rb i = openD x ∧ pOk rb i = (openOk x && decide (openI x = i)) := by
  subst h; exact ⟨rfl, rfl, rfl⟩
theorem pOk_yes {rb : List (List UInt8)} {i : Nat} {x : List UInt8} (h : rb.getD i [] = x) (h1 : openOk x = true) (h2 : ((openI x : Nat) : Int) = (i : Int)) : pOk rb i = true := by
  rw [(blk_small h).2.2, h1, decide_eq_true (by omega)]; rfl
theorem pOk_no1 {rb : List (List UInt8)} {i : Nat} {x : List UInt8} (h : rb.getD i [] = x) (h1 : openOk x = false) : pOk rb i = false := by
  rw [(blk_small h).2.2, h1]; rfl
theorem pOk_no2 {rb : List (List UInt8)} {i : Nat} {x : List UInt8} (h : rb.getD i [] = x) (h2 : ¬ ((openI x : Nat) : Int) = (i : Int)) : pOk rb i = false := by
  rw [(blk_small h).2.2, decide_eq_false (by omega), Bool.and_false]
theorem pOk_dec {rb : List (List UInt8)} {i : Nat} {x : List UInt8} (h : rb.getD i [] = x) (h1 : openOk x = true) : pOk rb i = decide (((openI x : Nat) : Int) = (i : Int)) := by
  rw [(blk_small h).2.2, h1, Bool.true_and]; exact decide_eq_decide.2 (by omega)

set_option maxRecDepth 100000 in
set_option maxHeartbeats 1000000 in
theorem rd_block (d n lb lcap : Nat) (lcs : Array Value) (uw : Sl) (k : Dk) (h : DkAt k n lb lcs lcap uw) (r : Nat) (f b : Int) (base e a : Nat) (hr : rgE n f b = 0) (hd : k.dead = false) (i : Nat) (hi : i ≤ 1000000) :
    Ct Tryd.prog 115 [.pointer (some ⟨r, 0, none⟩), .int .i64 (i : Int)] [(some r, .cells (rdC d f b base e a).toArray 143 (0, 0)), (some d, .cells #[.slice (some ⟨lb, 0, none⟩) n lcap, uw.v k.W.length, .int .i64 k.fuse, .bool k.dead] 110 (0, 0)), (some lb, .cells lcs 9 (0, 0)), (uw.ob, .cells uw.cs 116 uw.fz)] [] fun v post => v = .tuple #[.int .u32 ((pE (rdB k f b.toNat) i : Nat) : Int), .string (bs (pD (rdB k f b.toNat) i)), .bool (pOk (rdB k f b.toNat) i)] ∧ post = [] := by
 have hq := h.bd
 have hq1 := hq.n1
 have hq2 := hq.n4
 have hq3 := hq.ncs
 have hq4 := hq.ncap
 have hq5 := hq.cap
 have hq6 := hq.w
 have hq7 := hq.wc
 have hln := h.len
 have hr1 := hr
 rw [rgE_ok] at hr1
 obtain ⟨hr2, hr3, hr4⟩ := hr1
 have hrl := rdB_len k f b.toNat
 refine ct_of Tryd.func115 rfl rfl (fun w0 => ?_)
 show G _ _ [(0, _), (1, _)] _ _
 refine G_seq ?_
 refine G_region (l := [0, 1, 2]) rfl ?_
 refine G_val rfl rfl rfl rfl (V_assign rfl rfl) ?_
 refine G_val rfl rfl rfl rfl (V_assign rfl rfl) ?_
 refine G_val rfl rfl rfl rfl (V_assign rfl rfl) ?_
 refine G_done ?_
 refine G_seq ?_
 refine G_seq ?_
 refine G_region (l := [0, 1, 2, 3, 4, 5, 6]) rfl ?_
 refine G_val rfl rfl rfl rfl (V_move rfl rfl) ?_
 refine G_val rfl rfl rfl rfl (V_move rfl rfl) ?_
 first
   | refine G_val rfl rfl rfl rfl (V_nilCheck rfl rfl) ?_
   | refine G_val rfl rfl rfl rfl (V_nilCheckF rfl rfl) ?_
 refine G_val rfl rfl rfl rfl (V_fieldAddr (fo := 0) rfl Tryd.underlying143 rfl infLogX_134 rfl rfl rfl) ?_
 refine G_val rfl rfl rfl rfl (V_fieldAddr (fo := 2) rfl Tryd.underlying134 rfl infLogX_3 rfl rfl rfl) ?_
 refine G_val rfl rfl rfl rfl (V_load1 rfl rfl (mem_at 0 rfl) rfl Tryd.underlying3 rfl) ?_
 refine G_val rfl rfl rfl rfl (V_geq rfl rfl rfl) ?_
 refine G_done ?_
 refine G_ifD rfl (fun hc1 => ?_) (fun hc1 => ?_)
 · skip
   refine G_seq ?_
   refine G_region (l := [0, 1, 2]) rfl ?_
   refine G_val rfl rfl rfl rfl (V_assign rfl rfl) ?_
   refine G_val rfl rfl rfl rfl (V_assign rfl rfl) ?_
   refine G_val rfl rfl rfl rfl (V_assign rfl rfl) ?_
   refine G_done ?_
   refine G_ret (post := []) Tryd.func115 rfl (RVs_cons (RV_tmp rfl) (RVs_cons (RV_tmp rfl) (RVs_cons (RV_tmp rfl) RVs_nil))) [] rfl ?_
   dsimp only [packed]
   first
     | (suffices hz : b.toNat ≤ i by (obtain ⟨e1, e2, e3⟩ := pOk_big (rb := (rdB k f b.toNat)) (i := i) (by omega); rw [e1, e2, e3]; exact ⟨rfl, rfl⟩)
        omega)
     | (obtain ⟨e1, e2, e3⟩ := blk_small hbg; rw [e1, e2, pOk_dec hbg (by assumption)]; exact ⟨rfl, rfl⟩)
     | (obtain ⟨e1, e2, e3⟩ := blk_small hbg; rw [e1, e2, pOk_no1 hbg (by assumption)]; exact ⟨rfl, rfl⟩)
 refine G_skip ?_
 refine G_seq ?_
 have hib : i < b.toNat := by omega
 have hre : k.readE (f + (i : Int)) = 0 := (read_yes (hasE_ok.2 (by omega)) (by rw [hd]; exact Bool.false_ne_true)).1
 have hbg := rdB_get (k := k) (f := f) hib
 have hr64 := readS_len h.ok (f + (i : Int))
 refine G_draw mixedK (by kernel_rfl) ?_
 refine GQ_val rfl rfl rfl rfl (V_move rfl rfl) ?_
 first
   | refine GQ_val rfl rfl rfl rfl (V_nilCheck rfl rfl) ?_
   | refine GQ_val rfl rfl rfl rfl (V_nilCheckF rfl rfl) ?_
 refine GQ_val rfl rfl rfl rfl (V_fieldAddr (fo := 0) rfl Tryd.underlying143 rfl infLogX_134 rfl rfl rfl) ?_
 refine GQ_val rfl rfl rfl rfl (V_fieldAddr (fo := 0) rfl Tryd.underlying134 rfl infLogX_35 rfl rfl rfl) ?_
 refine GQ_val rfl rfl rfl rfl (V_load1 rfl rfl (mem_at 0 rfl) rfl Tryd.underlying35 rfl) ?_
 refine GQ_val rfl rfl rfl rfl (V_move rfl rfl) ?_
 first
   | refine GQ_val rfl rfl rfl rfl (V_nilCheck rfl rfl) ?_
   | refine GQ_val rfl rfl rfl rfl (V_nilCheckF rfl rfl) ?_
 refine GQ_val rfl rfl rfl rfl (V_fieldAddr (fo := 0) rfl Tryd.underlying143 rfl infLogX_134 rfl rfl rfl) ?_
 refine GQ_val rfl rfl rfl rfl (V_fieldAddr (fo := 1) rfl Tryd.underlying134 rfl infLogX_3 rfl rfl rfl) ?_
 refine GQ_val rfl rfl rfl rfl (V_load1 rfl rfl (mem_at 0 rfl) rfl Tryd.underlying3 rfl) ?_
 refine GQ_val rfl rfl rfl rfl (V_move rfl rfl) ?_
 first
   | refine GQ_val rfl rfl rfl rfl ((V_add rfl rfl rfl).int (wrap_i64 (by omega))) ?_
   | refine GQ_val rfl rfl rfl rfl (V_add rfl rfl rfl) ?_
 refine GQ_call rfl rfl rfl rfl rfl rfl Tryd.call29 ((dk_read d n lb lcap lcs uw k h (f + (i : Int))).weaken (fun v post h => by rw [hre] at h; exact h)) [1, 2, 3] rfl (fun v post hp => (hp : _ ∧ _).1) ?_
 refine GQ_val rfl rfl rfl rfl (V_move rfl rfl) ?_
 refine GQ_val rfl rfl rfl rfl (V_extract rfl rfl rfl) ?_
 refine GQ_val rfl rfl rfl rfl (V_extract rfl rfl rfl) ?_
 refine GQ_val rfl rfl rfl rfl (V_assign rfl rfl) ?_
 refine GQ_val rfl rfl rfl rfl (V_assign rfl rfl) ?_
 refine GQ_done rfl ?_
 refine G_seq ?_
 refine G_seq ?_
 refine G_region (l := [0, 1]) rfl ?_
 refine G_val rfl rfl rfl rfl (V_move rfl rfl) ?_
 refine G_val rfl rfl rfl rfl (V_neq rfl rfl rfl) ?_
 refine G_done ?_
 refine G_ifD rfl (fun hc2 => ?_) (fun hc2 => ?_)
 · (first | (exact absurd rfl hc2) | (exfalso; omega))
 refine G_skip ?_
 refine G_seq ?_
 have hq1 := openE_lt (k.readS (f + (i : Int)))
 have hq2 := openI_lt (k.readS (f + (i : Int)))
 refine G_region (l := [0, 1, 2, 3, 4, 5, 6, 7, 8, 9, 10]) rfl ?_
 refine G_val rfl rfl rfl rfl (V_move rfl rfl) ?_
 refine G_call (L2 := []) rfl rfl rfl rfl rfl rfl Tryd.call68 (seal_open _ (by first | omega | (simp; omega))) [] [] rfl rfl ?_
 rintro v post ⟨rfl, rfl⟩
 refine G_val rfl rfl rfl rfl (V_move rfl rfl) ?_
 refine G_val rfl rfl rfl rfl (V_extract rfl rfl rfl) ?_
 refine G_val rfl rfl rfl rfl (V_extract rfl rfl rfl) ?_
 refine G_val rfl rfl rfl rfl (V_extract rfl rfl rfl) ?_
 refine G_val rfl rfl rfl rfl (V_extract rfl rfl rfl) ?_
 refine G_val rfl rfl rfl rfl (V_assign rfl rfl) ?_
 refine G_val rfl rfl rfl rfl (V_assign rfl rfl) ?_
 refine G_val rfl rfl rfl rfl (V_assign rfl rfl) ?_
 refine G_val rfl rfl rfl rfl (V_assign rfl rfl) ?_
 refine G_done ?_
 refine G_seq ?_
 refine G_region (l := [0, 1, 2, 3, 4, 5, 6, 7, 8, 9, 10, 11]) rfl ?_
 refine G_val rfl rfl rfl rfl (V_move rfl rfl) ?_
 refine G_val rfl rfl rfl rfl (V_move rfl rfl) ?_
 refine G_val rfl rfl rfl rfl (V_move rfl rfl) ?_
 refine G_val rfl rfl rfl rfl (V_move rfl rfl) ?_
 refine G_split 52 rfl (fun hc3 => ?_) (fun hc3 => ?_)
 · skip
   refine G_val rfl rfl rfl rfl (V_move rfl rfl) ?_
   refine G_val rfl rfl rfl rfl (V_move rfl rfl) ?_
   first
     | refine G_val rfl rfl rfl rfl ((V_conv rfl rfl Tryd.underlying3 Tryd.underlying22).int (wrap_u32 (by omega))) ?_
     | refine G_val rfl rfl rfl rfl (V_conv rfl rfl Tryd.underlying3 Tryd.underlying22) ?_
   refine G_val rfl rfl rfl rfl (V_eql rfl rfl rfl) ?_
   refine G_val rfl rfl rfl rfl (V_pickT rfl rfl rfl) ?_
   refine G_val rfl rfl rfl rfl (V_assign rfl rfl) ?_
   refine G_val rfl rfl rfl rfl (V_assign rfl rfl) ?_
   refine G_val rfl rfl rfl rfl (V_assign rfl rfl) ?_
   refine G_done ?_
   refine G_ret (post := []) Tryd.func115 rfl (RVs_cons (RV_tmp rfl) (RVs_cons (RV_tmp rfl) (RVs_cons (RV_tmp rfl) RVs_nil))) [] rfl ?_
   dsimp only [packed]
   first
     | (suffices hz : b.toNat ≤ i by (obtain ⟨e1, e2, e3⟩ := pOk_big (rb := (rdB k f b.toNat)) (i := i) (by omega); rw [e1, e2, e3]; exact ⟨rfl, rfl⟩)
        omega)
     | (obtain ⟨e1, e2, e3⟩ := blk_small hbg; rw [e1, e2, pOk_dec hbg (by assumption)]; exact ⟨rfl, rfl⟩)
     | (obtain ⟨e1, e2, e3⟩ := blk_small hbg; rw [e1, e2, pOk_no1 hbg (by assumption)]; exact ⟨rfl, rfl⟩)
 refine G_off rfl rfl rfl rfl ?_
 refine G_off rfl rfl rfl rfl ?_
 refine G_off rfl rfl rfl rfl ?_
 refine G_off rfl rfl rfl rfl ?_
 refine G_val rfl rfl rfl rfl (V_pickF rfl rfl rfl) ?_
 refine G_val rfl rfl rfl rfl (V_assign rfl rfl) ?_
 refine G_val rfl rfl rfl rfl (V_assign rfl rfl) ?_
 refine G_val rfl rfl rfl rfl (V_assign rfl rfl) ?_
 refine G_done ?_
 refine G_ret (post := []) Tryd.func115 rfl (RVs_cons (RV_tmp rfl) (RVs_cons (RV_tmp rfl) (RVs_cons (RV_tmp rfl) RVs_nil))) [] rfl ?_
 dsimp only [packed]
 first
   | (suffices hz : b.toNat ≤ i by (obtain ⟨e1, e2, e3⟩ := pOk_big (rb := (rdB k f b.toNat)) (i := i) (by omega); rw [e1, e2, e3]; exact ⟨rfl, rfl⟩)
      omega)
   | (obtain ⟨e1, e2, e3⟩ := blk_small hbg; rw [e1, e2, pOk_dec hbg (by assumption)]; exact ⟨rfl, rfl⟩)
   | (obtain ⟨e1, e2, e3⟩ := blk_small hbg; rw [e1, e2, pOk_no1 hbg (by assumption)]; exact ⟨rfl, rfl⟩)


theorem rc_no1 {rb : List (List UInt8)} {base e a : Nat} (h : pOk rb a = false) : ¬ rcOk rb base e a := fun x => Bool.false_ne_true (h.symm.trans x.1)
theorem rc_no2 {rb : List (List UInt8)} {base e a : Nat} (h : (pE rb a : Int) < (base : Int)) : ¬ rcOk rb base e a := fun x => by have := x.2.1; omega
theorem rc_no3 {rb : List (List UInt8)} {base e a : Nat} (h : (e : Int) < (pE rb a : Int)) : ¬ rcOk rb base e a := fun x => by have := x.2.2.1; omega
theorem rc_no4 {rb : List (List UInt8)} {base e a : Nat} (h : ¬ sizeFE (pD rb a) = 0) : ¬ rcOk rb base e a := fun x => h x.2.2.2.1
theorem rc_no5 {rb : List (List UInt8)} {base e a j : Nat} (hj : j < rcM rb a) (h : ¬ (pOk rb (a + j) = true ∧ pE rb (a + j) = pE rb a)) : ¬ rcOk rb base e a := fun x => h (x.2.2.2.2.1 j hj)
theorem rc_no6 {rb : List (List UInt8)} {base e a : Nat} (h : ¬ decE (rcTo rb a (rcM rb a)) = 0) : ¬ rcOk rb base e a := fun x => h x.2.2.2.2.2
theorem rcGo_one (rb : List (List UInt8)) (a : Nat) (h : pOk rb a = true) : rcGo rb a 1 := fun j hj => by
  obtain rfl : j = 0 := by omega
  exact ⟨h, rfl⟩
theorem rcGo_next {rb : List (List UInt8)} {a m : Nat} (h : rcGo rb a m) (h1 : pOk rb (a + m) = true) (h2 : pE rb (a + m) = pE rb a) : rcGo rb a (m + 1) := fun j hj => by
  rcases Nat.lt_or_ge j m with h3 | h3
  · exact h j h3
  · obtain rfl : j = m := by omega
    exact ⟨h1, h2⟩
theorem rcTo_48 {rb : List (List UInt8)} {a m : Nat} (h : rcGo rb a m) : ∀ x ∈ rcTo rb a m, x.length ≤ 9223372036854775807 := by
  intro x hx
  simp only [rcTo, List.mem_map, List.mem_range] at hx
  obtain ⟨j, hj, rfl⟩ := hx
  have := pD_len (h j hj).1
  omega
theorem rcTo_nextS (rb : List (List UInt8)) (a m : Nat) : (rcTo rb a m).map strC ++ [strC (pD rb (a + m))] = (rcTo rb a (m + 1)).map strC := by rw [rcTo_next, List.map_append]; rfl
theorem dec_lenT {rb : List (List UInt8)} {a : Nat} (h : decE (rcTo rb a (rcM rb a)) = 0) : decM (rcTo rb a (rcM rb a)) = rcM rb a := rc_decM h
attribute [local irreducible] rcTo rcM pOk pE pD decS decM decE sizeF sizeFE
theorem one_own {b9 : Nat} {x : List UInt8} : Own 1 ⟨some b9, #[.string (bs x)], (0, 0), 1⟩ [strC x] 1 := ⟨rfl, by simp, by simp, rfl, rfl, by simp, fun h => by cases h⟩


theorem dec_to (u : Sl) (rb : List (List UInt8)) (a m : Nat) (h : Own 1 u ((rcTo rb a m).map strC) m) (hl : ∀ x ∈ rcTo rb a m, x.length ≤ 9223372036854775807) : Ct Tryd.prog 14 [u.v m] [(u.ob, .cells u.cs 9 u.fz)] [] (fun v post => v = .tuple #[.string (bs (decS (rcTo rb a m))), .int .i64 (decM (rcTo rb a m) : Int), .int .i64 (decE (rcTo rb a m))] ∧ post = []) := by
  have hq := fr_decode u.ob 0 u.cap u.cs 9 u.fz (rcTo rb a m) (by rw [rcTo_len]; exact h.sees) hl
  rw [rcTo_len] at hq
  exact hq

set_option maxRecDepth 100000 in
set_option maxHeartbeats 4000000 in
theorem rd_record (d n lb lcap : Nat) (lcs : Array Value) (uw : Sl) (k : Dk) (h : DkAt k n lb lcs lcap uw) (r : Nat) (f b : Int) (base e a : Nat) (hr : rgE n f b = 0) (hd : k.dead = false) (hbs : base < 4294967296) (he : e < 4294967296) (hab : a ≤ b.toNat) :
    Ct Tryd.prog 104 [.pointer (some ⟨r, 0, none⟩)] [(some d, .cells #[.slice (some ⟨lb, 0, none⟩) n lcap, uw.v k.W.length, .int .i64 k.fuse, .bool k.dead] 110 (0, 0)), (some lb, .cells lcs 9 (0, 0)), (uw.ob, .cells uw.cs 116 uw.fz)] [(some r, .cells (rdC d f b base e a).toArray 143 (0, 0))] fun v post => (rcOk (rdB k f b.toNat) base e a ∧ v = .tuple #[.string (bs (rcS (rdB k f b.toNat) a)), .int .u32 ((pE (rdB k f b.toNat) a : Nat) : Int), .bool true] ∧ post = [(some r, .cells (rdC d f b base e (a + rcM (rdB k f b.toNat) a)).toArray 143 (0, 0))]) ∨ (¬ rcOk (rdB k f b.toNat) base e a ∧ v = .tuple #[.string (bs []), .int .u32 0, .bool false] ∧ post = [(some r, .cells (rdC d f b base e a).toArray 143 (0, 0))]) := by
 have hq := h.bd
 have hq1 := hq.n1
 have hq2 := hq.n4
 have hq3 := hq.ncs
 have hq4 := hq.ncap
 have hq5 := hq.cap
 have hq6 := hq.w
 have hq7 := hq.wc
 have hln := h.len
 have hr1 := hr
 rw [rgE_ok] at hr1
 obtain ⟨hr2, hr3, hr4⟩ := hr1
 have hrl := rdB_len k f b.toNat
 have hm21 := rcM_le (rdB k f b.toNat) a
 have hmp := rcM_pos (rdB k f b.toNat) a
 refine ct_of Tryd.func104 rfl rfl (fun w0 => ?_)
 show G _ _ [(0, _)] _ _
 refine G_seq ?_
 refine G_region (l := [0, 1, 2]) rfl ?_
 refine G_val rfl rfl rfl rfl (V_assign rfl rfl) ?_
 refine G_val rfl rfl rfl rfl (V_assign rfl rfl) ?_
 refine G_val rfl rfl rfl rfl (V_assign rfl rfl) ?_
 refine G_done ?_
 refine G_seq ?_
 refine G_region (l := [0, 1, 2, 3, 4, 5, 6, 7, 8, 9, 10, 11, 12]) rfl ?_
 refine G_val rfl rfl rfl rfl (V_move rfl rfl) ?_
 refine G_val rfl rfl rfl rfl (V_move rfl rfl) ?_
 first
   | refine G_val rfl rfl rfl rfl (V_nilCheck rfl rfl) ?_
   | refine G_val rfl rfl rfl rfl (V_nilCheckF rfl rfl) ?_
 refine G_val rfl rfl rfl rfl (V_fieldAddr (fo := 5) rfl Tryd.underlying143 rfl infLogX_3 rfl rfl rfl) ?_
 refine G_val rfl rfl rfl rfl (V_load1 rfl rfl (mem_at 3 rfl) rfl Tryd.underlying3 rfl) ?_
 refine G_call (L2 := [_]) rfl rfl rfl rfl rfl rfl Tryd.call115 (rd_block d n lb lcap lcs uw k h r f b base e a hr hd a (by omega)) [] [3, 0, 1, 2] rfl rfl ?_
 rintro v post ⟨rfl, rfl⟩
 show G _ _ _ [_] _
 refine G_val rfl rfl rfl rfl (V_move rfl rfl) ?_
 refine G_val rfl rfl rfl rfl (V_extract rfl rfl rfl) ?_
 refine G_val rfl rfl rfl rfl (V_extract rfl rfl rfl) ?_
 refine G_val rfl rfl rfl rfl (V_extract rfl rfl rfl) ?_
 refine G_val rfl rfl rfl rfl (V_assign rfl rfl) ?_
 refine G_val rfl rfl rfl rfl (V_assign rfl rfl) ?_
 refine G_val rfl rfl rfl rfl (V_assign rfl rfl) ?_
 refine G_done ?_
 refine G_seq ?_
 refine G_seq ?_
 refine G_region (l := [0, 1, 2, 3, 4, 5, 6, 7, 8, 9, 10, 11, 12, 13, 14, 15, 16, 17]) rfl ?_
 refine G_val rfl rfl rfl rfl (V_move rfl rfl) ?_
 refine G_val rfl rfl rfl rfl (V_not rfl rfl) ?_
 refine G_val rfl rfl rfl rfl (V_move rfl rfl) ?_
 refine G_split 28 rfl (fun hc1 => ?_) (fun hc1 => ?_)
 · skip
   refine G_off rfl rfl rfl rfl ?_
   refine G_off rfl rfl rfl rfl ?_
   refine G_off rfl rfl rfl rfl ?_
   refine G_off rfl rfl rfl rfl ?_
   refine G_off rfl rfl rfl rfl ?_
   refine G_off rfl rfl rfl rfl ?_
   refine G_val rfl rfl rfl rfl (V_pickT rfl rfl rfl) ?_
   refine G_val rfl rfl rfl rfl (V_move rfl rfl) ?_
   refine G_off rfl rfl rfl rfl ?_
   refine G_off rfl rfl rfl rfl ?_
   refine G_off rfl rfl rfl rfl ?_
   refine G_off rfl rfl rfl rfl ?_
   refine G_off rfl rfl rfl rfl ?_
   refine G_off rfl rfl rfl rfl ?_
   refine G_val rfl rfl rfl rfl (V_pickT rfl rfl rfl) ?_
   refine G_done ?_
   refine G_then rfl ?_
   refine G_seq ?_
   refine G_region (l := [0, 1, 2]) rfl ?_
   refine G_val rfl rfl rfl rfl (V_assign rfl rfl) ?_
   refine G_val rfl rfl rfl rfl (V_assign rfl rfl) ?_
   refine G_val rfl rfl rfl rfl (V_assign rfl rfl) ?_
   refine G_done ?_
   refine G_ret (post := [_]) Tryd.func104 rfl (RVs_cons (RV_tmp rfl) (RVs_cons (RV_tmp rfl) (RVs_cons (RV_tmp rfl) RVs_nil))) [0] rfl ?_
   dsimp only [packed]
   first
     | (suffices hz : pOk (rdB k f b.toNat) a = false by exact .inr ⟨rc_no1 hz, rfl, rfl⟩
        have hq := ‹(!pOk (rdB k f b.toNat) a) = true›
        simpa using hq)
     | (suffices hz : (pE (rdB k f b.toNat) a : Int) < (base : Int) by exact .inr ⟨rc_no2 hz, rfl, rfl⟩
        omega)
     | (suffices hz : (e : Int) < (pE (rdB k f b.toNat) a : Int) by exact .inr ⟨rc_no3 hz, rfl, rfl⟩
        omega)
     | (suffices hz : ¬ sizeFE (pD (rdB k f b.toNat) a) = 0 by exact .inr ⟨rc_no4 hz, rfl, rfl⟩
        assumption)
     | (suffices hz : i < rcM (rdB k f b.toNat) a ∧ ¬ (pOk (rdB k f b.toNat) (a + i) = true ∧ pE (rdB k f b.toNat) (a + i) = pE (rdB k f b.toNat) a) by exact .inr ⟨rc_no5 hz.1 hz.2, rfl, rfl⟩
        exact ⟨by omega, by rintro ⟨x1, x2⟩; first | omega | exact absurd ‹(!pOk (rdB k f b.toNat) (a + i)) = true› (by rw [x1]; decide)⟩)
     | (suffices hz : ¬ decE (rcTo (rdB k f b.toNat) a (rcM (rdB k f b.toNat) a)) = 0 by exact .inr ⟨rc_no6 hz, rfl, rfl⟩
        assumption)
     | exact .inl ⟨⟨hok0, by omega, by omega, hE0, hgo, by omega⟩, rfl, rfl⟩
 refine G_val rfl rfl rfl rfl (V_move rfl rfl) ?_
 refine G_val rfl rfl rfl rfl (V_move rfl rfl) ?_
 first
   | refine G_val rfl rfl rfl rfl (V_nilCheck rfl rfl) ?_
   | refine G_val rfl rfl rfl rfl (V_nilCheckF rfl rfl) ?_
 refine G_val rfl rfl rfl rfl (V_fieldAddr (fo := 3) rfl Tryd.underlying143 rfl infLogX_22 rfl rfl rfl) ?_
 refine G_val rfl rfl rfl rfl (V_load1 rfl rfl (mem_at 3 rfl) rfl Tryd.underlying22 rfl) ?_
 refine G_val rfl rfl rfl rfl (V_lss rfl rfl rfl) ?_
 refine G_val rfl rfl rfl rfl (V_pickF rfl rfl rfl) ?_
 refine G_val rfl rfl rfl rfl (V_move rfl rfl) ?_
 refine G_splitD 36 rfl (fun hc2 => ?_) (fun hc2 => ?_)
 · skip
   refine G_off rfl rfl rfl rfl ?_
   refine G_off rfl rfl rfl rfl ?_
   refine G_off rfl rfl rfl rfl ?_
   refine G_off rfl rfl rfl rfl ?_
   refine G_off rfl rfl rfl rfl ?_
   refine G_off rfl rfl rfl rfl ?_
   refine G_val rfl rfl rfl rfl (V_pickT rfl rfl rfl) ?_
   refine G_done ?_
   refine G_then rfl ?_
   refine G_seq ?_
   refine G_region (l := [0, 1, 2]) rfl ?_
   refine G_val rfl rfl rfl rfl (V_assign rfl rfl) ?_
   refine G_val rfl rfl rfl rfl (V_assign rfl rfl) ?_
   refine G_val rfl rfl rfl rfl (V_assign rfl rfl) ?_
   refine G_done ?_
   refine G_ret (post := [_]) Tryd.func104 rfl (RVs_cons (RV_tmp rfl) (RVs_cons (RV_tmp rfl) (RVs_cons (RV_tmp rfl) RVs_nil))) [0] rfl ?_
   dsimp only [packed]
   first
     | (suffices hz : pOk (rdB k f b.toNat) a = false by exact .inr ⟨rc_no1 hz, rfl, rfl⟩
        have hq := ‹(!pOk (rdB k f b.toNat) a) = true›
        simpa using hq)
     | (suffices hz : (pE (rdB k f b.toNat) a : Int) < (base : Int) by exact .inr ⟨rc_no2 hz, rfl, rfl⟩
        omega)
     | (suffices hz : (e : Int) < (pE (rdB k f b.toNat) a : Int) by exact .inr ⟨rc_no3 hz, rfl, rfl⟩
        omega)
     | (suffices hz : ¬ sizeFE (pD (rdB k f b.toNat) a) = 0 by exact .inr ⟨rc_no4 hz, rfl, rfl⟩
        assumption)
     | (suffices hz : i < rcM (rdB k f b.toNat) a ∧ ¬ (pOk (rdB k f b.toNat) (a + i) = true ∧ pE (rdB k f b.toNat) (a + i) = pE (rdB k f b.toNat) a) by exact .inr ⟨rc_no5 hz.1 hz.2, rfl, rfl⟩
        exact ⟨by omega, by rintro ⟨x1, x2⟩; first | omega | exact absurd ‹(!pOk (rdB k f b.toNat) (a + i)) = true› (by rw [x1]; decide)⟩)
     | (suffices hz : ¬ decE (rcTo (rdB k f b.toNat) a (rcM (rdB k f b.toNat) a)) = 0 by exact .inr ⟨rc_no6 hz, rfl, rfl⟩
        assumption)
     | exact .inl ⟨⟨hok0, by omega, by omega, hE0, hgo, by omega⟩, rfl, rfl⟩
 refine G_val rfl rfl rfl rfl (V_move rfl rfl) ?_
 refine G_val rfl rfl rfl rfl (V_move rfl rfl) ?_
 first
   | refine G_val rfl rfl rfl rfl (V_nilCheck rfl rfl) ?_
   | refine G_val rfl rfl rfl rfl (V_nilCheckF rfl rfl) ?_
 refine G_val rfl rfl rfl rfl (V_fieldAddr (fo := 4) rfl Tryd.underlying143 rfl infLogX_22 rfl rfl rfl) ?_
 refine G_val rfl rfl rfl rfl (V_load1 rfl rfl (mem_at 3 rfl) rfl Tryd.underlying22 rfl) ?_
 refine G_val rfl rfl rfl rfl (V_gtr rfl rfl rfl) ?_
 refine G_val rfl rfl rfl rfl (V_pickF rfl rfl rfl) ?_
 refine G_done ?_
 refine G_ifD rfl (fun hc3 => ?_) (fun hc3 => ?_)
 · skip
   refine G_seq ?_
   refine G_region (l := [0, 1, 2]) rfl ?_
   refine G_val rfl rfl rfl rfl (V_assign rfl rfl) ?_
   refine G_val rfl rfl rfl rfl (V_assign rfl rfl) ?_
   refine G_val rfl rfl rfl rfl (V_assign rfl rfl) ?_
   refine G_done ?_
   refine G_ret (post := [_]) Tryd.func104 rfl (RVs_cons (RV_tmp rfl) (RVs_cons (RV_tmp rfl) (RVs_cons (RV_tmp rfl) RVs_nil))) [0] rfl ?_
   dsimp only [packed]
   first
     | (suffices hz : pOk (rdB k f b.toNat) a = false by exact .inr ⟨rc_no1 hz, rfl, rfl⟩
        have hq := ‹(!pOk (rdB k f b.toNat) a) = true›
        simpa using hq)
     | (suffices hz : (pE (rdB k f b.toNat) a : Int) < (base : Int) by exact .inr ⟨rc_no2 hz, rfl, rfl⟩
        omega)
     | (suffices hz : (e : Int) < (pE (rdB k f b.toNat) a : Int) by exact .inr ⟨rc_no3 hz, rfl, rfl⟩
        omega)
     | (suffices hz : ¬ sizeFE (pD (rdB k f b.toNat) a) = 0 by exact .inr ⟨rc_no4 hz, rfl, rfl⟩
        assumption)
     | (suffices hz : i < rcM (rdB k f b.toNat) a ∧ ¬ (pOk (rdB k f b.toNat) (a + i) = true ∧ pE (rdB k f b.toNat) (a + i) = pE (rdB k f b.toNat) a) by exact .inr ⟨rc_no5 hz.1 hz.2, rfl, rfl⟩
        exact ⟨by omega, by rintro ⟨x1, x2⟩; first | omega | exact absurd ‹(!pOk (rdB k f b.toNat) (a + i)) = true› (by rw [x1]; decide)⟩)
     | (suffices hz : ¬ decE (rcTo (rdB k f b.toNat) a (rcM (rdB k f b.toNat) a)) = 0 by exact .inr ⟨rc_no6 hz, rfl, rfl⟩
        assumption)
     | exact .inl ⟨⟨hok0, by omega, by omega, hE0, hgo, by omega⟩, rfl, rfl⟩
 refine G_skip ?_
 refine G_seq ?_
 have hok0 : pOk (rdB k f b.toNat) a = true := by have hq := ‹(!pOk (rdB k f b.toNat) a) = false›; simpa using hq
 have hd48 := pD_len hok0
 refine G_region (l := [0, 1, 2, 3, 4, 5, 6]) rfl ?_
 refine G_val rfl rfl rfl rfl (V_move rfl rfl) ?_
 refine G_call (L2 := [_]) rfl rfl rfl rfl rfl rfl Tryd.call56 (fr_size (pD (rdB k f b.toNat) a) (by omega)) [] [] rfl rfl ?_
 rintro v post ⟨rfl, rfl⟩
 show G _ _ _ [_] _
 refine G_val rfl rfl rfl rfl (V_move rfl rfl) ?_
 refine G_val rfl rfl rfl rfl (V_extract rfl rfl rfl) ?_
 refine G_val rfl rfl rfl rfl (V_extract rfl rfl rfl) ?_
 refine G_val rfl rfl rfl rfl (V_assign rfl rfl) ?_
 refine G_val rfl rfl rfl rfl (V_assign rfl rfl) ?_
 refine G_done ?_
 refine G_seq ?_
 refine G_seq ?_
 refine G_region (l := [0, 1]) rfl ?_
 refine G_val rfl rfl rfl rfl (V_move rfl rfl) ?_
 refine G_val rfl rfl rfl rfl (V_neq rfl rfl rfl) ?_
 refine G_done ?_
 refine G_ifD rfl (fun hc4 => ?_) (fun hc4 => ?_)
 · skip
   refine G_seq ?_
   refine G_region (l := [0, 1, 2]) rfl ?_
   refine G_val rfl rfl rfl rfl (V_assign rfl rfl) ?_
   refine G_val rfl rfl rfl rfl (V_assign rfl rfl) ?_
   refine G_val rfl rfl rfl rfl (V_assign rfl rfl) ?_
   refine G_done ?_
   refine G_ret (post := [_]) Tryd.func104 rfl (RVs_cons (RV_tmp rfl) (RVs_cons (RV_tmp rfl) (RVs_cons (RV_tmp rfl) RVs_nil))) [0] rfl ?_
   dsimp only [packed]
   first
     | (suffices hz : pOk (rdB k f b.toNat) a = false by exact .inr ⟨rc_no1 hz, rfl, rfl⟩
        have hq := ‹(!pOk (rdB k f b.toNat) a) = true›
        simpa using hq)
     | (suffices hz : (pE (rdB k f b.toNat) a : Int) < (base : Int) by exact .inr ⟨rc_no2 hz, rfl, rfl⟩
        omega)
     | (suffices hz : (e : Int) < (pE (rdB k f b.toNat) a : Int) by exact .inr ⟨rc_no3 hz, rfl, rfl⟩
        omega)
     | (suffices hz : ¬ sizeFE (pD (rdB k f b.toNat) a) = 0 by exact .inr ⟨rc_no4 hz, rfl, rfl⟩
        assumption)
     | (suffices hz : i < rcM (rdB k f b.toNat) a ∧ ¬ (pOk (rdB k f b.toNat) (a + i) = true ∧ pE (rdB k f b.toNat) (a + i) = pE (rdB k f b.toNat) a) by exact .inr ⟨rc_no5 hz.1 hz.2, rfl, rfl⟩
        exact ⟨by omega, by rintro ⟨x1, x2⟩; first | omega | exact absurd ‹(!pOk (rdB k f b.toNat) (a + i)) = true› (by rw [x1]; decide)⟩)
     | (suffices hz : ¬ decE (rcTo (rdB k f b.toNat) a (rcM (rdB k f b.toNat) a)) = 0 by exact .inr ⟨rc_no6 hz, rfl, rfl⟩
        assumption)
     | exact .inl ⟨⟨hok0, by omega, by omega, hE0, hgo, by omega⟩, rfl, rfl⟩
 refine G_skip ?_
 refine G_seq ?_
 have hE0 : sizeFE (pD (rdB k f b.toNat) a) = 0 := by omega
 refine G_region (l := [0, 1, 2]) rfl ?_
 refine G_val rfl rfl rfl rfl (V_move rfl rfl) ?_
 refine G_new rfl rfl rfl rfl (N_buildAll (s := 1) (cs := [_]) rfl Tryd.underlying24 infLogX_9 rfl rfl rfl rfl rfl rfl rfl rfl rfl) (fun b52 => ?_)
 refine G_val rfl rfl rfl rfl (V_assign rfl rfl) ?_
 refine G_done ?_
 refine G_seq ?_
 refine G_block ?_
 refine G_sub ?he8 [1, 0] ?hl8 (G_loop (X := Nat × Sl) (fun x => match x with | ⟨i, u⟩ => 1 ≤ i ∧ i ≤ rcM (rdB k f b.toNat) a ∧ Own 1 u ((rcTo (rdB k f b.toNat) a i).map strC) i ∧ rcGo (rdB k f b.toNat) a i) (fun x => match x with | ⟨i, u⟩ => rcM (rdB k f b.toNat) a - i) (fun x => match x with | ⟨i, u⟩ => [(0, .pointer (some ⟨r, 0, none⟩)), (5, .int .u32 ((pE (rdB k f b.toNat) a : Nat) : Int)), (6, .string (bs (pD (rdB k f b.toNat) a))), (8, .int .i64 (sizeF (pD (rdB k f b.toNat) a) : Int)), (10, u.v i)]) (fun x => match x with | ⟨i, u⟩ => [(some r, .cells (rdC d f b base e a).toArray 143 (0, 0)), (u.ob, .cells u.cs 9 u.fz)]) ?round8 (1, ⟨some b52, #[.string (bs (pD (rdB k f b.toNat) a))], (0, 0), 1⟩) ?h08)
 case he8 => exact (And.intro rfl (And.intro rfl (And.intro rfl (And.intro rfl (And.intro rfl trivial)))))
 case hl8 => exact ⟨_, rfl⟩
 case h08 => exact ⟨by omega, by omega, by rw [rcTo_one]; exact one_own, rcGo_one _ _ hok0⟩
 case round8 =>
  intro x hJ ih
  try dsimp only at hJ ih
  obtain ⟨i, u⟩ := x
  try dsimp only at hJ ih
  obtain ⟨hi1, hi, hu, hgo⟩ := hJ
  show G _ _ [(0, .pointer (some ⟨r, 0, none⟩)), (5, .int .u32 ((pE (rdB k f b.toNat) a : Nat) : Int)), (6, .string (bs (pD (rdB k f b.toNat) a))), (8, .int .i64 (sizeF (pD (rdB k f b.toNat) a) : Int)), (10, u.v i)] [(some r, .cells (rdC d f b base e a).toArray 143 (0, 0)), (u.ob, .cells u.cs 9 u.fz)] _
  refine G_seq ?_
  refine G_seq ?_
  refine G_region (l := [0, 1, 2, 3, 4]) rfl ?_
  refine G_val rfl rfl rfl rfl (V_move rfl rfl) ?_
  refine G_val rfl rfl rfl rfl (V_len rfl rfl Tryd.underlying24 rfl) ?_
  refine G_val rfl rfl rfl rfl (V_move rfl rfl) ?_
  refine G_call (L2 := [_, _]) rfl rfl rfl rfl rfl rfl Tryd.call55 (fr_many (sizeF (pD (rdB k f b.toNat) a)) (by have := sizeF_le (pD (rdB k f b.toNat) a); omega)) [] [] rfl rfl ?_
  rintro v post ⟨rfl, rfl⟩
  show G _ _ _ [_, _] _
  rw [show manyN (sizeF (pD (rdB k f b.toNat) a)) = rcM (rdB k f b.toNat) a from (by unfold rcM; rfl)]
  refine G_val rfl rfl rfl rfl (V_lss rfl rfl rfl) ?_
  refine G_done ?_
  refine G_ifD rfl (fun hc5 => ?_) (fun hc5 => ?_)
  · skip
    refine G_skip ?_
    refine G_block ?_
    refine G_seq ?_
    refine G_region (l := [0, 1, 2, 3, 4, 5, 6, 7, 8, 9, 10, 11, 12, 13, 14, 15]) rfl ?_
    refine G_val rfl rfl rfl rfl (V_move rfl rfl) ?_
    refine G_val rfl rfl rfl rfl (V_move rfl rfl) ?_
    first
      | refine G_val rfl rfl rfl rfl (V_nilCheck rfl rfl) ?_
      | refine G_val rfl rfl rfl rfl (V_nilCheckF rfl rfl) ?_
    refine G_val rfl rfl rfl rfl (V_fieldAddr (fo := 5) rfl Tryd.underlying143 rfl infLogX_3 rfl rfl rfl) ?_
    refine G_val rfl rfl rfl rfl (V_load1 rfl rfl (mem_at 3 rfl) rfl Tryd.underlying3 rfl) ?_
    refine G_val rfl rfl rfl rfl (V_move rfl rfl) ?_
    refine G_val rfl rfl rfl rfl (V_len rfl rfl Tryd.underlying24 rfl) ?_
    refine G_val rfl rfl rfl rfl (Val.int (e' := ((a + i : Nat) : Int)) (V_add rfl rfl rfl) (by rw [wrap_i64 (by omega)]; omega)) ?_
    refine G_call (L2 := [_, _]) rfl rfl rfl rfl rfl rfl Tryd.call115 (rd_block d n lb lcap lcs uw k h r f b base e a hr hd (a + i) (by omega)) [] [3, 0, 1, 2] rfl rfl ?_
    rintro v post ⟨rfl, rfl⟩
    show G _ _ _ [_, _] _
    refine G_val rfl rfl rfl rfl (V_move rfl rfl) ?_
    refine G_val rfl rfl rfl rfl (V_extract rfl rfl rfl) ?_
    refine G_val rfl rfl rfl rfl (V_extract rfl rfl rfl) ?_
    refine G_val rfl rfl rfl rfl (V_extract rfl rfl rfl) ?_
    refine G_val rfl rfl rfl rfl (V_assign rfl rfl) ?_
    refine G_val rfl rfl rfl rfl (V_assign rfl rfl) ?_
    refine G_val rfl rfl rfl rfl (V_assign rfl rfl) ?_
    refine G_done ?_
    refine G_seq ?_
    refine G_seq ?_
    refine G_region (l := [0, 1, 2, 3, 4, 5, 6]) rfl ?_
    refine G_val rfl rfl rfl rfl (V_move rfl rfl) ?_
    refine G_val rfl rfl rfl rfl (V_not rfl rfl) ?_
    refine G_val rfl rfl rfl rfl (V_move rfl rfl) ?_
    refine G_split 73 rfl (fun hc6 => ?_) (fun hc6 => ?_)
    · skip
      refine G_off rfl rfl rfl rfl ?_
      refine G_off rfl rfl rfl rfl ?_
      refine G_off rfl rfl rfl rfl ?_
      refine G_val rfl rfl rfl rfl (V_pickT rfl rfl rfl) ?_
      refine G_done ?_
      refine G_then rfl ?_
      refine G_seq ?_
      refine G_region (l := [0, 1, 2]) rfl ?_
      refine G_val rfl rfl rfl rfl (V_assign rfl rfl) ?_
      refine G_val rfl rfl rfl rfl (V_assign rfl rfl) ?_
      refine G_val rfl rfl rfl rfl (V_assign rfl rfl) ?_
      refine G_done ?_
      refine G_ret (post := [_]) Tryd.func104 rfl (RVs_cons (RV_tmp rfl) (RVs_cons (RV_tmp rfl) (RVs_cons (RV_tmp rfl) RVs_nil))) [0] rfl ?_
      dsimp only [packed]
      first
        | (suffices hz : pOk (rdB k f b.toNat) a = false by exact .inr ⟨rc_no1 hz, rfl, rfl⟩
           have hq := ‹(!pOk (rdB k f b.toNat) a) = true›
           simpa using hq)
        | (suffices hz : (pE (rdB k f b.toNat) a : Int) < (base : Int) by exact .inr ⟨rc_no2 hz, rfl, rfl⟩
           omega)
        | (suffices hz : (e : Int) < (pE (rdB k f b.toNat) a : Int) by exact .inr ⟨rc_no3 hz, rfl, rfl⟩
           omega)
        | (suffices hz : ¬ sizeFE (pD (rdB k f b.toNat) a) = 0 by exact .inr ⟨rc_no4 hz, rfl, rfl⟩
           assumption)
        | (suffices hz : i < rcM (rdB k f b.toNat) a ∧ ¬ (pOk (rdB k f b.toNat) (a + i) = true ∧ pE (rdB k f b.toNat) (a + i) = pE (rdB k f b.toNat) a) by exact .inr ⟨rc_no5 hz.1 hz.2, rfl, rfl⟩
           exact ⟨by omega, by rintro ⟨x1, x2⟩; first | omega | exact absurd ‹(!pOk (rdB k f b.toNat) (a + i)) = true› (by rw [x1]; decide)⟩)
        | (suffices hz : ¬ decE (rcTo (rdB k f b.toNat) a (rcM (rdB k f b.toNat) a)) = 0 by exact .inr ⟨rc_no6 hz, rfl, rfl⟩
           assumption)
        | exact .inl ⟨⟨hok0, by omega, by omega, hE0, hgo, by omega⟩, rfl, rfl⟩
    refine G_val rfl rfl rfl rfl (V_move rfl rfl) ?_
    refine G_val rfl rfl rfl rfl (V_move rfl rfl) ?_
    refine G_val rfl rfl rfl rfl (V_neq rfl rfl rfl) ?_
    refine G_val rfl rfl rfl rfl (V_pickF rfl rfl rfl) ?_
    refine G_done ?_
    refine G_ifD rfl (fun hc7 => ?_) (fun hc7 => ?_)
    · skip
      refine G_seq ?_
      refine G_region (l := [0, 1, 2]) rfl ?_
      refine G_val rfl rfl rfl rfl (V_assign rfl rfl) ?_
      refine G_val rfl rfl rfl rfl (V_assign rfl rfl) ?_
      refine G_val rfl rfl rfl rfl (V_assign rfl rfl) ?_
      refine G_done ?_
      refine G_ret (post := [_]) Tryd.func104 rfl (RVs_cons (RV_tmp rfl) (RVs_cons (RV_tmp rfl) (RVs_cons (RV_tmp rfl) RVs_nil))) [0] rfl ?_
      dsimp only [packed]
      first
        | (suffices hz : pOk (rdB k f b.toNat) a = false by exact .inr ⟨rc_no1 hz, rfl, rfl⟩
           have hq := ‹(!pOk (rdB k f b.toNat) a) = true›
           simpa using hq)
        | (suffices hz : (pE (rdB k f b.toNat) a : Int) < (base : Int) by exact .inr ⟨rc_no2 hz, rfl, rfl⟩
           omega)
        | (suffices hz : (e : Int) < (pE (rdB k f b.toNat) a : Int) by exact .inr ⟨rc_no3 hz, rfl, rfl⟩
           omega)
        | (suffices hz : ¬ sizeFE (pD (rdB k f b.toNat) a) = 0 by exact .inr ⟨rc_no4 hz, rfl, rfl⟩
           assumption)
        | (suffices hz : i < rcM (rdB k f b.toNat) a ∧ ¬ (pOk (rdB k f b.toNat) (a + i) = true ∧ pE (rdB k f b.toNat) (a + i) = pE (rdB k f b.toNat) a) by exact .inr ⟨rc_no5 hz.1 hz.2, rfl, rfl⟩
           exact ⟨by omega, by rintro ⟨x1, x2⟩; first | omega | exact absurd ‹(!pOk (rdB k f b.toNat) (a + i)) = true› (by rw [x1]; decide)⟩)
        | (suffices hz : ¬ decE (rcTo (rdB k f b.toNat) a (rcM (rdB k f b.toNat) a)) = 0 by exact .inr ⟨rc_no6 hz, rfl, rfl⟩
           assumption)
        | exact .inl ⟨⟨hok0, by omega, by omega, hE0, hgo, by omega⟩, rfl, rfl⟩
    refine G_skip ?_
    refine G_region (l := [0, 1, 2, 3, 4]) rfl ?_
    refine G_val rfl rfl rfl rfl (V_move rfl rfl) ?_
    refine G_val rfl rfl rfl rfl (V_move rfl rfl) ?_
    refine G_new rfl rfl rfl rfl (N_buildAll (s := 1) (cs := [_]) rfl Tryd.underlying24 infLogX_9 rfl rfl rfl rfl rfl rfl rfl rfl rfl) (fun b80 => ?_)
    refine G_append (l1 := [_, _]) (s := u) (nn := i) (m := 1) (news := [strC (pD (rdB k f b.toNat) (a + i))]) (bt := 16) rfl rfl rfl rfl Tryd.underlying24 Tryd.underlying24 (by first | exact .inl rfl | exact .inr ⟨_, rfl⟩) infLogX_9 rfl rfl rfl rfl rfl rfl hu rfl (src_mem (mem_at 3 rfl) rfl rfl (by simp [strC, Value.oneCell'])) (by omega) (by omega) ?_
    intro u1 hu1 _
    show G _ _ _ [_, _, _] _
    refine G_val rfl rfl rfl rfl (V_assign rfl rfl) ?_
    refine G_done ?_
    refine G_inBlock ?_
    refine G_sub ?_ [1, 1] ?_ (ih (i + 1, u1) ?_ ?_)
    · (refine (And.intro ?_ (And.intro ?_ (And.intro ?_ (And.intro ?_ (And.intro ?_ trivial))))) <;> first | rfl | exact slot_int (by omega) | exact slot_int (by simp))
    · exact ⟨_, rfl⟩
    · exact ⟨by omega, by omega, by rw [← rcTo_nextS]; exact hu1, rcGo_next hgo (by have hq := ‹(!pOk (rdB k f b.toNat) (a + i)) = false›; simpa using hq) (by omega)⟩
    · (first | omega | (dsimp only; omega))
  refine G_exit rfl ?_
  refine G_seq ?_
  obtain rfl : i = rcM (rdB k f b.toNat) a := by omega
  have hdl := rcTo_48 hgo
  refine G_region (l := [0, 1, 2, 3, 4, 5, 6, 7, 8]) rfl ?_
  refine G_val rfl rfl rfl rfl (V_move rfl rfl) ?_
  refine G_call (L2 := [_, _]) rfl rfl rfl rfl rfl rfl Tryd.call14 (dec_to u (rdB k f b.toNat) a _ hu hdl) [] [4] rfl rfl ?_
  rintro v post ⟨rfl, rfl⟩
  show G _ _ _ [_, _] _
  refine G_val rfl rfl rfl rfl (V_move rfl rfl) ?_
  refine G_val rfl rfl rfl rfl (V_extract rfl rfl rfl) ?_
  refine G_val rfl rfl rfl rfl (V_extract rfl rfl rfl) ?_
  refine G_val rfl rfl rfl rfl (V_extract rfl rfl rfl) ?_
  refine G_val rfl rfl rfl rfl (V_assign rfl rfl) ?_
  refine G_val rfl rfl rfl rfl (V_assign rfl rfl) ?_
  refine G_val rfl rfl rfl rfl (V_assign rfl rfl) ?_
  refine G_done ?_
  refine G_seq ?_
  refine G_seq ?_
  refine G_region (l := [0, 1]) rfl ?_
  refine G_val rfl rfl rfl rfl (V_move rfl rfl) ?_
  refine G_val rfl rfl rfl rfl (V_neq rfl rfl rfl) ?_
  refine G_done ?_
  refine G_ifD rfl (fun hc6 => ?_) (fun hc6 => ?_)
  · skip
    refine G_seq ?_
    refine G_region (l := [0, 1, 2]) rfl ?_
    refine G_val rfl rfl rfl rfl (V_assign rfl rfl) ?_
    refine G_val rfl rfl rfl rfl (V_assign rfl rfl) ?_
    refine G_val rfl rfl rfl rfl (V_assign rfl rfl) ?_
    refine G_done ?_
    refine G_ret (post := [_]) Tryd.func104 rfl (RVs_cons (RV_tmp rfl) (RVs_cons (RV_tmp rfl) (RVs_cons (RV_tmp rfl) RVs_nil))) [0] rfl ?_
    dsimp only [packed]
    first
      | (suffices hz : pOk (rdB k f b.toNat) a = false by exact .inr ⟨rc_no1 hz, rfl, rfl⟩
         have hq := ‹(!pOk (rdB k f b.toNat) a) = true›
         simpa using hq)
      | (suffices hz : (pE (rdB k f b.toNat) a : Int) < (base : Int) by exact .inr ⟨rc_no2 hz, rfl, rfl⟩
         omega)
      | (suffices hz : (e : Int) < (pE (rdB k f b.toNat) a : Int) by exact .inr ⟨rc_no3 hz, rfl, rfl⟩
         omega)
      | (suffices hz : ¬ sizeFE (pD (rdB k f b.toNat) a) = 0 by exact .inr ⟨rc_no4 hz, rfl, rfl⟩
         assumption)
      | (suffices hz : i < rcM (rdB k f b.toNat) a ∧ ¬ (pOk (rdB k f b.toNat) (a + i) = true ∧ pE (rdB k f b.toNat) (a + i) = pE (rdB k f b.toNat) a) by exact .inr ⟨rc_no5 hz.1 hz.2, rfl, rfl⟩
         exact ⟨by omega, by rintro ⟨x1, x2⟩; first | omega | exact absurd ‹(!pOk (rdB k f b.toNat) (a + i)) = true› (by rw [x1]; decide)⟩)
      | (suffices hz : ¬ decE (rcTo (rdB k f b.toNat) a (rcM (rdB k f b.toNat) a)) = 0 by exact .inr ⟨rc_no6 hz, rfl, rfl⟩
         assumption)
      | exact .inl ⟨⟨hok0, by omega, by omega, hE0, hgo, by omega⟩, rfl, rfl⟩
  refine G_skip ?_
  refine G_seq ?_
  have hde : decE (rcTo (rdB k f b.toNat) a (rcM (rdB k f b.toNat) a)) = 0 := by omega
  rw [rc_decM hde]
  refine G_region (l := [0, 1, 2, 3, 4, 5, 6, 7, 8]) rfl ?_
  refine G_val rfl rfl rfl rfl (V_move rfl rfl) ?_
  first
    | refine G_val rfl rfl rfl rfl (V_nilCheck rfl rfl) ?_
    | refine G_val rfl rfl rfl rfl (V_nilCheckF rfl rfl) ?_
  refine G_val rfl rfl rfl rfl (V_fieldAddr (fo := 5) rfl Tryd.underlying143 rfl infLogX_3 rfl rfl rfl) ?_
  refine G_val rfl rfl rfl rfl (V_load1 rfl rfl (mem_at 3 rfl) rfl Tryd.underlying3 rfl) ?_
  refine G_val rfl rfl rfl rfl (V_move rfl rfl) ?_
  refine G_val rfl rfl rfl rfl (Val.int (e' := ((a + rcM (rdB k f b.toNat) a : Nat) : Int)) (V_add rfl rfl rfl) (by rw [wrap_i64 (by omega)]; omega)) ?_
  first
    | refine G_val rfl rfl rfl rfl (V_nilCheck rfl rfl) ?_
    | refine G_val rfl rfl rfl rfl (V_nilCheckF rfl rfl) ?_
  refine G_val rfl rfl rfl rfl (V_fieldAddr (fo := 5) rfl Tryd.underlying143 rfl infLogX_3 rfl rfl rfl) ?_
  refine G_put (l1 := []) (L' := [_, _]) rfl rfl rfl rfl (P_store1 rfl rfl rfl (mem_at 0 rfl) (by first | exact of_decide_eq_true rfl | omega | (simp [wCells, kCells, rgC, lgC, rdC]; done) | (simp [wCells, kCells, rgC, lgC, rdC]; omega) | (simp [wCells, kCells, rgC, lgC, rdC] at *; omega)) infLogX_3 rfl rfl) rfl ?_
  refine G_done ?_
  refine G_seq ?_
  refine G_region (l := [0, 1, 2, 3, 4]) rfl ?_
  refine G_val rfl rfl rfl rfl (V_move rfl rfl) ?_
  refine G_val rfl rfl rfl rfl (V_move rfl rfl) ?_
  refine G_val rfl rfl rfl rfl (V_assign rfl rfl) ?_
  refine G_val rfl rfl rfl rfl (V_assign rfl rfl) ?_
  refine G_val rfl rfl rfl rfl (V_assign rfl rfl) ?_
  refine G_done ?_
  refine G_ret (post := [_]) Tryd.func104 rfl (RVs_cons (RV_tmp rfl) (RVs_cons (RV_tmp rfl) (RVs_cons (RV_tmp rfl) RVs_nil))) [0] rfl ?_
  dsimp only [packed]
  first
    | (suffices hz : pOk (rdB k f b.toNat) a = false by exact .inr ⟨rc_no1 hz, rfl, rfl⟩
       have hq := ‹(!pOk (rdB k f b.toNat) a) = true›
       simpa using hq)
    | (suffices hz : (pE (rdB k f b.toNat) a : Int) < (base : Int) by exact .inr ⟨rc_no2 hz, rfl, rfl⟩
       omega)
    | (suffices hz : (e : Int) < (pE (rdB k f b.toNat) a : Int) by exact .inr ⟨rc_no3 hz, rfl, rfl⟩
       omega)
    | (suffices hz : ¬ sizeFE (pD (rdB k f b.toNat) a) = 0 by exact .inr ⟨rc_no4 hz, rfl, rfl⟩
       assumption)
    | (suffices hz : i < rcM (rdB k f b.toNat) a ∧ ¬ (pOk (rdB k f b.toNat) (a + i) = true ∧ pE (rdB k f b.toNat) (a + i) = pE (rdB k f b.toNat) a) by exact .inr ⟨rc_no5 hz.1 hz.2, rfl, rfl⟩
       exact ⟨by omega, by rintro ⟨x1, x2⟩; first | omega | exact absurd ‹(!pOk (rdB k f b.toNat) (a + i)) = true› (by rw [x1]; decide)⟩)
    | (suffices hz : ¬ decE (rcTo (rdB k f b.toNat) a (rcM (rdB k f b.toNat) a)) = 0 by exact .inr ⟨rc_no6 hz, rfl, rfl⟩
       assumption)
    | exact .inl ⟨⟨hok0, by omega, by omega, hE0, hgo, by omega⟩, rfl, rfl⟩

end
end Go.Proofs.YtbblkgdejgoncaaDoor

/- The walks of layer 26, on: the records of a log, one behind the other. -/
set_option linter.unusedSimpArgs false
set_option linter.unusedVariables false
namespace Go.Proofs.YtbblkgdejgoncaaDoor
open Go Go.RowKit

section
theorem infLogY_3 : Tryd.prog.info? 3 = some Tryd.t3 := by kernel_rfl
theorem infLogY_9 : Tryd.prog.info? 9 = some Tryd.t9 := by kernel_rfl
theorem infLogY_22 : Tryd.prog.info? 22 = some Tryd.t22 := by kernel_rfl
theorem infLogY_24 : Tryd.prog.info? 24 = some Tryd.t24 := by kernel_rfl
theorem infLogY_29 : Tryd.prog.info? 29 = some Tryd.t29 := by kernel_rfl
theorem infLogY_134 : Tryd.prog.info? 134 = some Tryd.t134 := by kernel_rfl
theorem infLogY_143 : Tryd.prog.info? 143 = some Tryd.t143 := by kernel_rfl
theorem plcLogY_134 : placesOf Tryd.prog (Tryd.prog.fieldsOf 134) = some [(0, 1), (1, 1), (2, 1)] := by kernel_rfl
theorem plcLogY_143 : placesOf Tryd.prog (Tryd.prog.fieldsOf 143) = some [(0, 3), (3, 1), (4, 1), (5, 1), (6, 1)] := by kernel_rfl


theorem rdC_base (d : Nat) (f b : Int) (base e a base1 : Nat) : (rdC d f b base e a).toArray.setIfInBounds 3 (.int .u32 (base1 : Int)) = (rdC d f b base1 e a).toArray := rfl
attribute [local irreducible] rp rpN rcS rcM pE pD pOk rcTo rdB

set_option maxRecDepth 100000 in
set_option maxHeartbeats 4000000 in
theorem rd_all1 (d n lb lcap : Nat) (lcs : Array Value) (uw : Sl) (k : Dk) (h : DkAt k n lb lcs lcap uw) (r : Nat) (f b : Int) (base e : Nat) (hr : rgE n f b = 0) (hd : k.dead = false) (hbs : base < 4294967296) (he : e < 4294967296) (b1 bo l : Nat) (rec : Loop) (hps : rec.params.size = 1) (hrd : ∀ (out : List (List UInt8)) (u : Sl) (s : List UInt8), Own 1 u (out.map strC) out.length → out.length ≤ 5000 → Rd Tryd.prog l rec.fn ((rec.params.zip [Value.string (bs s)].toArray).foldl (fun tmps (t, a) => tmps.setIfInBounds t a) rec.tmps) rec.assign rec.body [] [(some l, .loop rec), (some bo, .cells #[u.v out.length] 24 (0, 0)), (u.ob, .cells u.cs 9 u.fz)] (fun v post => v = .bool true ∧ ∃ u1, Own 1 u1 ((out ++ [s]).map strC) (out.length + 1) ∧ post = [(some l, .loop rec), (some bo, .cells #[u1.v (out.length + 1)] 24 (0, 0)), (u1.ob, .cells u1.cs 9 u1.fz)])) :
    Ct Tryd.prog 103 [.func (.yield l) #[] #[], .pointer (some ⟨b1, 0, none⟩)] [(some b1, .cells #[.pointer (some ⟨r, 0, none⟩)] 141 (0, 0)), (some d, .cells #[.slice (some ⟨lb, 0, none⟩) n lcap, uw.v k.W.length, .int .i64 k.fuse, .bool k.dead] 110 (0, 0)), (some lb, .cells lcs 9 (0, 0)), (uw.ob, .cells uw.cs 116 uw.fz)] [(some l, .loop rec), (some r, .cells (rdC d f b base e 0).toArray 143 (0, 0)), (some bo, .cells #[slNil.v 0] 24 (0, 0)), (slNil.ob, .cells slNil.cs 9 slNil.fz)] fun v post => ∃ u1 base1, Own 1 u1 ((rp (rdB k f b.toNat) e base 0).1.map strC) (rp (rdB k f b.toNat) e base 0).1.length ∧ v = .tuple #[] ∧ post = [(some l, .loop rec), (some r, .cells (rdC d f b base1 e (rp (rdB k f b.toNat) e base 0).2).toArray 143 (0, 0)), (some bo, .cells #[u1.v (rp (rdB k f b.toNat) e base 0).1.length] 24 (0, 0)), (u1.ob, .cells u1.cs 9 u1.fz)] := by
 have hq := h.bd
 have hq1 := hq.n1
 have hq2 := hq.n4
 have hq3 := hq.ncs
 have hq4 := hq.ncap
 have hq5 := hq.cap
 have hq6 := hq.w
 have hq7 := hq.wc
 have hln := h.len
 have hr1 := hr
 rw [rgE_ok] at hr1
 obtain ⟨hr2, hr3, hr4⟩ := hr1
 have hrl := rdB_len k f b.toNat
 refine ct_of Tryd.func103 rfl rfl (fun w0 => ?_)
 show G _ _ [(0, _), (1, _)] _ _
 refine G_block ?_
 refine G_sub ?he0 [0, 0, 0, 0] ?hl0 (G_loop (X := Nat × Nat × List (List UInt8) × Sl) (fun x => match x with | ⟨ba, aa, out, u⟩ => RpCome (rdB k f b.toNat) e base out ba aa ∧ Own 1 u (out.map strC) out.length) (fun x => match x with | ⟨ba, aa, out, u⟩ => b.toNat - aa) (fun x => match x with | ⟨ba, aa, out, u⟩ => [(0, .func (.yield l) #[] #[]), (1, .pointer (some ⟨b1, 0, none⟩))]) (fun x => match x with | ⟨ba, aa, out, u⟩ => [(some l, .loop rec), (some r, .cells (rdC d f b ba e aa).toArray 143 (0, 0)), (some bo, .cells #[u.v out.length] 24 (0, 0)), (u.ob, .cells u.cs 9 u.fz)]) ?round0 (base, 0, [], slNil) ?h00)
 case he0 => exact (And.intro rfl (And.intro rfl trivial))
 case hl0 => exact ⟨_, rfl⟩
 case h00 => exact ⟨.start, own_nil 1⟩
 case round0 =>
  intro x hJ ih
  try dsimp only at hJ ih
  obtain ⟨ba, aa, out, u⟩ := x
  try dsimp only at hJ ih
  obtain ⟨hc, hu⟩ := hJ
  show G _ _ [(0, .func (.yield l) #[] #[]), (1, .pointer (some ⟨b1, 0, none⟩))] [(some l, .loop rec), (some r, .cells (rdC d f b ba e aa).toArray 143 (0, 0)), (some bo, .cells #[u.v out.length] 24 (0, 0)), (u.ob, .cells u.cs 9 u.fz)] _
  refine G_block ?_
  refine G_seq ?_
  have hcl := hc.le
  by_cases hrc : rcOk (rdB k f b.toNat) ba e aa
  · skip
    refine G_region (l := [0, 1, 2, 3, 4, 5, 6, 7, 8]) rfl ?_
    refine G_val rfl rfl rfl rfl (V_load1 rfl rfl (mem_at 0 rfl) rfl Tryd.underlying141 rfl) ?_
    refine G_call (L2 := [_, _, _]) rfl rfl rfl rfl rfl rfl Tryd.call104 ((rd_record d n lb lcap lcs uw k h r f b ba e aa hr hd (by omega) he (by omega)).weaken (fun v post h => h.elim (fun x => x.2) (fun x => absurd hrc x.1))) [1] [1, 2, 3] rfl rfl ?_
    rintro v post ⟨rfl, rfl⟩
    show G _ _ _ [_, _, _, _] _
    refine G_val rfl rfl rfl rfl (V_move rfl rfl) ?_
    refine G_val rfl rfl rfl rfl (V_extract rfl rfl rfl) ?_
    refine G_val rfl rfl rfl rfl (V_extract rfl rfl rfl) ?_
    refine G_val rfl rfl rfl rfl (V_extract rfl rfl rfl) ?_
    refine G_val rfl rfl rfl rfl (V_assign rfl rfl) ?_
    refine G_val rfl rfl rfl rfl (V_assign rfl rfl) ?_
    refine G_val rfl rfl rfl rfl (V_assign rfl rfl) ?_
    refine G_done ?_
    refine G_seq ?_
    refine G_seq ?_
    refine G_region (l := [0, 1, 2, 3, 4, 5, 6, 7]) rfl ?_
    refine G_val rfl rfl rfl rfl (V_move rfl rfl) ?_
    refine G_val rfl rfl rfl rfl (V_not rfl rfl) ?_
    refine G_val rfl rfl rfl rfl (V_move rfl rfl) ?_
    refine G_val rfl rfl rfl rfl (V_move rfl rfl) ?_
    refine G_val rfl rfl rfl rfl (V_move rfl rfl) ?_
    refine G_yield (l := l) (r := rec) (args := [.string (bs (rcS (rdB k f b.toNat) aa))]) (L2 := [_]) rfl rfl rfl rfl rfl rfl rfl (mem_at 5 rfl) (by simpa using hps.symm) (hrd out u (rcS (rdB k f b.toNat) aa) hu (by omega)) [1, 1, 1] [] rfl rfl ?_
    rintro v post ⟨rfl, u1, hu1, rfl⟩
    show G _ _ _ [_, _, _, _] _
    refine G_val rfl rfl rfl rfl (V_not rfl rfl) ?_
    refine G_val rfl rfl rfl rfl (V_pickF rfl rfl rfl) ?_
    refine G_done ?_
    refine G_else rfl ?_
    refine G_skip ?_
    refine G_region (l := [0, 1, 2, 3, 4]) rfl ?_
    refine G_val rfl rfl rfl rfl (V_load1 rfl rfl (mem_at 0 rfl) rfl Tryd.underlying141 rfl) ?_
    refine G_val rfl rfl rfl rfl (V_move rfl rfl) ?_
    first
      | refine G_val rfl rfl rfl rfl (V_nilCheck rfl rfl) ?_
      | refine G_val rfl rfl rfl rfl (V_nilCheckF rfl rfl) ?_
    refine G_val rfl rfl rfl rfl (V_fieldAddr (fo := 3) rfl Tryd.underlying143 rfl infLogY_22 rfl rfl rfl) ?_
    refine G_put (l1 := [_, _, _]) (L' := [_, _, _, _]) rfl rfl rfl rfl (P_store1 rfl rfl rfl (mem_at 3 rfl) (by first | exact of_decide_eq_true rfl | omega | (simp [wCells, kCells, rgC, lgC, rdC]; done) | (simp [wCells, kCells, rgC, lgC, rdC]; omega) | (simp [wCells, kCells, rgC, lgC, rdC] at *; omega)) infLogY_22 rfl rfl) rfl ?_
    rw [rdC_base]
    refine G_done ?_
    refine G_inBlock ?_
    refine G_sub ?_ [0, 2, 0, 0] ?_ (ih (pE (rdB k f b.toNat) aa, aa + rcM (rdB k f b.toNat) aa, out ++ [rcS (rdB k f b.toNat) aa], u1) ?_ ?_)
    · (refine (And.intro ?_ (And.intro ?_ trivial)) <;> first | rfl | exact slot_int (by omega) | exact slot_int (by simp))
    · (dsimp only; rw [List.length_append]; exact ⟨_, rfl⟩)
    · exact ⟨.next hc hrc, by rw [List.length_append]; exact hu1⟩
    · (dsimp only; have := rc_le hrc; have := rcM_pos (rdB k f b.toNat) aa; omega)
  · skip
    refine G_region (l := [0, 1, 2, 3, 4, 5, 6, 7, 8]) rfl ?_
    refine G_val rfl rfl rfl rfl (V_load1 rfl rfl (mem_at 0 rfl) rfl Tryd.underlying141 rfl) ?_
    refine G_call (L2 := [_, _, _]) rfl rfl rfl rfl rfl rfl Tryd.call104 ((rd_record d n lb lcap lcs uw k h r f b ba e aa hr hd (by omega) he (by omega)).weaken (fun v post h => h.elim (fun x => absurd x.1 hrc) (fun x => x.2))) [1] [1, 2, 3] rfl rfl ?_
    rintro v post ⟨rfl, rfl⟩
    show G _ _ _ [_, _, _, _] _
    refine G_val rfl rfl rfl rfl (V_move rfl rfl) ?_
    refine G_val rfl rfl rfl rfl (V_extract rfl rfl rfl) ?_
    refine G_val rfl rfl rfl rfl (V_extract rfl rfl rfl) ?_
    refine G_val rfl rfl rfl rfl (V_extract rfl rfl rfl) ?_
    refine G_val rfl rfl rfl rfl (V_assign rfl rfl) ?_
    refine G_val rfl rfl rfl rfl (V_assign rfl rfl) ?_
    refine G_val rfl rfl rfl rfl (V_assign rfl rfl) ?_
    refine G_done ?_
    refine G_seq ?_
    refine G_seq ?_
    refine G_region (l := [0, 1, 2, 3, 4, 5, 6, 7]) rfl ?_
    refine G_val rfl rfl rfl rfl (V_move rfl rfl) ?_
    refine G_val rfl rfl rfl rfl (V_not rfl rfl) ?_
    refine G_val rfl rfl rfl rfl (V_move rfl rfl) ?_
    refine G_off rfl rfl rfl rfl ?_
    refine G_off rfl rfl rfl rfl ?_
    refine G_off rfl rfl rfl rfl ?_
    refine G_off rfl rfl rfl rfl ?_
    refine G_val rfl rfl rfl rfl (V_pickT rfl rfl rfl) ?_
    refine G_done ?_
    refine G_then rfl ?_
    refine G_ret (post := [_, _, _, _]) Tryd.func103 rfl RVs_nil [1, 0, 0, 0] rfl ?_
    dsimp only [packed]
    have hq := rpAt_end hc.at hrc; rw [hq]; exact ⟨u, ba, hu, rfl, rfl⟩

set_option maxRecDepth 100000 in
set_option maxHeartbeats 1000000 in
theorem rd_all (r : Nat) :
    Ct Tryd.prog 78 [.pointer (some ⟨r, 0, none⟩)] [] [] fun v post => ∃ b1, v = .func (.func 103) #[] #[.pointer (some ⟨b1, 0, none⟩)] ∧ post = [(some b1, .cells #[.pointer (some ⟨r, 0, none⟩)] 141 (0, 0))] := by
 refine ct_of Tryd.func78 rfl rfl (fun w0 => ?_)
 show G _ _ [(0, _)] _ _
 refine G_seq ?_
 refine G_region (l := [0, 1]) rfl ?_
 refine G_new rfl rfl rfl rfl (N_box1 rfl rfl rfl) (fun b1 => ?_)
 refine G_val rfl rfl rfl rfl (V_assign rfl rfl) ?_
 refine G_done ?_
 refine G_seq ?_
 refine G_region (l := [0, 1]) rfl ?_
 refine G_val rfl rfl rfl rfl (V_func rfl rfl rfl) ?_
 refine G_val rfl rfl rfl rfl (V_assign rfl rfl) ?_
 refine G_done ?_
 refine G_ret (post := [_]) Tryd.func78 rfl (RVs_cons (RV_tmp rfl) RVs_nil) [0] rfl ?_
 dsimp only [packed]
 exact ⟨b1, rfl, rfl⟩

set_option maxRecDepth 100000 in
set_option maxHeartbeats 4000000 in
theorem lg_replay (d n lb lcap : Nat) (lcs : Array Value) (uw : Sl) (k : Dk) (h : DkAt k n lb lcs lcap uw) (f b : Int) (base e : Nat) (hr : rgE n f b = 0) (hd : k.dead = false) (hb0 : 0 < base) (hbs : base < 4294967296) (he : e < 4294967296) :
    Ct Tryd.prog 48 [.pointer (some ⟨d, 0, none⟩), .int .i64 f, .int .i64 b, .int .u32 (base : Int), .int .u32 (e : Int)] [(some d, .cells #[.slice (some ⟨lb, 0, none⟩) n lcap, uw.v k.W.length, .int .i64 k.fuse, .bool k.dead] 110 (0, 0)), (some lb, .cells lcs 9 (0, 0)), (uw.ob, .cells uw.cs 116 uw.fz)] [] fun v post => ∃ u : Sl, Own 1 u ((rp (rdB k f b.toNat) e base 0).1.map strC) (rp (rdB k f b.toNat) e base 0).1.length ∧ v = .tuple #[u.v (rp (rdB k f b.toNat) e base 0).1.length, .int .i64 ((rp (rdB k f b.toNat) e base 0).2 : Int), .int .i64 0] ∧ post = [(u.ob, .cells u.cs 9 u.fz)] := by
 have hq := h.bd
 have hq1 := hq.n1
 have hq2 := hq.n4
 have hq3 := hq.ncs
 have hq4 := hq.ncap
 have hq5 := hq.cap
 have hq6 := hq.w
 have hq7 := hq.wc
 have hln := h.len
 have hr1 := hr
 rw [rgE_ok] at hr1
 obtain ⟨hr2, hr3, hr4⟩ := hr1
 have hrl := rdB_len k f b.toNat
 refine ct_of Tryd.func48 rfl rfl (fun w0 => ?_)
 show G _ _ [(0, _), (1, _), (2, _), (3, _), (4, _)] _ _
 refine G_seq ?_
 refine G_region (l := [0, 1, 2]) rfl ?_
 refine G_val rfl rfl rfl rfl (V_assign rfl rfl) ?_
 refine G_val rfl rfl rfl rfl (V_assign rfl rfl) ?_
 refine G_val rfl rfl rfl rfl (V_assign rfl rfl) ?_
 refine G_done ?_
 refine G_seq ?_
 refine G_region (l := [0, 1, 2, 3, 4, 5, 6, 7, 8]) rfl ?_
 refine G_val rfl rfl rfl rfl (V_move rfl rfl) ?_
 refine G_val rfl rfl rfl rfl (V_move rfl rfl) ?_
 refine G_val rfl rfl rfl rfl (V_move rfl rfl) ?_
 refine G_val rfl rfl rfl rfl (V_buildS (cs := [_, _, _]) rfl Tryd.underlying134 infLogY_134 rfl plcLogY_134 rfl rfl rfl) ?_
 refine G_val rfl rfl rfl rfl (V_move rfl rfl) ?_
 refine G_val rfl rfl rfl rfl (V_move rfl rfl) ?_
 refine G_val rfl rfl rfl rfl (V_buildS (cs := [_, _, _, _, _, _, _]) rfl Tryd.underlying143 infLogY_143 rfl plcLogY_143 rfl rfl rfl) ?_
 refine G_new rfl rfl rfl rfl (N_boxA rfl rfl) (fun b24 => ?_)
 refine G_val rfl rfl rfl rfl (V_assign rfl rfl) ?_
 refine G_done ?_
 refine G_seq ?_
 refine G_seq ?_
 refine G_region (l := [0, 1, 2, 3, 4, 5]) rfl ?_
 refine G_val rfl rfl rfl rfl (V_move rfl rfl) ?_
 first
   | refine G_val rfl rfl rfl rfl (V_nilCheck rfl rfl) ?_
   | refine G_val rfl rfl rfl rfl (V_nilCheckF rfl rfl) ?_
 refine G_val rfl rfl rfl rfl (V_fieldAddr (fo := 0) rfl Tryd.underlying143 rfl infLogY_134 rfl rfl rfl) ?_
 refine G_val rfl rfl rfl rfl (V_loadA (s := 3) (vs := (rgC d f b).toArray) rfl rfl (mem_at 3 rfl) Tryd.underlying134 rfl infLogY_134 rfl (by simp [rgC]) (by first | rfl | (simp [bcells_length, wCells, kCells, rgC, lgC, rdC]; done) | (simp [bcells_length, wCells, kCells, rgC, lgC, rdC]; omega) | (simp [bcells_length, *, wCells, kCells, rgC, lgC, rdC]; done))) ?_
 refine G_call (L2 := [_]) rfl rfl rfl rfl rfl rfl Tryd.call75 ((lg_ok d n lb lcap lcs uw k h f b (by omega) (by omega) (by omega) (by omega)).weaken (fun v post h => by rw [hr] at h; exact h)) [] [0] rfl rfl ?_
 rintro v post ⟨rfl, rfl⟩
 show G _ _ _ [_] _
 refine G_val rfl rfl rfl rfl (V_assign rfl rfl) ?_
 refine G_done ?_
 refine G_seq ?_
 refine G_region (l := [0, 1]) rfl ?_
 refine G_val rfl rfl rfl rfl (V_move rfl rfl) ?_
 refine G_val rfl rfl rfl rfl (V_neq rfl rfl rfl) ?_
 refine G_done ?_
 refine G_ifD rfl (fun hc1 => ?_) (fun hc1 => ?_)
 · (first | (exact absurd rfl hc1) | (exfalso; omega))
 refine G_skip ?_
 refine G_seq ?_
 refine G_seq ?_
 refine G_region (l := [0, 1]) rfl ?_
 refine G_val rfl rfl rfl rfl (V_move rfl rfl) ?_
 refine G_val rfl rfl rfl rfl (V_eql rfl rfl rfl) ?_
 refine G_done ?_
 refine G_ifD rfl (fun hc2 => ?_) (fun hc2 => ?_)
 · (first | (exact absurd rfl hc2) | (exfalso; omega))
 refine G_skip ?_
 refine G_seq ?_
 refine G_region (l := [0]) rfl ?_
 refine G_new rfl rfl rfl rfl (N_alloc1 rfl infLogY_24 rfl rfl) (fun b15 => ?_)
 refine G_done ?_
 refine G_seq ?_
 refine G_seq ?_
 refine G_addNone (.cells #[] 9 (0, 0)) ?_
 refine G_region (l := [0, 1]) rfl ?_
 refine G_val rfl rfl rfl rfl (V_move rfl rfl) ?_
 refine G_call (L2 := [_, _, _]) rfl rfl rfl rfl rfl rfl Tryd.call78 (rd_all b24) [] [] rfl rfl ?_
 rintro v post ⟨b1, rfl, rfl⟩
 show G _ _ _ [_, _, _, _] _
 refine G_done ?_
 refine G_block ?_
 refine G_rangeFunc (gf := 103) (vs := [.pointer (some ⟨b1, 0, none⟩)]) (L2 := [_]) rfl rfl Tryd.call103 (fun l D T hT => rd_all1 d n lb lcap lcs uw k h b24 f b base e hr hd hbs he b1 b15 l _ rfl ?rd) [3, 2, 1] [3, 0, 1, 2] rfl rfl ?K
 case rd =>
  intro out u s hu ho
  rw [show ([Value.string (bs s)].toArray : Array Value) = #[.string (bs s)] from rfl]
  show Rd _ _ _ (((#[37] : Array Tmp).zip #[.string (bs s)]).foldl (fun tmps (t, a) => tmps.setIfInBounds t a) T) _ _ _ _ _
  rw [zip_one]
  refine rd_of (hT.put (d := 37) rfl (.string (bs s))) (fun w0 => ?_)
  refine GR_region (r := [0]) rfl ?_
  refine GR_val rfl rfl rfl rfl (fun _ h => by cases h) (V_assign rfl rfl) ?_
  refine GR_done ?_
  refine GR_begin (l1 := []) (L' := [_, _, _]) rfl rfl rfl ?_
  refine GR_block ?_
  refine GR_region (r := [0, 1, 2, 3, 4]) rfl ?_
  refine GR_val rfl rfl rfl rfl (fun _ h => by cases h) (V_load1 rfl rfl (mem_at 1 rfl) rfl Tryd.underlying24 rfl) ?_
  refine GR_val rfl rfl rfl rfl (fun _ h => by cases h) (V_move rfl rfl) ?_
  refine GR_new rfl rfl rfl rfl (fun _ h => by cases h) (N_buildAll (s := 1) (cs := [_]) rfl Tryd.underlying24 infLogY_9 rfl rfl rfl rfl rfl rfl rfl rfl rfl) (fun b40 => ?_)
  refine GR_append (l1 := [_, _, _]) (s := u) (nn := out.length) (m := 1) (news := [strC s]) (bt := 16) rfl rfl rfl rfl Tryd.underlying24 Tryd.underlying24 (by first | exact .inl rfl | exact .inr ⟨_, rfl⟩) infLogY_9 rfl rfl rfl rfl rfl rfl hu rfl (src_mem (mem_at 0 rfl) rfl rfl (by simp [strC, Value.oneCell'])) (by omega) (by omega) ?_
  intro u1 hu1 hp1
  show GR _ _ _ _ [_, _, _, _] _
  refine GR_put (l1 := [_, _]) (L' := [_, _, _, _]) rfl rfl rfl (fun _ h => by cases h) rfl (P_store1 rfl rfl rfl (mem_at 2 rfl) Nat.zero_lt_one infLogY_24 rfl rfl) rfl ?_
  refine GR_done ?_
  refine GR_inBlock ?_
  refine GR_end (l1 := [_]) (L' := [_, _, _, _]) (post := [_, _, _]) rfl rfl [1, 1, 1] rfl ?_
  exact ⟨rfl, u1, by rw [List.map_append]; exact hu1, rfl⟩
 case K =>
  rintro l D T v post ⟨u1, base1, hu1, rfl, rfl⟩
  refine ⟨_, _, rfl, by show LoopState.ready ≠ .busy; decide, rfl, ?_⟩
  show G _ _ _ [_, _, _, _, _] _
  refine G_inBlock ?_
  refine G_seq ?_
  refine G_seq ?_
  refine G_region (l := [0, 1, 2, 3, 4]) rfl ?_
  refine G_val rfl rfl rfl rfl (V_move rfl rfl) ?_
  first
    | refine G_val rfl rfl rfl rfl (V_nilCheck rfl rfl) ?_
    | refine G_val rfl rfl rfl rfl (V_nilCheckF rfl rfl) ?_
  refine G_val rfl rfl rfl rfl (V_fieldAddr (fo := 6) rfl Tryd.underlying143 rfl infLogY_29 rfl rfl rfl) ?_
  refine G_val rfl rfl rfl rfl (V_load1 rfl rfl (mem_at 4 rfl) rfl Tryd.underlying29 rfl) ?_
  refine G_val rfl rfl rfl rfl (V_neq rfl rfl rfl) ?_
  refine G_done ?_
  refine G_ifD rfl (fun hc3 => ?_) (fun hc3 => ?_)
  · (first | (exact absurd rfl hc3) | (exfalso; omega))
  refine G_skip ?_
  refine G_seq ?_
  refine G_draw mixedK (by kernel_rfl) ?_
  refine GQ_val rfl rfl rfl rfl (V_load1 rfl rfl (mem_at 5 rfl) rfl Tryd.underlying24 rfl) ?_
  refine GQ_val rfl rfl rfl rfl (V_move rfl rfl) ?_
  first
    | refine GQ_val rfl rfl rfl rfl (V_nilCheck rfl rfl) ?_
    | refine GQ_val rfl rfl rfl rfl (V_nilCheckF rfl rfl) ?_
  refine GQ_val rfl rfl rfl rfl (V_fieldAddr (fo := 5) rfl Tryd.underlying143 rfl infLogY_3 rfl rfl rfl) ?_
  refine GQ_val rfl rfl rfl rfl (V_load1 rfl rfl (mem_at 4 rfl) rfl Tryd.underlying3 rfl) ?_
  refine GQ_val rfl rfl rfl rfl (V_assign rfl rfl) ?_
  refine GQ_val rfl rfl rfl rfl (V_assign rfl rfl) ?_
  refine GQ_val rfl rfl rfl rfl (V_assign rfl rfl) ?_
  refine GQ_done rfl ?_
  refine G_retD (l1 := []) (L' := [_, _, _, _, _]) (post := [_]) rfl rfl rfl Tryd.func48 rfl (RVs_cons (RV_tmp rfl) (RVs_cons (RV_tmp rfl) (RVs_cons (RV_tmp rfl) RVs_nil))) [3] rfl ?_
  dsimp only [packed]
  exact ⟨u1, hu1, rfl, rfl⟩

set_option maxRecDepth 100000 in
set_option maxHeartbeats 1000000 in
theorem lg_replay_0 (d n lb lcap : Nat) (lcs : Array Value) (uw : Sl) (k : Dk) (h : DkAt k n lb lcs lcap uw) (f b : Int) (e : Int) (hr : rgE n f b = 0) :
    Ct Tryd.prog 48 [.pointer (some ⟨d, 0, none⟩), .int .i64 f, .int .i64 b, .int .u32 0, .int .u32 e] [(some d, .cells #[.slice (some ⟨lb, 0, none⟩) n lcap, uw.v k.W.length, .int .i64 k.fuse, .bool k.dead] 110 (0, 0)), (some lb, .cells lcs 9 (0, 0)), (uw.ob, .cells uw.cs 116 uw.fz)] [] fun v post => v = .tuple #[.slice none 0 0, .int .i64 0, .int .i64 1] ∧ post = [] := by
 have hq := h.bd
 have hq1 := hq.n1
 have hq2 := hq.n4
 have hq3 := hq.ncs
 have hq4 := hq.ncap
 have hq5 := hq.cap
 have hq6 := hq.w
 have hq7 := hq.wc
 have hln := h.len
 have hr1 := hr
 rw [rgE_ok] at hr1
 obtain ⟨hr2, hr3, hr4⟩ := hr1
 have hrl := rdB_len k f b.toNat
 refine ct_of Tryd.func48 rfl rfl (fun w0 => ?_)
 show G _ _ [(0, _), (1, _), (2, _), (3, _), (4, _)] _ _
 refine G_seq ?_
 refine G_region (l := [0, 1, 2]) rfl ?_
 refine G_val rfl rfl rfl rfl (V_assign rfl rfl) ?_
 refine G_val rfl rfl rfl rfl (V_assign rfl rfl) ?_
 refine G_val rfl rfl rfl rfl (V_assign rfl rfl) ?_
 refine G_done ?_
 refine G_seq ?_
 refine G_region (l := [0, 1, 2, 3, 4, 5, 6, 7, 8]) rfl ?_
 refine G_val rfl rfl rfl rfl (V_move rfl rfl) ?_
 refine G_val rfl rfl rfl rfl (V_move rfl rfl) ?_
 refine G_val rfl rfl rfl rfl (V_move rfl rfl) ?_
 refine G_val rfl rfl rfl rfl (V_buildS (cs := [_, _, _]) rfl Tryd.underlying134 infLogY_134 rfl plcLogY_134 rfl rfl rfl) ?_
 refine G_val rfl rfl rfl rfl (V_move rfl rfl) ?_
 refine G_val rfl rfl rfl rfl (V_move rfl rfl) ?_
 refine G_val rfl rfl rfl rfl (V_buildS (cs := [_, _, _, _, _, _, _]) rfl Tryd.underlying143 infLogY_143 rfl plcLogY_143 rfl rfl rfl) ?_
 refine G_new rfl rfl rfl rfl (N_boxA rfl rfl) (fun b24 => ?_)
 refine G_val rfl rfl rfl rfl (V_assign rfl rfl) ?_
 refine G_done ?_
 refine G_seq ?_
 refine G_seq ?_
 refine G_region (l := [0, 1, 2, 3, 4, 5]) rfl ?_
 refine G_val rfl rfl rfl rfl (V_move rfl rfl) ?_
 first
   | refine G_val rfl rfl rfl rfl (V_nilCheck rfl rfl) ?_
   | refine G_val rfl rfl rfl rfl (V_nilCheckF rfl rfl) ?_
 refine G_val rfl rfl rfl rfl (V_fieldAddr (fo := 0) rfl Tryd.underlying143 rfl infLogY_134 rfl rfl rfl) ?_
 refine G_val rfl rfl rfl rfl (V_loadA (s := 3) (vs := (rgC d f b).toArray) rfl rfl (mem_at 3 rfl) Tryd.underlying134 rfl infLogY_134 rfl (by simp [rgC]) (by first | rfl | (simp [bcells_length, wCells, kCells, rgC, lgC, rdC]; done) | (simp [bcells_length, wCells, kCells, rgC, lgC, rdC]; omega) | (simp [bcells_length, *, wCells, kCells, rgC, lgC, rdC]; done))) ?_
 refine G_call (L2 := [_]) rfl rfl rfl rfl rfl rfl Tryd.call75 ((lg_ok d n lb lcap lcs uw k h f b (by omega) (by omega) (by omega) (by omega)).weaken (fun v post h => by rw [hr] at h; exact h)) [] [0] rfl rfl ?_
 rintro v post ⟨rfl, rfl⟩
 show G _ _ _ [_] _
 refine G_val rfl rfl rfl rfl (V_assign rfl rfl) ?_
 refine G_done ?_
 refine G_seq ?_
 refine G_region (l := [0, 1]) rfl ?_
 refine G_val rfl rfl rfl rfl (V_move rfl rfl) ?_
 refine G_val rfl rfl rfl rfl (V_neq rfl rfl rfl) ?_
 refine G_done ?_
 refine G_ifD rfl (fun hc1 => ?_) (fun hc1 => ?_)
 · (first | (exact absurd rfl hc1) | (exfalso; omega))
 refine G_skip ?_
 refine G_seq ?_
 refine G_seq ?_
 refine G_region (l := [0, 1]) rfl ?_
 refine G_val rfl rfl rfl rfl (V_move rfl rfl) ?_
 refine G_val rfl rfl rfl rfl (V_eql rfl rfl rfl) ?_
 refine G_done ?_
 refine G_ifD rfl (fun hc2 => ?_) (fun hc2 => ?_)
 rotate_left
 · (first | (exact absurd rfl hc2) | (exfalso; omega))
 refine G_seq ?_
 refine G_region (l := [0, 1, 2]) rfl ?_
 refine G_val rfl rfl rfl rfl (V_assign rfl rfl) ?_
 refine G_val rfl rfl rfl rfl (V_assign rfl rfl) ?_
 refine G_val rfl rfl rfl rfl (V_assign rfl rfl) ?_
 refine G_done ?_
 refine G_ret (post := []) Tryd.func48 rfl (RVs_cons (RV_tmp rfl) (RVs_cons (RV_tmp rfl) (RVs_cons (RV_tmp rfl) RVs_nil))) [] rfl ?_
 dsimp only [packed]
 exact ⟨rfl, rfl⟩

set_option maxRecDepth 100000 in
set_option maxHeartbeats 1000000 in
theorem lg_replay_nil (x y z w : Int) :
    Ct Tryd.prog 48 [.pointer none, .int .i64 x, .int .i64 y, .int .u32 z, .int .u32 w] [] [] fun v post => v = .tuple #[.slice none 0 0, .int .i64 0, .int .i64 19] ∧ post = [] := by
 refine ct_of Tryd.func48 rfl rfl (fun w0 => ?_)
 show G _ _ [(0, _), (1, _), (2, _), (3, _), (4, _)] _ _
 refine G_seq ?_
 refine G_region (l := [0, 1, 2]) rfl ?_
 refine G_val rfl rfl rfl rfl (V_assign rfl rfl) ?_
 refine G_val rfl rfl rfl rfl (V_assign rfl rfl) ?_
 refine G_val rfl rfl rfl rfl (V_assign rfl rfl) ?_
 refine G_done ?_
 refine G_seq ?_
 refine G_region (l := [0, 1, 2, 3, 4, 5, 6, 7, 8]) rfl ?_
 refine G_val rfl rfl rfl rfl (V_move rfl rfl) ?_
 refine G_val rfl rfl rfl rfl (V_move rfl rfl) ?_
 refine G_val rfl rfl rfl rfl (V_move rfl rfl) ?_
 refine G_val rfl rfl rfl rfl (V_buildS (cs := [_, _, _]) rfl Tryd.underlying134 infLogY_134 rfl plcLogY_134 rfl rfl rfl) ?_
 refine G_val rfl rfl rfl rfl (V_move rfl rfl) ?_
 refine G_val rfl rfl rfl rfl (V_move rfl rfl) ?_
 refine G_val rfl rfl rfl rfl (V_buildS (cs := [_, _, _, _, _, _, _]) rfl Tryd.underlying143 infLogY_143 rfl plcLogY_143 rfl rfl rfl) ?_
 refine G_new rfl rfl rfl rfl (N_boxA rfl rfl) (fun b24 => ?_)
 refine G_val rfl rfl rfl rfl (V_assign rfl rfl) ?_
 refine G_done ?_
 refine G_seq ?_
 refine G_seq ?_
 refine G_region (l := [0, 1, 2, 3, 4, 5]) rfl ?_
 refine G_val rfl rfl rfl rfl (V_move rfl rfl) ?_
 first
   | refine G_val rfl rfl rfl rfl (V_nilCheck rfl rfl) ?_
   | refine G_val rfl rfl rfl rfl (V_nilCheckF rfl rfl) ?_
 refine G_val rfl rfl rfl rfl (V_fieldAddr (fo := 0) rfl Tryd.underlying143 rfl infLogY_134 rfl rfl rfl) ?_
 refine G_val rfl rfl rfl rfl (V_loadA (s := 3) (vs := #[.pointer none, .int .i64 x, .int .i64 y]) rfl rfl (mem_at 0 rfl) Tryd.underlying134 rfl infLogY_134 rfl (by simp) (by first | rfl | (simp [bcells_length, wCells, kCells, rgC, lgC, rdC]; done) | (simp [bcells_length, wCells, kCells, rgC, lgC, rdC]; omega) | (simp [bcells_length, *, wCells, kCells, rgC, lgC, rdC]; done))) ?_
 refine G_call (L2 := [_]) rfl rfl rfl rfl rfl rfl Tryd.call75 (lg_ok_nil _ _) [] [] rfl rfl ?_
 rintro v post ⟨rfl, rfl⟩
 show G _ _ _ [_] _
 refine G_val rfl rfl rfl rfl (V_assign rfl rfl) ?_
 refine G_done ?_
 refine G_seq ?_
 refine G_region (l := [0, 1]) rfl ?_
 refine G_val rfl rfl rfl rfl (V_move rfl rfl) ?_
 refine G_val rfl rfl rfl rfl (V_neq rfl rfl rfl) ?_
 refine G_done ?_
 refine G_ifD rfl (fun hc1 => ?_) (fun hc1 => ?_)
 rotate_left
 · (first | (exact absurd rfl hc1) | (exfalso; omega))
 refine G_seq ?_
 refine G_region (l := [0, 1, 2, 3]) rfl ?_
 refine G_val rfl rfl rfl rfl (V_move rfl rfl) ?_
 refine G_val rfl rfl rfl rfl (V_assign rfl rfl) ?_
 refine G_val rfl rfl rfl rfl (V_assign rfl rfl) ?_
 refine G_val rfl rfl rfl rfl (V_assign rfl rfl) ?_
 refine G_done ?_
 refine G_ret (post := []) Tryd.func48 rfl (RVs_cons (RV_tmp rfl) (RVs_cons (RV_tmp rfl) (RVs_cons (RV_tmp rfl) RVs_nil))) [] rfl ?_
 dsimp only [packed]
 exact ⟨rfl, rfl⟩

end
end Go.Proofs.YtbblkgdejgoncaaDoor

/- The pieces of a record are decoded as it, whatever stands behind (layer 25), in plain lists. -/
set_option linter.unusedSimpArgs false
set_option linter.unusedVariables false
namespace Go.Proofs.YtbblkgdejgoncaaDoor
open Go Go.RowKit

section



theorem padF_head (s : List UInt8) : (padF s).take 6 = headF s := by
  unfold padF bytesF
  rw [List.append_assoc, List.take_left' (headF_len s)]
theorem padF_two (s : List UInt8) : (padF s).take 2 = be 2 s.length := by
  have h := padF_head s
  have h2 : (padF s).take 2 = ((padF s).take 6).take 2 := by rw [List.take_take]; rfl
  rw [h2, h]
  unfold headF
  rw [List.take_left' (be_length 2 s.length)]
theorem padF_rec (s : List UInt8) : ((padF s).drop 6).take s.length = s := by
  unfold padF bytesF
  rw [List.append_assoc, List.drop_left' (headF_len s), List.take_left' rfl]
theorem dec_enc {s : List UInt8} (h : s.length ≤ 1000) (ms : List (List UInt8)) : decS (encF s ++ ms) = s ∧ decM (encF s ++ ms) = (encF s).length ∧ decE (encF s ++ ms) = 0 := by
  obtain ⟨e1, _⟩ := encF_yes h
  rw [e1]
  have hp := padF_len s
  have hr := manyN_room s.length
  obtain ⟨k, hk⟩ : ∃ k, manyN s.length = k + 1 := ⟨manyN s.length - 1, by omega⟩
  have hf : firstF (piecesF s ++ ms) = (padF s).take 48 := by
    unfold piecesF; rw [hk, chunks_cons]; rfl
  have h48 : ((padF s).take 48).length = 48 := by rw [List.length_take]; omega
  have h2 : num (((padF s).take 48).take 2) = s.length := by
    rw [List.take_take, show min 2 48 = 2 from rfl, padF_two]
    exact num_be 2 _ (fit2 (by omega))
  have hs : sizeF (firstF (piecesF s ++ ms)) = s.length ∧ sizeFE (firstF (piecesF s ++ ms)) = 0 := by
    rw [hf]
    obtain ⟨a, b⟩ := sizeF_ok (p := (padF s).take 48) h48 (by omega)
    exact ⟨a.trans h2, b⟩
  have hn : nF (piecesF s ++ ms) = s.length := hs.1
  have hm : mF (piecesF s ++ ms) = manyN s.length := by unfold mF; rw [hn]
  have hl : (piecesF s).length = manyN s.length := piecesF_len s
  have ht : (piecesF s ++ ms).take (mF (piecesF s ++ ms)) = piecesF s := by rw [hm, List.take_left' hl]
  have ha : allF (piecesF s ++ ms) = padF s := by
    unfold allF; rw [ht]; exact flat_chunks _ _ hp
  have hfu : fullF (piecesF s ++ ms) = true := by
    unfold fullF; rw [ht]
    exact List.all_eq_true.2 fun x hx => decide_eq_true (chunks_all hp x hx)
  have hrec : recF (piecesF s ++ ms) = s := by unfold recF; rw [ha, hn]; exact padF_rec s
  obtain ⟨d1, d2, d3⟩ := dec_ok (ls := piecesF s ++ ms) (by rw [List.length_append]; omega) hs.2 (by rw [hm, List.length_append]; omega) hfu (by rw [ha, hrec])
  exact ⟨d1.trans hrec, d2.trans (hm.trans hl.symm), d3⟩
theorem enc_small (s : List UInt8) : (encF s).length ≤ 21 := by
  unfold encF
  split
  · rw [piecesF_len]; unfold manyN; omega
  · simp
theorem enc_all {s : List UInt8} {ms : List (List UInt8)} (hg : ∀ x ∈ ms, x.length ≤ 9223372036854775807) : ∀ x ∈ encF s ++ ms, x.length ≤ 9223372036854775807 := by
  intro x hx
  rcases List.mem_append.1 hx with h | h
  · unfold encF at h
    split at h
    · have := chunks_all (padF_len s) x h; omega
    · cases h
  · exact hg x h
theorem first_enc {s : List UInt8} (ms : List (List UInt8)) : firstF (piecesF s ++ ms) = (padF s).take 48 := by
  have hpos := manyN_pos s.length
  obtain ⟨k, hk⟩ : ∃ k, manyN s.length = k + 1 := ⟨manyN s.length - 1, by omega⟩
  unfold piecesF; rw [hk, chunks_cons]; rfl
theorem num_enc {s : List UInt8} (h : s.length ≤ 1000) : ((padF s).take 48).length = 48 ∧ num (((padF s).take 48).take 2) = s.length := by
  have hp := padF_len s
  have hr := manyN_room s.length
  refine ⟨by rw [List.length_take]; omega, ?_⟩
  rw [List.take_take, show min 2 48 = 2 from rfl, padF_two]
  exact num_be 2 _ (fit2 (by omega))
theorem size_enc {s : List UInt8} (h : s.length ≤ 1000) (ms : List (List UInt8)) : sizeF (firstF (piecesF s ++ ms)) = s.length := by
  obtain ⟨h1, h2⟩ := num_enc h
  rw [first_enc]
  exact (sizeF_ok h1 (by omega)).1.trans h2
theorem sizeE_enc {s : List UInt8} (h : s.length ≤ 1000) (ms : List (List UInt8)) : sizeFE (firstF (piecesF s ++ ms)) = 0 := by
  obtain ⟨h1, h2⟩ := num_enc h
  rw [first_enc]
  exact (sizeF_ok h1 (by omega)).2

end
end Go.Proofs.YtbblkgdejgoncaaDoor

/- Records that fall (layer 26), in plain lists: of what was appended by a new epoch, whatever stays, the first ones are replayed behind those that were there. -/
set_option linter.unusedSimpArgs false
set_option linter.unusedVariables false
namespace Go.Proofs.YtbblkgdejgoncaaDoor
open Go Go.RowKit

section



def pcs (ts : List (List UInt8)) : List (List UInt8) := ts.flatMap piecesF
theorem pcs_cons (t : List UInt8) (ts : List (List UInt8)) : pcs (t :: ts) = piecesF t ++ pcs ts := by simp [pcs]
theorem pcs_app (ts us : List (List UInt8)) : pcs (ts ++ us) = pcs ts ++ pcs us := by simp [pcs]
theorem pcs_48 (ts : List (List UInt8)) : ∀ p ∈ pcs ts, p.length = 48 := by
  intro p hp
  obtain ⟨t, _, h⟩ := List.mem_flatMap.1 hp
  exact piecesF_48 t p h
/-- The place at which a replay ends, and that it ends there. -/
theorem rpN_reach (rb : List (List UInt8)) (e base0 : Nat) : ∀ (n : Nat) (out : List (List UInt8)) (base a : Nat), rb.length < n + a → RpCome rb e base0 out base a → ∃ b, RpCome rb e base0 (out ++ (rp rb e base a).1) b (rp rb e base a).2 ∧ ¬ rcOk rb b e (rp rb e base a).2
  | 0, out, base, a, h, hc => by
    have := hc.le.1; omega
  | n + 1, out, base, a, h, hc => by
    by_cases hr : rcOk rb base e a
    · have hp := rcM_pos rb a
      obtain ⟨b, h1, h2⟩ := rpN_reach rb e base0 n (out ++ [rcS rb a]) (pE rb a) (a + rcM rb a) (by omega) (.next hc hr)
      rw [rp_yes hr]
      exact ⟨b, by simpa using h1, h2⟩
    · rw [rp_no hr]
      exact ⟨base, by simpa using hc, hr⟩
theorem rp_reach (rb : List (List UInt8)) (e base : Nat) : ∃ b, RpCome rb e base (rp rb e base 0).1 b (rp rb e base 0).2 ∧ ¬ rcOk rb b e (rp rb e base 0).2 := by
  have := rpN_reach rb e base (rb.length + 1) [] base 0 (by omega) .start
  simpa using this
/-- What a record is hangs on its own blocks alone. -/
theorem rc_same {rb rb' : List (List UInt8)} {base e e' a : Nat} (he : pE rb a ≤ e') (hs : ∀ i, a ≤ i → i < a + rcM rb a → rb'.getD i [] = rb.getD i []) (h : rcOk rb base e a) : rcOk rb' base e' a ∧ rcS rb' a = rcS rb a ∧ pE rb' a = pE rb a ∧ rcM rb' a = rcM rb a := by
  have hp := rcM_pos rb a
  have h0 : rb'.getD a [] = rb.getD a [] := hs a (by omega) (by omega)
  have e1 : pE rb' a = pE rb a := by unfold pE; rw [h0]
  have e2 : pD rb' a = pD rb a := by unfold pD; rw [h0]
  have e3 : rcM rb' a = rcM rb a := by unfold rcM; rw [e2]
  have e4 : rcTo rb' a (rcM rb' a) = rcTo rb a (rcM rb a) := by
    rw [e3]; unfold rcTo
    apply List.map_congr_left
    intro j hj
    have hj := List.mem_range.1 hj
    unfold pD; rw [hs (a + j) (by omega) (by omega)]
  obtain ⟨a1, a2, a3, a4, a5, a6⟩ := h
  refine ⟨⟨?_, by rw [e1]; exact a2, by rw [e1]; exact he, by rw [e2]; exact a4, fun j hj => ?_, by rw [e4]; exact a6⟩, by unfold rcS; rw [e4], e1, e3⟩
  · unfold pOk; rw [h0]; exact a1
  · rw [e3] at hj
    obtain ⟨b1, b2⟩ := a5 j hj
    unfold pOk pE at *
    rw [hs (a + j) (by omega) (by omega), h0]
    exact ⟨b1, b2⟩
theorem come_same {rb rb' : List (List UInt8)} {base0 e e' : Nat} (he : e ≤ e') {out : List (List UInt8)} {base a : Nat} (h : RpCome rb e base0 out base a) (hs : ∀ i, i < a → rb'.getD i [] = rb.getD i []) : RpCome rb' e' base0 out base a := by
  induction h with
  | start => exact .start
  | next hc hr ih =>
    rename_i out base a
    obtain ⟨h1, h2, h3, h4⟩ := rc_same (e' := e') (Nat.le_trans hr.2.2.1 he) (fun i _ hi => hs i hi) hr
    have := RpCome.next (ih (fun i hi => hs i (by have := rcM_pos rb a; omega))) h1
    rw [h2, h3, h4] at this
    exact this
/-- New blocks over old ones, from a place on. -/
structure Over (e0 e : Nat) (rb rb' : List (List UInt8)) (a : Nat) (P : List (List UInt8)) : Prop where
  len : rb'.length = rb.length
  low : ∀ i, i < rb.length → Low e0 (rb.getD i [])
  e1 : e0 < e
  e2 : e < 256
  news : ∀ i p, P[i]? = some p → a + i < rb.length → Lain e p (rb.getD (a + i) []) (rb'.getD (a + i) [])
  olds : ∀ i, a + P.length ≤ i → rb'.getD i [] = rb.getD i []
  p48 : ∀ p ∈ P, p.length = 48
theorem Over.drop {e0 e a : Nat} {rb rb' P Q : List (List UInt8)} (h : Over e0 e rb rb' a (P ++ Q)) : Over e0 e rb rb' (a + P.length) Q :=
  ⟨h.len, h.low, h.e1, h.e2, fun i p hp hi => by
    have := h.news (P.length + i) p (by rw [List.getElem?_append_right (by omega)]; rw [show P.length + i - P.length = i by omega]; exact hp) (by omega)
    rw [show a + (P.length + i) = a + P.length + i by omega] at this
    exact this, fun i hi => h.olds i (by rw [List.length_append]; omega), fun p hp => h.p48 p (by simp [hp])⟩
/-- A block that opens is an old one, or the new one. -/
theorem Over.open {e0 e a : Nat} {rb rb' P : List (List UInt8)} (h : Over e0 e rb rb' a P) {i : Nat} (hi : pOk rb' (a + i) = true) : (rb'.getD (a + i) [] = rb.getD (a + i) [] ∧ pE rb' (a + i) ≤ e0) ∨ (∃ p, P[i]? = some p ∧ pE rb' (a + i) = e ∧ pD rb' (a + i) = p) := by
  have hlt := pOk_lt hi
  rw [h.len] at hlt
  have ho := (pOk_iff.1 hi).1
  have hlow := h.low (a + i) hlt
  cases hp : P[i]? with
  | some p =>
    rcases lain_open hlow h.e1 (h.news i p hp hlt) ho with ⟨x, y⟩ | ⟨x, y⟩
    · exact .inl ⟨x, y⟩
    · exact .inr ⟨p, rfl, x, y⟩
  | none =>
    have hge : P.length ≤ i := List.getElem?_eq_none_iff.1 hp
    have e1 := h.olds (a + i) (by omega)
    refine .inl ⟨e1, ?_⟩
    unfold pE; rw [e1] at ho ⊢
    exact (low_open hlow ho).2
/-- A record of the new epoch is the first one of those that were appended. -/
theorem Over.first {e0 e a base : Nat} {rb rb' : List (List UInt8)} {t : List UInt8} {ts : List (List UInt8)} (h : Over e0 e rb rb' a (pcs (t :: ts))) (ht : t.length ≤ 1000) (hr : rcOk rb' base e a) (hE : pE rb' a = e) : rcM rb' a = manyN t.length ∧ rcS rb' a = t := by
  have hall : ∀ j, j < rcM rb' a → (pcs (t :: ts))[j]? = some (pD rb' (a + j)) := fun j hj => by
    obtain ⟨h1, h2⟩ := hr.2.2.2.2.1 j hj
    rcases h.open h1 with ⟨_, y⟩ | ⟨p, x, _, z⟩
    · have := h.e1; omega
    · rw [z]; exact x
  have hP := pcs_cons t ts
  have hl := piecesF_len t
  have hpos := manyN_pos t.length
  have h0 := hall 0 (rcM_pos rb' a)
  rw [Nat.add_zero, hP, List.getElem?_append_left (by omega)] at h0
  have hm : rcM rb' a = manyN t.length := by
    unfold rcM
    have hf := size_enc ht []
    rw [List.append_nil] at hf
    have : firstF (piecesF t) = pD rb' a := by
      unfold firstF
      rw [List.headD_eq_head?_getD, List.head?_eq_getElem?, h0]; rfl
    rw [this] at hf
    rw [hf]
  refine ⟨hm, ?_⟩
  have hto : rcTo rb' a (rcM rb' a) = piecesF t := by
    apply List.ext_getElem?
    intro j
    by_cases hj : j < rcM rb' a
    · have := hall j hj
      rw [hP, List.getElem?_append_left (by omega)] at this
      rw [this]
      simp [rcTo, hj]
    · rw [List.getElem?_eq_none (by rw [rcTo_len]; omega), List.getElem?_eq_none (by omega)]
  unfold rcS
  rw [hto]
  have := (dec_enc ht []).1
  rw [List.append_nil, (encF_yes ht).1] at this
  exact this
/-- A record of which all blocks are whole is there. -/
theorem rc_whole {e base a : Nat} {rb' : List (List UInt8)} {t : List UInt8} (ht : t.length ≤ 1000) (h0 : 0 < e) (he : e < 4294967296) (hb : base ≤ e) (hN : rb'.length < 4294967296) (hl : a + manyN t.length ≤ rb'.length) (hw : ∀ i p, (piecesF t)[i]? = some p → rb'.getD (a + i) [] = sealL e (a + i) p) : rcOk rb' base e a ∧ pE rb' a = e := by
  have hpl := piecesF_len t
  have hpos := manyN_pos t.length
  have key : ∀ i, i < manyN t.length → ∃ p, (piecesF t)[i]? = some p ∧ pOk rb' (a + i) = true ∧ pE rb' (a + i) = e ∧ pD rb' (a + i) = p := fun i hi => by
    obtain ⟨p, hp⟩ := getI (show i < (piecesF t).length by omega)
    have h48 := piecesF_48 t p (List.mem_of_getElem? hp)
    have hE : sealE e p = 0 := (sealE_cases _ _).2 (by omega)
    have hb := hw i p hp
    obtain ⟨o1, o2, o3⟩ := open_seal (i := a + i) he (by omega) hE
    have o4 := openOk_seal (i := a + i) he hE
    refine ⟨p, hp, ?_, ?_, ?_⟩
    · rw [pOk_iff, hb]; exact ⟨o4, o2⟩
    · unfold pE; rw [hb]; exact o1
    · unfold pD; rw [hb]; exact o3
  obtain ⟨p0, q1, q2, q3, q4⟩ := key 0 (by omega)
  rw [Nat.add_zero] at q2 q3 q4
  have hf0 : firstF (piecesF t) = p0 := by unfold firstF; rw [List.headD_eq_head?_getD, List.head?_eq_getElem?, q1]; rfl
  have hsz := size_enc ht []
  rw [List.append_nil, hf0] at hsz
  have hszE := sizeE_enc ht []
  rw [List.append_nil, hf0] at hszE
  have hm : rcM rb' a = manyN t.length := by unfold rcM; rw [q4, hsz]
  have hto : rcTo rb' a (rcM rb' a) = piecesF t := by
    apply List.ext_getElem?
    intro j
    by_cases hj : j < rcM rb' a
    · obtain ⟨p, r1, _, _, r4⟩ := key j (by omega)
      rw [r1]; simp [rcTo, hj, r4]
    · rw [List.getElem?_eq_none (by rw [rcTo_len]; omega), List.getElem?_eq_none (by omega)]
  have hd := (dec_enc ht []).2.2
  rw [List.append_nil, (encF_yes ht).1] at hd
  refine ⟨⟨q2, by omega, by omega, by rw [q4]; exact hszE, fun j hj => ?_, by rw [hto]; exact hd⟩, q3⟩
  obtain ⟨p, _, r2, r3, _⟩ := key j (by omega)
  exact ⟨r2, by rw [r3, q3]⟩
def WholeTo (e : Nat) (rb' : List (List UInt8)) (a : Nat) (P : List (List UInt8)) : Prop := ∀ i p, P[i]? = some p → rb'.getD (a + i) [] = sealL e (a + i) p
/-- Of the new ones the first ones are there: all that are whole. -/
theorem more_new {e0 e : Nat} {rb rb' : List (List UInt8)} (hN : rb'.length ≤ 4096) : ∀ (ts : List (List UInt8)) (a m : Nat), Over e0 e rb rb' a (pcs ts) → (∀ t ∈ ts, t.length ≤ 1000) → m ≤ ts.length → WholeTo e rb' a (pcs (ts.take m)) → a + (pcs (ts.take m)).length ≤ rb'.length →
    ∃ j, m ≤ j ∧ j ≤ ts.length ∧ rp rb' e e a = (ts.take j, a + (pcs (ts.take j)).length)
  | [], a, m, h, _, hm, _, _ => by
    have hn : ¬ rcOk rb' e e a := fun hr => by
      have h0 : pOk rb' (a + 0) = true := hr.1
      have := h.e1
      have h2 := hr.2.1
      rcases h.open h0 with ⟨_, y⟩ | ⟨p, x, _⟩
      · rw [Nat.add_zero] at y; omega
      · simp [pcs] at x
    exact ⟨0, hm, Nat.le_refl _, by rw [rp_no hn]; simp [pcs]⟩
  | t :: ts, a, m, h, ht, hm, hw, hl => by
    have ht0 := ht t (by simp)
    have hpl := piecesF_len t
    by_cases hr : rcOk rb' e e a
    · have hE : pE rb' a = e := by have := hr.2.1; have := hr.2.2.1; omega
      obtain ⟨h1, h2⟩ := h.first ht0 hr hE
      have hd : Over e0 e rb rb' (a + (piecesF t).length) (pcs ts) := by rw [pcs_cons] at h; exact h.drop
      obtain ⟨j, j1, j2, j3⟩ := more_new hN ts (a + (piecesF t).length) (m - 1) hd (fun x hx => ht x (by simp [hx])) (by simp at hm; omega) (by
        intro i p hp
        cases m with
        | zero => simp [pcs] at hp
        | succ m =>
          have := hw ((piecesF t).length + i) p (by
            rw [List.take_succ_cons, pcs_cons, List.getElem?_append_right (by omega), show (piecesF t).length + i - (piecesF t).length = i by omega]
            exact hp)
          rw [show a + ((piecesF t).length + i) = a + (piecesF t).length + i by omega] at this
          exact this) (by
        cases m with
        | zero =>
          have := rc_le hr
          simp [pcs]; omega
        | succ m =>
          rw [List.take_succ_cons, pcs_cons, List.length_append] at hl
          rw [show m + 1 - 1 = m by omega]; omega)
      refine ⟨j + 1, by omega, by simp; omega, ?_⟩
      rw [rp_yes hr, h2, hE, h1, ← hpl, j3, List.take_succ_cons, pcs_cons, List.length_append]
      simp only [Prod.mk.injEq, true_and]; omega
    · refine ⟨0, ?_, Nat.zero_le _, by rw [rp_no hr]; simp [pcs]⟩
      cases m with
      | zero => exact Nat.le_refl _
      | succ m =>
        exfalso
        have h0 : 0 < e := by have := h.e1; omega
        have := h.e2
        rw [List.take_succ_cons, pcs_cons, List.length_append] at hl
        refine hr (rc_whole (base := e) ht0 h0 (by omega) (Nat.le_refl _) (by omega) (by omega) (fun i p hp => ?_)).1
        refine hw i p ?_
        rw [List.take_succ_cons, pcs_cons, List.getElem?_append_left (List.getElem?_eq_some_iff.1 hp).1]
        exact hp
/-- THE LAW OF A FALL: behind what was replayed stand the first ones of those that were appended since; all that are whole. -/
theorem more_all {e0 e base : Nat} {rb rb' : List (List UInt8)} (hN : rb'.length ≤ 4096) {ts : List (List UInt8)} {m : Nat} (ho : Over e0 e rb rb' (rp rb e0 base 0).2 (pcs ts)) (hs : ∀ i, i < (rp rb e0 base 0).2 → rb'.getD i [] = rb.getD i [])
    (hb : base ≤ e) (ht : ∀ t ∈ ts, t.length ≤ 1000) (hm : m ≤ ts.length) (hw : WholeTo e rb' (rp rb e0 base 0).2 (pcs (ts.take m))) (hl : (rp rb e0 base 0).2 + (pcs (ts.take m)).length ≤ rb'.length) :
    ∃ j, m ≤ j ∧ j ≤ ts.length ∧ rp rb' e base 0 = ((rp rb e0 base 0).1 ++ ts.take j, (rp rb e0 base 0).2 + (pcs (ts.take j)).length) := by
  obtain ⟨b, hc, hn⟩ := rp_reach rb e0 base
  generalize (rp rb e0 base 0).1 = out at *
  generalize (rp rb e0 base 0).2 = a at *
  have he := ho.e1
  have hbe : b ≤ e := by
    rcases hc.le.2.2 with h | h <;> omega
  have hc' := come_same (e' := e) (by omega) hc hs
  have hat := hc'.at
  unfold RpAt at hat
  by_cases hr : rcOk rb' b e a
  · -- it is of the new epoch: else it would have been there
    have hE : pE rb' a = e := by
      have h0 : pOk rb' (a + 0) = true := hr.1
      rcases ho.open h0 with ⟨x, y⟩ | ⟨p, x, y, _⟩
      · exfalso
        rw [Nat.add_zero] at x y
        have hold : ∀ i, a ≤ i → i < a + rcM rb' a → rb.getD i [] = rb'.getD i [] := fun i h1 h2 => by
          obtain ⟨g1, g2⟩ := hr.2.2.2.2.1 (i - a) (by omega)
          rcases ho.open g1 with ⟨x', _⟩ | ⟨_, _, y', _⟩
          · rw [show a + (i - a) = i by omega] at x'; exact x'.symm
          · omega
        exact hn (rc_same (e' := e0) (by omega) hold hr).1
      · rw [Nat.add_zero] at y; exact y
    match ts, ho, ht, hm, hw, hl with
    | [], ho, _, _, _, _ =>
      exfalso
      have h0 : pOk rb' (a + 0) = true := hr.1
      rcases ho.open h0 with ⟨_, y⟩ | ⟨p, x, _⟩
      · rw [Nat.add_zero] at y; omega
      · simp [pcs] at x
    | t :: ts, ho, ht, hm, hw, hl =>
      have h1 : rcOk rb' e e a := ⟨hr.1, by omega, by omega, hr.2.2.2.1, hr.2.2.2.2.1, hr.2.2.2.2.2⟩
      obtain ⟨j, j1, j2, j3⟩ := more_new hN (t :: ts) a m ho ht hm hw hl
      refine ⟨j, j1, j2, ?_⟩
      rw [hat, rp_yes hr]
      rw [rp_yes h1] at j3
      rw [j3]
  · refine ⟨0, ?_, Nat.zero_le _, by rw [hat, rp_no hr]; simp [pcs]⟩
    match m, ts, ho, ht, hm, hw, hl with
    | 0, _, _, _, _, _, _ => exact Nat.le_refl _
    | m + 1, [], _, _, hm, _, _ => simp at hm
    | m + 1, t :: ts, ho, ht, hm, hw, hl =>
      exfalso
      have := ho.e2
      have hpl := piecesF_len t
      rw [List.take_succ_cons, pcs_cons, List.length_append] at hl
      refine hr (rc_whole (base := b) (ht t (by simp)) (by omega) (by omega) hbe (by omega) (by omega) (fun i p hp => ?_)).1
      refine hw i p ?_
      rw [List.take_succ_cons, pcs_cons, List.getElem?_append_left (List.getElem?_eq_some_iff.1 hp).1]
      exact hp

end
end Go.Proofs.YtbblkgdejgoncaaDoor

/- What is read of a disk on which records were appended (layer 26), in plain lists; the example. -/
set_option linter.unusedSimpArgs false
set_option linter.unusedVariables false
namespace Go.Proofs.YtbblkgdejgoncaaDoor
open Go Go.RowKit

section



theorem rc_more {rb : List (List UInt8)} {e e' base a : Nat} (h : ∀ i, pOk rb i = true → pE rb i ≤ e) (he : e ≤ e') : rcOk rb base e' a ↔ rcOk rb base e a := by
  constructor
  · rintro ⟨a1, a2, a3, a4, a5, a6⟩; exact ⟨a1, a2, h a a1, a4, a5, a6⟩
  · rintro ⟨a1, a2, a3, a4, a5, a6⟩; exact ⟨a1, a2, by omega, a4, a5, a6⟩
theorem rpN_epoch {rb : List (List UInt8)} {e e' : Nat} (h : ∀ i, pOk rb i = true → pE rb i ≤ e) (he : e ≤ e') : ∀ n base a, rpN rb e' n base a = rpN rb e n base a
  | 0, _, _ => rfl
  | n + 1, base, a => by
    rw [rpN, rpN, rpN_epoch h he n]
    by_cases hr : rcOk rb base e a
    · rw [if_pos hr, if_pos ((rc_more h he).2 hr)]
    · rw [if_neg hr, if_neg (fun x => hr ((rc_more h he).1 x))]
theorem rp_epoch {rb : List (List UInt8)} {e e' base a : Nat} (h : ∀ i, pOk rb i = true → pE rb i ≤ e) (he : e ≤ e') : rp rb e' base a = rp rb e base a := rpN_epoch h he _ _ _
theorem low_epochs {rb : List (List UInt8)} {e : Nat} (h : ∀ i, i < rb.length → Low e (rb.getD i [])) : ∀ i, pOk rb i = true → pE rb i ≤ e := fun i hi => (low_open (h i (pOk_lt hi)) (pOk_iff.1 hi).1).2
theorem lblks_get {e a i : Nat} {ps : List (List UInt8)} {p : List UInt8} (h : ps[i]? = some p) : (lblks e a ps).getD i [] = sealL e (a + i) p := by
  rw [List.getD_eq_getElem?_getD, lblks_at, h]; rfl
/-- What a live disk reads behind a record was appended. -/
theorem view_app {k : Dk} {f : Nat} {b : Int} {e a : Nat} {s : List UInt8} (hl : Lively k) (he : 0 < e) (hf : fitsL (b - (a : Int)) s) (hn : (f : Int) + b ≤ (k.L.length : Int)) :
    appE k (f : Int) b e a s = 0 ∧ Lively (appK k (f : Int) b e a s) ∧ (appK k (f : Int) b e a s).L = k.L ∧ (appK k (f : Int) b e a s).W = k.W ++ places (((f + a : Nat)) : Int) (lblks e a (piecesF s)) ∧
    ∀ i, i < k.L.length → (view (appK k (f : Int) b e a s)).getD i [] = if f + a ≤ i ∧ i < f + a + manyN s.length then (lblks e a (piecesF s)).getD (i - (f + a)) [] else (view k).getD i [] := by
  obtain ⟨e1, e2⟩ := app_yes (k := k) (f := (f : Int)) (e := e) (lgE_0.2 hf)
  have hf2 := hf.2
  have hbl : (lblks e a (piecesF s)).length = manyN s.length := by rw [lblks_len, piecesF_len]
  rw [show (f : Int) + (a : Int) = ((f + a : Nat) : Int) by omega] at e1 e2
  obtain ⟨g1, g2, g3, g4⟩ := wrs_lively (lblks e a (piecesF s)) k ((f + a : Nat) : Int) hl (lblks_64 he (piecesF_48 s) a) (by omega) (by rw [hbl]; omega)
  rw [e1, e2]
  refine ⟨g1, g4, g2, g3, fun i hi => ?_⟩
  have hv : view (wrsK k ((f + a : Nat) : Int) (lblks e a (piecesF s))) = applyW (view k) (places ((f + a : Nat) : Int) (lblks e a (piecesF s))) := by
    unfold view; rw [g2, g3, applyW_app]
  have hvl := view_len k
  rw [hv, applyW_places _ _ _ (by rw [hbl, hvl]; omega) i (by rw [hvl]; exact hi), hbl]
theorem rdB_view {k : Dk} (ho : DkOk k) (hd : k.dead = false) {f n i : Nat} (hi : i < n) (hn : f + n ≤ k.L.length) : (rdB k (f : Int) n).getD i [] = (view k).getD (f + i) [] := by
  rw [rdB_get hi, show (f : Int) + (i : Int) = ((f + i : Nat) : Int) by omega, (read_view ho hd (by omega)).1]
theorem rdB_out {k : Dk} {f : Int} {n i : Nat} (h : n ≤ i) : (rdB k f n).getD i [] = [] := by
  rw [List.getD_eq_getElem?_getD, List.getElem?_eq_none (by rw [rdB_len]; exact h)]; rfl
theorem newD_view' {n i : Nat} (hi : i < n) : (view (newD n)).getD i [] = List.replicate 64 0 := by
  show (List.replicate n (List.replicate 64 (0 : UInt8))).getD i [] = _
  rw [List.getD_eq_getElem?_getD, List.getElem?_replicate, if_pos hi]; rfl
theorem zero_not : openOk (List.replicate 64 0) = false := by decide
def zt (n : Nat) : List UInt8 := List.replicate n 0
theorem zt_len (n : Nat) : (zt n).length = n := by simp [zt]
def lk1 : Dk := appK (newD 8) 2 5 7 0 (zt 42)
def lk2 : Dk := appK lk1 2 5 7 1 (zt 43)
theorem live_log : appE (newD 8) 2 5 7 0 (zt 42) = 0 ∧ appA (newD 8) 2 5 7 0 (zt 42) = 1 ∧ appE lk1 2 5 7 1 (zt 43) = 0 ∧ appA lk1 2 5 7 1 (zt 43) = 3 ∧ lk2.dead = false ∧ lk1.W.length ≤ 100 ∧ rp (rdB lk2 2 5) 9 1 0 = ([zt 42, zt 43], 3) := by
  have m1 : manyN (zt 42).length = 1 := by rw [zt_len]; rfl
  have m2 : manyN (zt 43).length = 2 := by rw [zt_len]; rfl
  have l1 := zt_len 42
  have l2 := zt_len 43
  have hn : (newD 8).L.length = 8 := by simp [newD]
  have f1 : fitsL ((5 : Int) - ((0 : Nat) : Int)) (zt 42) := by unfold fitsL; rw [m1, l1]; omega
  have f2 : fitsL ((5 : Int) - ((1 : Nat) : Int)) (zt 43) := by unfold fitsL; rw [m2, l2]; omega
  obtain ⟨a1, a2, a3, a4, a5⟩ := view_app (k := newD 8) (f := 2) (b := 5) (e := 7) (a := 0) (newD_lively 8) (by omega) f1 (by rw [hn]; omega)
  obtain ⟨b1, b2, b3, b4, b5⟩ := view_app (k := lk1) (f := 2) (b := 5) (e := 7) (a := 1) (show Lively lk1 from a2) (by omega) f2 (by show _ ≤ ((appK (newD 8) ((2 : Nat) : Int) 5 7 0 (zt 42)).L.length : Int); rw [a3, hn]; omega)
  have hL1 : lk1.L.length = 8 := by show (appK (newD 8) ((2 : Nat) : Int) 5 7 0 (zt 42)).L.length = 8; rw [a3, hn]
  have hL2 : lk2.L.length = 8 := by show (appK lk1 ((2 : Nat) : Int) 5 7 1 (zt 43)).L.length = 8; rw [b3, hL1]
  have ok1 : DkOk lk1 := app_ok (newD_ok 8 (by omega) (by omega)) _ _ _ _ _
  have ok2 : DkOk lk2 := app_ok ok1 _ _ _ _ _
  have hd2 : lk2.dead = false := b2.dead
  have hvw : ∀ i, i < 8 → (view lk2).getD i [] = if 3 ≤ i ∧ i < 5 then (lblks 7 1 (piecesF (zt 43))).getD (i - 3) [] else if 2 ≤ i ∧ i < 3 then (lblks 7 0 (piecesF (zt 42))).getD (i - 2) [] else List.replicate 64 0 := by
    intro i hi
    have h1 := b5 i (by rw [hL1]; exact hi)
    have h2 := a5 i (by rw [hn]; exact hi)
    rw [m2] at h1
    rw [m1, newD_view' hi] at h2
    show (view (appK lk1 ((2 : Nat) : Int) 5 7 1 (zt 43))).getD i [] = _
    rw [h1]
    by_cases hc : 3 ≤ i ∧ i < 5
    · rw [if_pos (by omega), if_pos hc]
    · rw [if_neg (by omega), if_neg hc]; exact h2
  have hz : ∀ i, i < 8 → (view (newD 8)).getD i [] = List.replicate 64 0 := fun i hi => newD_view' hi
  have hrb : ∀ i, (rdB (newD 8) ((2 : Nat) : Int) 5).getD i [] = if i < 5 then List.replicate 64 0 else [] := fun i => by
    by_cases hi : i < 5
    · rw [if_pos hi, rdB_view (newD_ok 8 (by omega) (by omega)) rfl hi (by rw [hn]; omega), hz _ (by omega)]
    · rw [if_neg hi, rdB_out (by omega)]
  have hrb' : ∀ i, i < 5 → (rdB lk2 ((2 : Nat) : Int) 5).getD i [] = (view lk2).getD (2 + i) [] := fun i hi => rdB_view ok2 hd2 hi (by rw [hL2]; omega)
  have hr0 : rp (rdB (newD 8) ((2 : Nat) : Int) 5) 0 1 0 = ([], 0) := rp_no (fun x => by
    have := (pOk_iff.1 x.1).1
    rw [hrb 0, if_pos (by omega), zero_not] at this; cases this)
  have pl1 := piecesF_len (zt 42)
  have pl2 := piecesF_len (zt 43)
  rw [m1] at pl1
  rw [m2] at pl2
  have hP : pcs [zt 42, zt 43] = piecesF (zt 42) ++ piecesF (zt 43) := by rw [pcs_cons, pcs_cons]; simp [pcs]
  have hPl : (pcs [zt 42, zt 43]).length = 3 := by rw [hP, List.length_append, pl1, pl2]
  have hwhole : WholeTo 7 (rdB lk2 ((2 : Nat) : Int) 5) 0 (pcs [zt 42, zt 43]) := by
    intro i p hp
    have hi : i < 3 := by have := (List.getElem?_eq_some_iff.1 hp).1; omega
    rw [Nat.zero_add, hrb' i (by omega), hvw (2 + i) (by omega)]
    rw [hP] at hp
    by_cases h0 : i = 0
    · subst h0
      rw [if_neg (by omega), if_pos (by omega)]
      rw [List.getElem?_append_left (by omega)] at hp
      exact lblks_get hp
    · rw [if_pos (by omega), show 2 + i - 3 = i - 1 by omega]
      rw [List.getElem?_append_right (by omega), pl1] at hp
      rw [lblks_get hp]; congr 1; omega
  have hov : Over 0 7 (rdB (newD 8) ((2 : Nat) : Int) 5) (rdB lk2 ((2 : Nat) : Int) 5) 0 (pcs [zt 42, zt 43]) := by
    refine ⟨by rw [rdB_len, rdB_len], fun i hi => ?_, by omega, by omega, fun i p hp hi => ?_, fun i hi => ?_, pcs_48 _⟩
    · rw [rdB_len] at hi; rw [hrb i, if_pos hi]; exact low_zero 0
    · rw [hwhole i p hp]
      exact lain_seal (by omega) (by omega) (pcs_48 _ p (List.mem_of_getElem? hp))
    · rw [hPl] at hi
      rw [hrb i]
      by_cases h5 : i < 5
      · rw [if_pos h5, hrb' i h5, hvw (2 + i) (by omega), if_neg (by omega), if_neg (by omega)]
      · rw [if_neg h5, rdB_out (by omega)]
  have key := more_all (base := 1) (rb := rdB (newD 8) ((2 : Nat) : Int) 5) (rb' := rdB lk2 ((2 : Nat) : Int) 5) (by rw [rdB_len]; omega) (ts := [zt 42, zt 43]) (m := 2) (by rw [hr0]; exact hov) (fun i hi => by rw [hr0] at hi; cases hi) (by omega) (by
    intro t ht
    simp only [List.mem_cons, List.not_mem_nil, or_false] at ht
    rcases ht with rfl | rfl
    · rw [l1]; omega
    · rw [l2]; omega) (by simp) (by rw [hr0]; exact hwhole) (by rw [hr0]; show 0 + (pcs [zt 42, zt 43]).length ≤ _; rw [hPl, rdB_len]; omega)
  obtain ⟨j, j1, j2, j3⟩ := key
  have hj : j = 2 := by simp at j2; omega
  subst hj
  rw [hr0] at j3
  have hlow : ∀ i, i < (rdB lk2 ((2 : Nat) : Int) 5).length → Low 7 ((rdB lk2 ((2 : Nat) : Int) 5).getD i []) := fun i hi => by
    rw [rdB_len] at hi
    by_cases h3 : i < 3
    · obtain ⟨p, hp⟩ := getI (show i < (pcs [zt 42, zt 43]).length by omega)
      have := hwhole i p hp
      rw [Nat.zero_add] at this
      rw [this]
      exact low_seal (by omega) (by omega) (pcs_48 _ p (List.mem_of_getElem? hp))
    · rw [hov.olds i (by omega), hrb i, if_pos hi]; exact low_zero 7
  refine ⟨a1, ?_, b1, ?_, hd2, ?_, ?_⟩
  · exact (app_A0 (show appE (newD 8) 2 5 7 0 (zt 42) = 0 from a1)).trans (by rw [m1])
  · exact (app_A0 (show appE lk1 2 5 7 1 (zt 43) = 0 from b1)).trans (by rw [m2])
  · have := app_W (newD 8) 2 5 7 0 (zt 42)
    have h0 : (newD 8).W.length = 0 := rfl
    unfold lk1; omega
  · rw [show (rdB lk2 2 5) = rdB lk2 ((2 : Nat) : Int) 5 from rfl, rp_epoch (e := 7) (low_epochs hlow) (by omega), j3]
    show (([] : List (List UInt8)) ++ [zt 42, zt 43], 0 + (pcs [zt 42, zt 43]).length) = _
    rw [hPl]; rfl
theorem new_W8 : (newD 8).W.length ≤ 1000000 - 100 := Nat.zero_le _
theorem lk1_at {n lb lcap : Nat} {lcs : Array Value} {uw : Sl} (h : DkAt (appK (newD 8) 2 5 7 0 (zt 42)) n lb lcs lcap uw) : DkAt lk1 n lb lcs lcap uw := h
theorem lk2_at {n lb lcap : Nat} {lcs : Array Value} {uw : Sl} (h : DkAt (appK lk1 2 5 7 1 (zt 43)) n lb lcs lcap uw) : DkAt lk2 n lb lcs lcap uw := h
theorem lk1_eq : appK (newD 8) 2 5 7 0 (zt 42) = lk1 := rfl
theorem lk2_eq : appK lk1 2 5 7 1 (zt 43) = lk2 := rfl

end
end Go.Proofs.YtbblkgdejgoncaaDoor

/- From a law's walk ('it returns true, and nothing that was there has turned') to the row's own form, for a law with any parameters: one lemma for all laws. -/
namespace Go.Proofs.YtbblkgdejgoncaaDoor
open Go.ChangeShapes Go.WideShapes Go.ChangeAt Go.RowKit

theorem Tryd.ownK : ownKnob Tryd.prog.godebug = none := by kernel_rfl
theorem Tryd.laidOutK : laidOutB Tryd.prog = true := by kernel_rfl

theorem trodAll_below {H : Type} {enc : TypeId × Value → H} {P : Program} (hl : laidOutB P = true) {W W' : World} (hb : Below W.heap.size W W') :
    ∀ (ts : List TypeId) (vs : List Value) (ds : List (DataW H)) (ps : List MemPlace), (∀ t ∈ ts, P.readableRec t = true ∧ t < P.types.size) →
      DataW.TrodAll enc P W 0 (fun _ => true) true ts vs ds ps → DataW.TrodAll enc P W' 0 (fun b => decide (b < W.heap.size)) true ts vs ds ps
  | [], [], [], _, _, h => h
  | [], [], _ :: _, _, _, h => h.elim
  | [], _ :: _, [], _, _, h => h.elim
  | [], _ :: _, _ :: _, _, _, h => h.elim
  | _ :: _, [], [], _, _, h => h.elim
  | _ :: _, [], _ :: _, _, _, h => h.elim
  | _ :: _, _ :: _, [], _, _, h => h.elim
  | t :: ts, v :: vs, d :: ds, ps, hr, h => by
    obtain ⟨p, q, h1, h2, e⟩ := h
    have hlt : ∀ x ∈ p, x.block < W.heap.size := by
      obtain ⟨m, hm⟩ := h1
      exact DataW.trod_lt m _ _ _ hm
    exact ⟨p, q, Below.trod hl (hr t (by simp)).1 (hr t (by simp)).2 h1 hb hlt, trodAll_below hl hb ts vs ds q (fun t ht => hr t (by simp [ht])) h2, e⟩

theorem u64_word {a : Int} (h : (Lit.int .u64 a).wf = true) : ∃ n : Nat, a = (n : Int) ∧ U64 n := by
  have := bounds_u64 h
  exact ⟨a.toNat, by omega, by unfold U64; omega⟩

/-- What a law's walk must show: called with whatever can be read at its parameters' types it returns true and writes nothing that was there. -/
def LawWalk (f : FuncId) (F : Func) : Prop :=
  ∀ (H : Type) (enc : TypeId × Value → H) (W : World) (base : Nat) (args : Array Value) (ds : List (DataW H)) (p : List MemPlace),
    (∀ (j : Nat) t v, F.params[j]? = some t → args[j]? = some v → Value.okWide Tryd.prog W .any base t v) →
    DataW.TrodAll enc Tryd.prog W 0 (fun _ => true) true F.params.toList args.toList ds p →
    Calls Tryd.prog f args W fun e W' => e = .returned (.bool true) ∧ Below W.heap.size W W'

theorem trodAll_len {H : Type} {enc : TypeId × Value → H} {P : Program} {w : World} {base : Nat} {spare : Nat → Bool} {held : Bool} :
    ∀ (ts : List TypeId) (vs : List Value) (ds : List (DataW H)) (ps : List MemPlace), DataW.TrodAll enc P w base spare held ts vs ds ps → ds.length = ts.length
  | [], [], [], _, _ => rfl
  | [], [], _ :: _, _, h => h.elim
  | [], _ :: _, [], _, h => h.elim
  | [], _ :: _, _ :: _, _, h => h.elim
  | _ :: _, [], [], _, h => h.elim
  | _ :: _, [], _ :: _, _, h => h.elim
  | _ :: _, _ :: _, [], _, h => h.elim
  | _ :: ts, _ :: vs, _ :: ds, _, h => by
    obtain ⟨p, q, _, h2, _⟩ := h
    simp [trodAll_len ts vs ds q h2]

set_option maxRecDepth 100000 in
theorem law_lifted {f : FuncId} {F : Func} {s : ChangeSpec} (os : Os) (started : os.Started) (H : Type) (enc : TypeId × Value → H)
    (hfn : Tryd.prog.funcs[f]? = some F) (hni : Tryd.checked.prog.inits.idxOf? f = none)
    (witness : ∃ (w : World) (tape : Tape) (i : Input), w.os = os ∧ (w.forCall tape i).Shaped Tryd.checked.prog ∧ i.vars = [] ∧ Input.okWide Tryd.checked.prog (w.forCall tape i) .any w.heap.size f i ∧
      s.pre6 enc Tryd.checked.prog F [] false (w.forCall tape i).memory i.args ∧ Assume.holds {} Tryd.checked.prog (lone (Frame.enter Tryd.checked.prog f i.args .normal) [] (w.forCall tape i)))
    (hvars : s.vars = []) (hrt : F.resultTypes.toList = [4]) (hrs : F.resultTypes.size = 1)
    (hread : ∀ t ∈ F.params.toList, Tryd.prog.readableRec t = true ∧ t < Tryd.prog.types.size)
    (hspec : ∀ ds : List (DataW H), ds.length = F.params.toList.length → s.fn H (ds ++ []) = { results := [.lit (.bool true)], args := ds })
    (walk : LawWalk f F) :
    ReturnsInHanded {} Tryd.checked os f .any (s.pre6 enc Tryd.prog F [] false) (s.post enc Tryd.prog F false true false false) := by
  refine returnsInHanded_of_change (C := Tryd.checked) Tryd.ownK started hni hfn witness ?_
  intro W base args ds gs before hval hW _ _
  have hW' := hW
  obtain ⟨p, q, hA, hV, rfl, hfz, hnd⟩ := hW
  rw [hvars] at hV
  obtain ⟨rfl, rfl⟩ := trodVars_none hV
  have hlen := trodAll_len _ _ _ _ hA
  refine (walk H enc W base args ds p hval hA).mono fun e W' ⟨he, hb⟩ => ?_
  subst he
  refine ⟨_, rfl, ds, [], _, [], p, [], hW', ?_, ?_, ?_, hb.frame _, fun h => by cases h⟩
  rotate_left
  · rw [hspec ds hlen]
    exact trodAll_below Tryd.laidOutK hb _ _ _ _ hread hA
  · rw [hvars, hspec ds hlen]
    rfl
  · rw [hspec ds hlen, hrt, hrs]
    exact trodAll_mk1 (shut_bool Tryd.underlying4 _)

end Go.Proofs.YtbblkgdejgoncaaDoor

/- What can be read of arguments: integers, texts, structs of such. -/
set_option linter.unusedSimpArgs false
set_option linter.unusedVariables false
namespace Go.Proofs.YtbblkgdejgoncaaDoor
open Go.ChangeShapes Go.WideShapes Go.ChangeAt Go.RowKit

section
variable {P : Program} {w : World} {r : Reach} {b : Nat}
theorem okc_int {u : TypeId} {q : IntKind} {v : Value} (h : Cell.okWide P w r b u v) (hu : P.underlying u = some (.int q)) : ∃ n : Int, v = .int q n ∧ q.min ≤ n ∧ n ≤ q.max := by
  unfold Cell.okWide at h
  rw [hu] at h
  have h : Cell.ok P w r b u v := by cases v <;> exact h
  unfold Cell.ok at h
  rw [hu] at h
  cases v <;> first | exact False.elim h | skip
  obtain ⟨rfl, h1, h2⟩ := h
  exact ⟨_, rfl, h1, h2⟩
theorem okc_str {u : TypeId} {v : Value} (h : Cell.okWide P w r b u v) (hu : P.underlying u = some .string) : ∃ l : List UInt8, v = .string (bs l) ∧ l.length ≤ 9223372036854775807 := by
  unfold Cell.okWide at h
  rw [hu] at h
  have h : Cell.ok P w r b u v := by cases v <;> exact h
  unfold Cell.ok at h
  rw [hu] at h
  match v, h with
  | .string s, h =>
    have h : (s.size : Int) ≤ IntKind.i64.max := h
    rw [IntKind.max_i64] at h
    refine ⟨s.data.toList, rfl, ?_⟩
    have : s.data.toList.length = s.size := by simp
    omega
theorem okc_bool {u : TypeId} {v : Value} (h : Cell.okWide P w r b u v) (hu : P.underlying u = some .bool) : ∃ t : Bool, v = .bool t := by
  unfold Cell.okWide at h
  rw [hu] at h
  have h : Cell.ok P w r b u v := by cases v <;> exact h
  unfold Cell.ok at h
  rw [hu] at h
  cases v <;> first | exact False.elim h | skip
  exact ⟨_, rfl⟩
theorem okv_cell {t : TypeId} {d : TypeDesc} {v : Value} (h : Value.okWide P w r b t v) (hu : P.underlying t = some d) (hd : isAggD d = false) : Cell.okWide P w r b t v := by
  unfold Value.okWide at h
  rw [hu] at h
  cases d <;> first | exact h | exact Bool.noConfusion hd
theorem okv_agg {t : TypeId} {d : TypeDesc} {v : Value} {ts : List TypeId} {s : Nat} (h : Value.okWide P w r b t v) (hu : P.underlying t = some d) (hd : isAggD d = true) (hts : P.cellTypes P.depth t = some ts) (hs : P.cellsOf t = s) (hl : ts.length = s) :
    ∃ cs : List Value, v = .agg cs.toArray ∧ cs.length = s ∧ ∀ (i : Nat) (v : Value) (u : TypeId), cs[i]? = some v → ts[i]? = some u → Cell.okWide P w r b u v := by
  unfold Value.okWide at h
  rw [hu] at h
  have h : ∃ cs, v = .agg cs ∧ cs.size = P.cellsOf t ∧ Row.okWide P w r b t cs := by cases d <;> first | exact h | exact Bool.noConfusion hd
  obtain ⟨cs, rfl, hsz, ts', hts', _, hall⟩ := h
  rw [hts] at hts'
  cases hts'
  refine ⟨cs.toList, rfl, by simp; omega, fun i v u hv hu => ?_⟩
  obtain ⟨u', hu', hc⟩ := hall i v (by simpa using hv)
  have hi : i < ts.length := by
    rcases Nat.lt_or_ge i ts.length with h | h
    · exact h
    · rw [List.getElem?_eq_none h] at hu; cases hu
  rw [Nat.mod_eq_of_lt hi, hu] at hu'
  cases hu'
  exact hc
theorem bytes_of : ∀ rest : List Value, (∀ v ∈ rest, ∃ n : Int, v = .int .u8 n ∧ IntKind.u8.min ≤ n ∧ n ≤ IntKind.u8.max) → ∃ d, rest = bcells d
  | [], _ => ⟨[], rfl⟩
  | v :: rest, h => by
    obtain ⟨n, rfl, h1, h2⟩ := h v (by simp)
    obtain ⟨d, rfl⟩ := bytes_of rest (fun v hv => h v (by simp [hv]))
    have h1' : 0 ≤ n := h1
    have h2' : n ≤ 255 := h2
    refine ⟨UInt8.ofNat n.toNat :: d, ?_⟩
    simp only [bcells, List.map_cons]
    congr 2
    simp
    omega
end
set_option maxRecDepth 100000 in
/-- A law's walk by a contract over its arguments, for what can be read at their types. -/
theorem lawwalk_of {f : FuncId} {F : Func} (h : ∀ (W : World) (base : Nat) (args : Array Value), args.size = F.params.size → (∀ (j : Nat) t v, F.params[j]? = some t → args[j]? = some v → Value.okWide Tryd.prog W .any base t v) → ∃ A, Has W A [] ∧ Ct Tryd.prog f args.toList A [] (fun v post => v = .bool true ∧ post = [])) : LawWalk f F := by
  intro H enc W base args ds p hval hA
  have hlen : ∀ (ts : List TypeId) (vs : List Value) (ds : List (DataW H)) (ps : List MemPlace), DataW.TrodAll enc Tryd.prog W 0 (fun _ => true) true ts vs ds ps → vs.length = ts.length := by
    intro ts
    induction ts with
    | nil =>
      intro vs ds ps h
      cases vs with
      | nil => rfl
      | cons v vs => cases ds <;> exact h.elim
    | cons t ts ih =>
      intro vs ds ps h
      cases vs with
      | nil => cases ds <;> exact h.elim
      | cons v vs =>
        cases ds with
        | nil => exact h.elim
        | cons d ds =>
          obtain ⟨p, q, _, h2, _⟩ := h
          simp [ih vs ds q h2]
  have hl := hlen _ _ _ _ hA
  obtain ⟨A, hw, hc⟩ := h W base args hl hval
  have := below_of_ct hc W hw
  rwa [Array.toArray_toList] at this
end Go.Proofs.YtbblkgdejgoncaaDoor

/- What can be read of arguments, on: slices of whatever, and their elements. -/
set_option linter.unusedSimpArgs false
set_option linter.unusedVariables false
namespace Go.Proofs.YtbblkgdejgoncaaDoor
open Go.ChangeShapes Go.WideShapes Go.ChangeAt Go.RowKit Go.Deep

/-- It can be read, at a type. -/
def Reads (P : Program) (W : World) (t : TypeId) (cs : List Value) : Prop :=
  ∃ (H : Type) (enc : TypeId × Value → H) (n : Nat) (x : DataW H × List MemPlace), DataW.trod enc P W 0 (fun _ => true) true n t cs = some x

section
variable {P : Program} {W : World}
theorem reads_int {t : TypeId} {q : IntKind} {cs : List Value} (h : Reads P W t cs) (ht : P.underlying t = some (.int q)) : ∃ n : Int, cs = [.int q n] ∧ q.min ≤ n ∧ n ≤ q.max := by
  obtain ⟨H, enc, n, x, h⟩ := h
  obtain ⟨k, rfl, _, hw⟩ := DataW.trod_int ht h
  simp [Lit.wf] at hw
  exact ⟨k, rfl, hw.1, hw.2⟩
theorem reads_str {t : TypeId} {cs : List Value} (h : Reads P W t cs) (ht : P.underlying t = some .string) : ∃ l : List UInt8, cs = [.string (bs l)] ∧ l.length ≤ 9223372036854775807 := by
  obtain ⟨H, enc, n, x, h⟩ := h
  obtain ⟨s, rfl, _, hs⟩ := DataW.trod_string ht h
  refine ⟨s.data.toList, rfl, ?_⟩
  have : s.data.toList.length = s.size := by simp
  unfold maxLen at hs
  omega
theorem reads_bool {t : TypeId} {cs : List Value} (h : Reads P W t cs) (ht : P.underlying t = some .bool) : ∃ b : Bool, cs = [.bool b] := by
  obtain ⟨H, enc, n, x, h⟩ := h
  obtain ⟨b, rfl, _⟩ := DataW.trod_bool ht h
  exact ⟨b, rfl⟩
theorem reads_struct {t : TypeId} {fs : Array Field} {cs : List Value} (h : Reads P W t cs) (ht : P.underlying t = some (.struct fs)) : cs.length = P.cellsOf t ∧ ∀ (i : Nat) (f : Field), fs[i]? = some f → Reads P W f.type ((cs.drop f.offset).take (P.cellsOf f.type)) := by
  obtain ⟨H, enc, n, x, h⟩ := h
  obtain ⟨xs, k, _, _, hl, hx, hf⟩ := DataW.trod_struct ht h
  refine ⟨hl, fun i f hi => ?_⟩
  have hlt : i < xs.length := by rw [hx]; exact (Array.getElem?_eq_some_iff.1 hi).1
  exact ⟨H, enc, k, xs[i], by rw [hf i f hi, List.getElem?_eq_getElem hlt]⟩
/-- A field, by its place. -/
theorem reads_field {t : TypeId} {fs : Array Field} {cs vs : List Value} {s : Nat} (h : Reads P W t cs) (ht : P.underlying t = some (.struct fs)) (i : Nat) (f : Field) (hi : fs[i]? = some f) (hs : P.cellsOf f.type = s) (hv : (cs.drop f.offset).take s = vs) : Reads P W f.type vs := by
  have := (reads_struct h ht).2 i f hi
  rwa [hs, hv] at this

theorem reads_slice {t e : TypeId} {cs : List Value} {sz b : Nat} (h : Reads P W t cs) (ht : P.underlying t = some (.slice e)) (hsz : P.cellsOf e = sz) {v : Value} (hv : cs = [v]) (hok : Cell.okWide P W .any b t v) {α : Type} [Inhabited α] (f : α → List Value) (hf : ∀ a, (f a).length = sz) (good : α → Prop)
    (hel : ∀ es, es.length = sz → Reads P W e es → ∃ a, es = f a ∧ good a) :
    ∃ (ob : Option Nat) (off cap : Nat) (c : Array Value) (T : TypeId) (fr : Nat × Nat) (l : List α), v = sv ob off l.length cap ∧ Sees sz ob off cap c (l.flatMap f) l.length ∧ (∀ a ∈ l, good a) ∧ ∀ b, ob = some b → W.heap[b]? = some (.cells c T fr) := by
  obtain ⟨H, enc, n, x, h⟩ := h
  subst hv
  rcases open_slice ht h with ⟨h0, _⟩ | ⟨a, len, cap, m, n, D, Pl, hcs, _, hl, hm, hmm, _, hx⟩
  · simp at h0
    subst h0
    exact ⟨none, 0, 0, #[], 0, (0, 0), [], rfl, sees_nil, by simp, fun b hb => by cases hb⟩
  · simp at hcs
    subst hcs
    simp at hmm
    subst hmm
    unfold Cell.okWide at hok
    rw [ht] at hok
    have hok : Cell.ok P W .any b t (.slice (some a) len m) := hok
    unfold Cell.ok at hok
    rw [ht] at hok
    obtain ⟨_, _, _, hsp, row, cells, hsh, _⟩ := hok
    obtain ⟨bb, off, spot⟩ := a
    simp only at hsp hsh
    subst hsp
    obtain ⟨c, T, fr, hb⟩ : ∃ c T fr, W.heap[bb]? = some (.cells c T fr) := by
      unfold World.shape? at hsh
      split at hsh
      · rename_i c e fr hb; exact ⟨c, e, fr, hb⟩
      · cases hsh
    have hall : ∀ i, i < len → ∃ a : α, good a ∧ ∀ j, j < sz → c[off + i * sz + j]? = (f a)[j]? := fun i hi => by
      obtain ⟨es, h1, h2⟩ := hx i (by omega)
      rw [hsz] at h1
      obtain ⟨_, hlen, hc⟩ := World.cells?_some h1
      obtain ⟨a, rfl, hg⟩ := hel es hlen ⟨H, enc, n, _, h2⟩
      refine ⟨a, hg, fun j hj => ?_⟩
      have := hc j hj
      rw [addr_add, addr_add, cell_of_row W bb _ c T fr hb] at this
      exact this
    obtain ⟨F, hF⟩ := choose_lt hall
    have hll : ((List.range len).map F).length = len := by simp
    refine ⟨some bb, off, m, c, T, fr, (List.range len).map F, by rw [hll]; rfl, ⟨by rw [flat_len f hf, hll], by rw [hll]; exact hl, by unfold maxLen at hm; omega, ?_, fun h => by cases h⟩, fun a ha => ?_, fun b hb' => by cases hb'; exact hb⟩
    · rw [hll]
      apply List.ext_getElem?
      intro k
      have hfl : (((List.range len).map F).flatMap f).length = len * sz := by rw [flat_len f hf, hll]
      rcases Nat.lt_or_ge k (len * sz) with hk | hk
      · have hz : 0 < sz := by
          rcases Nat.eq_zero_or_pos sz with h0 | h0
          · subst h0; omega
          · exact h0
        have hi : k / sz < len := Nat.div_lt_of_lt_mul (by rw [Nat.mul_comm]; exact hk)
        have hj : k % sz < sz := Nat.mod_lt _ hz
        have hkk : k = k / sz * sz + k % sz := by have := Nat.div_add_mod k sz; rw [Nat.mul_comm] at this; omega
        have h1 := (hF (k / sz) hi).2 (k % sz) hj
        have h2 := flat_at f hf ((List.range len).map F) (k / sz) (F (k / sz)) (by simp [hi])
        have h3 : (((List.range len).map F).flatMap f)[k]? = (f (F (k / sz)))[k % sz]? := by
          rw [← h2, List.getElem?_take, if_pos hj, List.getElem?_drop, ← hkk]
        rw [h3, ← h1, List.getElem?_take, if_pos hk, List.getElem?_drop]
        have e : off + k / sz * sz + k % sz = off + k := by omega
        rw [e]
        simp
      · rw [List.getElem?_eq_none (by rw [List.length_take]; omega), List.getElem?_eq_none (by omega)]
    · simp only [List.mem_map, List.mem_range] at ha
      obtain ⟨i, hi, rfl⟩ := ha
      exact (hF i hi).1
end

/-- A block of a slice's, if any, is there. -/
theorem has_cons {W : World} {A : List (Option Nat × Obj)} {ob : Option Nat} {o : Obj} (h : Has W A []) (ho : ∀ b, ob = some b → W.heap[b]? = some o) : Has W ((ob, o) :: A) [] :=
  ⟨fun b x hm => by
    rcases List.mem_cons.1 hm with e | hm
    · injection e with e1 e2
      subst e2
      exact ho b e1.symm
    · exact h.liesA b x hm, .nil, fun _ _ h => (by cases h), fun _ _ _ h => (by cases h)⟩

set_option maxRecDepth 100000 in
/-- A law's walk by a contract over its arguments, for what can be read at their types. -/
theorem lawwalk_reads {f : FuncId} {F : Func} (h : ∀ (W : World) (base : Nat) (args : Array Value), args.size = F.params.size → (∀ (j : Nat) t v, F.params[j]? = some t → args[j]? = some v → Value.okWide Tryd.prog W .any base t v ∧ Reads Tryd.prog W t v.cells.toList) → ∃ A, Has W A [] ∧ Ct Tryd.prog f args.toList A [] (fun v post => v = .bool true ∧ post = [])) : LawWalk f F := by
  intro H enc W base args ds p hval hA
  have hlen : ∀ (ts : List TypeId) (vs : List Value) (ds : List (DataW H)) (ps : List MemPlace), DataW.TrodAll enc Tryd.prog W 0 (fun _ => true) true ts vs ds ps → vs.length = ts.length ∧ ∀ (j : Nat) t v, ts[j]? = some t → vs[j]? = some v → Reads Tryd.prog W t v.cells.toList := by
    intro ts
    induction ts with
    | nil =>
      intro vs ds ps h
      cases vs with
      | nil => exact ⟨rfl, fun j t v ht => by simp at ht⟩
      | cons v vs => cases ds <;> exact h.elim
    | cons t ts ih =>
      intro vs ds ps h
      cases vs with
      | nil => cases ds <;> exact h.elim
      | cons v vs =>
        cases ds with
        | nil => exact h.elim
        | cons d ds =>
          obtain ⟨p, q, h1, h2, _⟩ := h
          obtain ⟨i1, i2⟩ := ih vs ds q h2
          refine ⟨by simp [i1], fun j t' v' ht hv => ?_⟩
          cases j with
          | zero =>
            simp at ht hv
            subst ht hv
            obtain ⟨m, hm⟩ := h1
            exact ⟨H, enc, m, _, by simpa using hm⟩
          | succ j => exact i2 j t' v' (by simpa using ht) (by simpa using hv)
  have hl := hlen _ _ _ _ hA
  obtain ⟨A, hw, hc⟩ := h W base args (by simpa using hl.1) (fun j t v ht hv => ⟨hval j t v ht hv, hl.2 j t v (by simpa using ht) (by simpa using hv)⟩)
  have := below_of_ct hc W hw
  rwa [Array.toArray_toList] at this
end Go.Proofs.YtbblkgdejgoncaaDoor
