/- A range over a function: the loop's record, its rounds, the mark that it leaves. No program in sight. -/
import Derived.Test.YtkekkalgebgokaaDoorG9
import Derived.RangeFuncRecord
set_option linter.unusedSimpArgs false
set_option linter.unusedVariables false
namespace Go.Proofs.YtkekkalgebgokaaDoor
open Go Go.RowKit

theorem Mem.putObj {w0 w : World} {A l1 l2 : List (Option Nat × Obj)} {S : List Nat} {r : Nat} {o : Obj} (h : Mem w0 A S (l1 ++ (some r, o) :: l2) w) (o' : Obj) : Mem w0 A S (l1 ++ (some r, o') :: l2) (w.putObj r o') :=
  h.put rfl rfl rfl rfl (by simp) (World.putObj_heap_same (h.has.lt (List.mem_append_right A (by simp : (some r, o) ∈ l1 ++ (some r, o) :: l2)))) (fun k hk => World.putObj_heap_other hk)

/-- A ROUND's CONTRACT: begun where these blocks lie, it hands a value back to whoever called yield. -/
def Rd (P : Program) (l : Nat) (f : FuncId) (tmps : Array Value) (assign body : Code) (A L : List (Option Nat × Obj)) (R : Value → List (Option Nat × Obj) → Prop) : Prop :=
  ∀ w0, Has w0 A L → ∀ (cl : Frame) cs, ∃ v post w', R v post ∧ Mem w0 [] (hkeys L) post w' ∧ Steps P (lone (Frame.round l f tmps assign body .normal) (cl :: cs) w0) (lone (cl.finish v) cs w')

def GoesR (c : Cx) (l : Nat) (todo : List Item) (a : Act) (w : World) : Prop :=
  ∀ (b : Frame), b.fn = c.f → b.kind = .normal → b.roundOf = some l → ∀ (cl : Frame) cs, ∃ v post w', c.R v post ∧ Mem c.w0 [] c.S post w' ∧ Steps c.P (lone (b.atR a todo) (cl :: cs) w) (lone (cl.finish v) cs w')
def GR (c : Cx) (l n : Nat) (env : List (Nat × Value)) (L : List (Option Nat × Obj)) (todo : List Item) : Prop :=
  ∀ a w, Knows c.ds n env a → Mem c.w0 c.A c.S L w → GoesR c l todo a w

section
variable {c : Cx} {l n : Nat} {env : List (Nat × Value)} {L : List (Option Nat × Obj)} {k : List Item}
theorem goesR_of {todo todo' : List Item} {a a' : Act} {w w' : World} (hs : ∀ (b : Frame) cs, step c.P (lone (b.atR a todo) cs w) = .next (lone (b.atR a' todo') cs w')) (h : GoesR c l todo' a' w') : GoesR c l todo a w :=
  fun b hb hk hr cl cs => let ⟨v, p, w2, hR, hm, hst⟩ := h b hb hk hr cl cs; ⟨v, p, w2, hR, hm, .head (hs b (cl :: cs)) hst⟩
theorem GR_skip (h : GR c l n env L k) : GR c l n env L (.code .skip :: k) := fun a w hk hm => goesR_of (fun _ _ => stepR_skip) (h a w hk hm)
theorem GR_label {t : Nat} (h : GR c l n env L k) : GR c l n env L (.code (.label t) :: k) := fun a w hk hm => goesR_of (fun _ _ => stepR_label) (h a w hk hm)
theorem GR_inBlock {id : Nat} (h : GR c l n env L k) : GR c l n env L (.inBlock id :: k) := fun a w hk hm => goesR_of (fun _ _ => stepR_inBlock) (h a w hk hm)
theorem GR_seq {x y : Code} (h : GR c l n env L (.code x :: .code y :: k)) : GR c l n env L (.code (.seq x y) :: k) := fun a w hk hm => goesR_of (fun _ _ => stepR_seq) (h a w hk hm)
theorem GR_block {id : Nat} {x : Code} (h : GR c l n env L (.code x :: .inBlock id :: k)) : GR c l n env L (.code (.block id x) :: k) := fun a w hk hm => goesR_of (fun _ _ => stepR_block) (h a w hk hm)
theorem GR_exit {id : Nat} {k' : List Item} (he : exitTo id k = some k') (h : GR c l n env L k') : GR c l n env L (.code (.exit id) :: k) := fun a w hk hm => goesR_of (fun _ _ => stepR_exit he) (h a w hk hm)
theorem GR_region {id : Nat} {ops : Array Oper} {r : List Nat} (hl : List.range ops.size = r) (h : GR c l n env L (.inRegion ops r :: k)) : GR c l n env L (.code (.region id ops false) :: k) :=
  fun a w hk hm => goesR_of (fun _ _ => stepR_region) (by rw [hl]; exact h a w hk hm)
theorem GR_done {ops : Array Oper} (h : GR c l n env L k) : GR c l n env L (.inRegion ops [] :: k) := fun a w hk hm => goesR_of (fun _ _ => stepR_region_end) (h a w hk hm)
theorem GR_begin {r : Loop} {l1 l2 L' : List (Option Nat × Obj)} (hL : L = l1 ++ (some l, .loop r) :: l2) (hr : r.state = .ready) (hL' : l1 ++ (some l, .loop { r with state := .busy }) :: l2 = L') (h : GR c l n env L' k) : GR c l n env L (.beginRound :: k) := by
  intro a w hk hm b hb hkind hro cl cs
  subst hL hL'
  have hl : w.heap[l]? = some (.loop r) := hm.lies (by simp)
  obtain ⟨v, p, w2, hR, hm2, hst⟩ := h a _ hk (hm.putObj (.loop { r with state := .busy })) b hb hkind hro cl cs
  exact ⟨v, p, w2, hR, hm2, .head (stepR_beginRound hro (run_beginRound hl hr)) hst⟩
/-- A round that falls off its end. -/
theorem GR_end {r : Loop} {l1 l2 L' post M : List (Option Nat × Obj)} (hL : L = l1 ++ (some l, .loop r) :: l2) (hL' : l1 ++ (some l, .loop { r with state := .ready, pending := none }) :: l2 = L') (is : List Nat) (ht : tk is L' = some (post, M)) (hR : c.R (.bool true) post) : GR c l n env L [] := by
  intro a w hk hm b hb hkind hro cl cs
  subst hL hL'
  have hl : w.heap[l]? = some (.loop r) := hm.lies (by simp)
  have h1 := hm.putObj (.loop { r with state := .ready, pending := none })
  exact ⟨.bool true, post, _, hR, (h1.sub (tk_perm ht)).dropA, .one (stepR_round_end hro hkind (run_endRound none hl))⟩

theorem goesR_op {ops : Array Oper} {i : Nat} {rest : List Nat} {o : Oper} {a : Act} {w : World} (ho : ops[i]? = some o) (hnd : ∀ x, o.op ≠ .defer x) (hw : Region.wanted o (yielded ops a.tmps) = true)
    (h : o.upon c.P a (fun a' w' => GoesR c l (.inRegion ops rest :: k) a' w') (fun _ _ _ => False) ((execOp a.eval o).run c.P w)) : GoesR c l (.inRegion ops (i :: rest) :: k) a w := by
  intro b hb hkind hro cl cs
  have hg := stepGR_op (P := c.P) (b := b) (k := k) (cs := cl :: cs) (w := w) (rest := rest) ho hw
  rw [Oper.semAt_eq _ _ _ hnd] at hg
  have hfin : ∀ v, (b.atR a (.inRegion ops (i :: rest) :: k)).finish v = b.atR (a.put o.dst v) (.inRegion ops rest :: k) := by
    intro v; rw [Frame.finish_atR, ho]; rfl
  unfold Oper.upon at h
  split at h
  · rename_i v w' hr
    obtain ⟨v', p, w2, hR, hm, hst⟩ := h b hb hkind hro cl cs
    refine ⟨v', p, w2, hR, hm, .head (step_lone_go ?_) hst⟩
    rw [hg, ← hfin]; simp [stepG.apply, hr]
  · rename_i w' hr
    obtain ⟨v', p, w2, hR, hm, hst⟩ := h b hb hkind hro cl cs
    refine ⟨v', p, w2, hR, hm, .head (step_lone_go ?_) hst⟩
    rw [hg, ← hfin]; simp [stepG.apply, hr]
  · rename_i d w' hr
    obtain ⟨v', p, w2, hR, hm, hst⟩ := h b hb hkind hro cl cs
    refine ⟨v', p, w2, hR, hm, .head (step_lone_go ?_) hst⟩
    have : ({ b.atR a (.inRegion ops (i :: rest) :: k) with defers := d :: a.defers } : Frame).finish undef =
        b.atR ({ a with defers := d :: a.defers }.put o.dst undef) (.inRegion ops rest :: k) := by
      have := Frame.finish_atR b { a with defers := d :: a.defers } ops i rest k undef
      rw [ho] at this; exact this
    rw [hg]; simp only [stepG.apply, Sem.runT_eq, hr, GStep.bare_after]
    exact congrArg (fun fr => GStep.go { frame := fr, callers := cl :: cs, status := .running, dying := none } w') this
  · rename_i f args w' hr
    obtain ⟨e, w'', fr, hR, hsteps, _, hleave⟩ := h (b.atR a (.inRegion ops (i :: rest) :: k) :: cl :: cs)
    have henter : step c.P (lone (b.atR a (.inRegion ops (i :: rest) :: k)) (cl :: cs) w) =
        .next (lone (Frame.enter c.P f args .normal) (b.atR a (.inRegion ops (i :: rest) :: k) :: cl :: cs) w') :=
      step_lone_go (by rw [hg]; simp [stepG.apply, hr, Frame.atR])
    cases e with
    | returned v =>
      obtain ⟨v', p, w2, hR', hm, hst⟩ := hR b hb hkind hro cl cs
      refine ⟨v', p, w2, hR', hm, .head henter (hsteps.trans (.head ?_ hst))⟩
      rw [← hfin]; exact step_leave_returned hleave
    | panicked chain => exact hR.elim
    | outgrown => obtain ⟨_, _, hR⟩ := hR; exact hR.elim
  · rename_i row args w' hr
    obtain ⟨v, w'', hR, hsteps⟩ := h (b.atR a (.inRegion ops (i :: rest) :: k)) (cl :: cs)
    have henter : step c.P (lone (b.atR a (.inRegion ops (i :: rest) :: k)) (cl :: cs) w) =
        .next (lone (Frame.ofRow c.P row args .normal) (b.atR a (.inRegion ops (i :: rest) :: k) :: cl :: cs) w') :=
      step_lone_go (by rw [hg]; simp [stepG.apply, hr, Frame.atR])
    obtain ⟨v', p, w2, hR', hm, hst⟩ := hR b hb hkind hro cl cs
    refine ⟨v', p, w2, hR', hm, .head henter (hsteps.trans ?_)⟩
    rw [hfin]; exact hst
  · exact h.elim
  · exact h.elim
theorem GR_val {ops : Array Oper} {i : Nat} {rest : List Nat} {o : Oper} {d : Nat} {v : Value} (ho : ops[i]? = some o) (hd : o.dst = some d) (hn : Nat.blt d n = true) (hg : fguard ops env o = some true) (hnd : ∀ x, o.op ≠ .defer x)
    (hv : Val c n env L o v) (h : GR c l n ((d, v) :: env) L (.inRegion ops rest :: k)) : GR c l n env L (.inRegion ops (i :: rest) :: k) := by
  intro a w hk hm
  refine goesR_op ho hnd (wanted_of hk hg) ?_
  rw [hv a w hk hm, Oper.upon_value, hd]
  exact h _ w (hk.put hn v) hm
theorem GR_new {ops : Array Oper} {i : Nat} {rest : List Nat} {o : Oper} {d : Nat} {mk : Nat → Value} {ob : Obj} (ho : ops[i]? = some o) (hd : o.dst = some d) (hn : Nat.blt d n = true) (hg : fguard ops env o = some true) (hnd : ∀ x, o.op ≠ .defer x)
    (hv : New c n env L o mk ob) (h : ∀ b, GR c l n ((d, mk b) :: env) ((some b, ob) :: L) (.inRegion ops rest :: k)) : GR c l n env L (.inRegion ops (i :: rest) :: k) := by
  intro a w hk hm
  refine goesR_op ho hnd (wanted_of hk hg) ?_
  rw [hv a w hk hm, Oper.upon_value, hd]
  exact h w.heap.size _ _ (hk.put hn _) (hm.alloc ob)
theorem GR_put {ops : Array Oper} {i : Nat} {rest : List Nat} {o : Oper} {b : Nat} {old ob : Obj} {l1 l2 L' : List (Option Nat × Obj)} (ho : ops[i]? = some o) (hd : o.dst = none) (hg : fguard ops env o = some true) (hnd : ∀ x, o.op ≠ .defer x)
    (hL : L = l1 ++ (some b, old) :: l2) (hv : Put c n env L o b ob) (hL' : l1 ++ (some b, ob) :: l2 = L') (h : GR c l n env L' (.inRegion ops rest :: k)) : GR c l n env L (.inRegion ops (i :: rest) :: k) := by
  intro a w hk hm
  obtain ⟨w', hr, h1, h2, h3, h4, h5, h6⟩ := hv a w hk hm
  refine goesR_op ho hnd (wanted_of hk hg) ?_
  rw [hr, Oper.upon_skip, hd]
  subst hL'
  exact h _ w' (hk.putNone undef) (hm.put hL h1 h2 h3 h4 h5 h6)
theorem GR_append {ops : Array Oper} {i : Nat} {rest : List Nat} {o : Oper} {d m nn sz bt : Nat} {x y : Operand} {t u e ty : TypeId} {ds : TypeDesc} {ps : String} {es : Array Edge} {gd : Option (Nat × Bool)} {ti : TypeInfo} {z xv : Value} {s : Sl} {xs news : List Value} {l1 l2 : List (Option Nat × Obj)}
    (ho : ops[i]? = some o) (hop : o = ⟨some d, .call ⟨.builtin .append, #[x, y], #[t, u]⟩, ty, ps, es, gd⟩) (hn : Nat.blt d n = true) (hg : fguard ops env o = some true)
    (ht : c.P.underlying t = some (.slice e)) (hu : c.P.underlying u = some ds) (hds : ds = .string ∨ ∃ e', ds = .slice e') (hi : c.P.info? e = some ti) (hz : ti.zero = some z) (hsz : ti.size = sz) (hzs : z.cells.size = sz) (hbt : ti.bytes = bt)
    (hx : fev env x = some (s.v nn)) (hy : fev env y = some xv) (hown : Own sz s xs nn) (hL : L = l1 ++ (s.ob, .cells s.cs e s.fz) :: l2) (hS : ∀ w, Has w c.A L → Src c.P w sz xv m news)
    (h63 : nn + m ≤ 9223372036854775807) (hbytes : (nn + m) * bt ≤ 140737488355328)
    (h : ∀ s' : Sl, Own sz s' (xs ++ news) (nn + m) → More s s' → GR c l n ((d, s'.v (nn + m)) :: env) (l1 ++ (s'.ob, .cells s'.cs e s'.fz) :: l2) (.inRegion ops rest :: k)) : GR c l n env L (.inRegion ops (i :: rest) :: k) := by
  intro a w hk hm
  subst hop
  refine goesR_op ho (fun _ h => by cases h) (wanted_of hk hg) ?_
  obtain ⟨s', w', hr, h1, h2, h3, h4, h5⟩ := run_append_any (P := c.P) w t u ty e ds ti z sz ht hu hds hi hz hsz hzs s xs nn hown (fun b hb => hm.lies (by rw [hL, ← hb]; simp)) xv m news (hS w hm.has) h63 (by rw [hbt]; exact hbytes)
  have hrun : (execOp a.eval ⟨some d, .call ⟨.builtin .append, #[x, y], #[t, u]⟩, ty, ps, es, gd⟩).run c.P w = .ok (.value (s'.v (nn + m))) w' := by
    unfold execOp
    simp only [resolve, invoke, builtin, Sem.run_bind, Sem.run_pure, Result.andThen_ok, List.map_toArray, List.map_cons, List.map_nil, hk.eval hx, hk.eval hy, hr]
  rw [hrun, Oper.upon_value]
  subst hL
  exact h s' h1 h5 _ w' (hk.put hn _) (hm.grown h2 h3 h4)
theorem zip_one (t : Tmp) (v : Value) (T : Array Value) : ((#[t] : Array Tmp).zip #[v]).foldl (fun tmps (t, a) => tmps.setIfInBounds t a) T = T.setIfInBounds t v := by simp
/-- A round's contract, out of its walk. -/
theorem rd_of {P : Program} {f : FuncId} {tmps : Array Value} {assign body : Code} {A L : List (Option Nat × Obj)} {R : Value → List (Option Nat × Obj) → Prop} (hk : Knows [] n env ⟨tmps, []⟩)
    (h : ∀ w0, GR ⟨P, f, w0, A, hkeys L, R, []⟩ l n env L [.code assign, .beginRound, .code body]) : Rd P l f tmps assign body A L R := by
  intro w0 hw cl cs
  let b : Frame := { (default : Frame) with fn := f, kind := .normal, roundOf := some l }
  have hb0 : Frame.round l f tmps assign body .normal = b.atR { tmps := tmps, defers := [] } [.code assign, .beginRound, .code body] := by
    simp [Frame.round, Frame.atR, b]
  obtain ⟨v, post, w', hR, hm, hst⟩ := h w0 ⟨tmps, []⟩ w0 hk ⟨hw, fun b o hm => .inl (mem_hkeys.2 ⟨o, hm⟩), Chg.refl _ _⟩ b rfl rfl rfl cl cs
  rw [hb0]
  exact ⟨v, post, w', hR, hm, hst⟩

/-- A call of yield. -/
theorem G_yield {ops : Array Oper} {i : Nat} {rest : List Nat} {o : Oper} {d : Nat} {x : Operand} {xs : Array Operand} {ts : Array TypeId} {args : List Value} {r : Loop} {A' L' L2 : List (Option Nat × Obj)} {R' : Value → List (Option Nat × Obj) → Prop}
    (ho : ops[i]? = some o) (hd : o.dst = some d) (hn : Nat.blt d n = true) (hg : fguard ops env o = some true) (hop : o.op = .call ⟨.value x, xs, ts⟩) (hxs : fevs env xs.toList = some args)
    (hfn : fev env x = some (.func (.yield l) #[] #[])) (hl : (some l, .loop r) ∈ c.A ++ L) (hps : args.toArray.size = r.params.size)
    (hrd : Rd c.P l r.fn ((r.params.zip args.toArray).foldl (fun tmps (t, a) => tmps.setIfInBounds t a) r.tmps) r.assign r.body A' L' R') (is js : List Nat) (hL : tk is L = some (L', L2)) (hA : pk js (c.A ++ L2) = some A')
    (K : ∀ v post, R' v post → G c n ((d, v) :: env) (post ++ L2) (.inRegion ops rest :: k)) : G c n env L (.inRegion ops (i :: rest) :: k) := by
  intro a w hk hm b hb hkind cs
  have hgs := stepG_op (P := c.P) (b := b) (k := k) (cs := cs) (w := w) (rest := rest) ho (wanted_of hk hg)
  have hfin : ∀ v, (b.at a (.inRegion ops (i :: rest) :: k)).finish v = b.at (a.put o.dst v) (.inRegion ops rest :: k) := by
    intro v; rw [Frame.finish_at, ho]; rfl
  have hx : xs.map a.eval = args.toArray := by
    apply Array.toList_inj.1
    simpa using hk.evals hxs
  have hy := run_yield (P := c.P) (hm.has.both hl) hps
  have hr : (execOp a.eval o).run c.P w = .ok (.round l r.fn ((r.params.zip args.toArray).foldl (fun tmps (t, a) => tmps.setIfInBounds t a) r.tmps) r.assign r.body) w := by
    unfold execOp
    have hf := hk.eval hfn
    simp [hop, resolve, hf, Deferred.ofValue, hx, invoke, hy]
  obtain ⟨v, post, w', hR, hp, hst⟩ := hrd w (hm.has_call hL hA) (b.at a (.inRegion ops (i :: rest) :: k)) cs
  have hstep : step c.P (lone (b.at a (.inRegion ops (i :: rest) :: k)) cs w) = .next (lone (Frame.round l r.fn ((r.params.zip args.toArray).foldl (fun tmps (t, a) => tmps.setIfInBounds t a) r.tmps) r.assign r.body .normal) (b.at a (.inRegion ops (i :: rest) :: k) :: cs) w) :=
    step_lone_go (by rw [hgs]; simp [stepG.apply, hr, Frame.at])
  rw [hfin, hd] at hst
  obtain ⟨v', p, w2, fr, hR', hm', hst', e⟩ := K v post hR _ w' (hk.put hn v) (hm.call hL hA hp) b hb hkind cs
  exact ⟨v', p, w2, fr, hR', hm', .head hstep (hst.trans hst'), e⟩

theorem Mem.callP {w0 w w' : World} {A L L' L2 post : List (Option Nat × Obj)} {S : List Nat} (h : Mem w0 A S L w) (p1 : L.Perm (L' ++ L2))
    (hp : Mem w [] (hkeys L') post w') : Mem w0 A S (post ++ L2) w' := by
  have h' : Mem w0 A S (L' ++ L2) w := ⟨h.has.perm p1, fun b o hm => h.own b o (p1.mem_iff.2 hm), h.chg⟩
  have ht : tk (List.replicate L'.length 0) (L' ++ L2) = some (L', L2) := by
    clear h h' p1 hp
    induction L' with
    | nil => rfl
    | cons x L' ih => simp [List.replicate_succ, tk, ih]
  exact h'.call ht (js := []) (A' := []) rfl hp
theorem Mem.has_callP {w0 w : World} {A L A' L' L2 : List (Option Nat × Obj)} {S : List Nat} (h : Mem w0 A S L w) (p1 : L.Perm (L' ++ L2)) (hmem : ∀ x ∈ A', x ∈ A ++ L2) : Has w A' L' := by
  have hb : Has w A (L' ++ L2) := h.has.perm p1
  have pw2 := List.pairwise_append.1 hb.apart
  refine ⟨fun b o hm => ?_, pw2.1, fun b o hm => hb.lies b o (List.mem_append_left _ hm), fun x hx y hy => ?_⟩
  · rcases List.mem_append.1 (hmem _ hm) with hm | hm
    · exact hb.liesA b o hm
    · exact hb.lies b o (List.mem_append_right _ hm)
  · rcases List.mem_append.1 (hmem _ hx) with hx | hx
    · exact hb.cross x hx y (List.mem_append_left _ hy)
    · exact (pw2.2.2 y hy x hx).symm

/-- The record of a loop that begins. -/
def loop0 (f : FuncId) (T : Array Value) (ps : Array Tmp) (assign body : Code) (D : Nat) : Loop := { state := .ready, pending := none, fn := f, tmps := T, params := ps, assign, body, defers := D }
def markD (D : Nat) : List Deferred := [{ target := .collected D, args := #[] }]
def Cx.marked (c : Cx) (D : Nat) : Cx := { c with ds := markD D }
/-- THE STATEMENT: the iterator's contract, at this loop's record; behind it the frame bears the mark. -/
theorem G_rangeFunc {g : Operand} {ps : Array Tmp} {assign body : Code} {gf : FuncId} {vs : List Value} {A' L' L2 : List (Option Nat × Obj)} {R' : Nat → Nat → Array Value → Value → List (Option Nat × Obj) → Prop}
    (hds : c.ds = []) (hfn : fev env g = some (.func (.func gf) #[] vs.toArray)) (hcf : ∀ (az : Array Value) w, (callFunc gf az).run c.P w = .ok (.enter gf az) w)
    (hct : ∀ l D T, Knows [] n env ⟨T, []⟩ → Ct c.P gf (.func (.yield l) #[] #[] :: vs) A' ((some l, .loop (loop0 c.f T ps assign body D)) :: L') (R' l D T)) (is js : List Nat) (hL : tk is L = some (L', L2)) (hA : pk js (c.A ++ L2) = some A')
    (K : ∀ l D T v post, R' l D T v post → ∃ r post', post = (some l, .loop r) :: post' ∧ r.state ≠ .busy ∧ r.pending = none ∧ G (c.marked D) n env ((some D, .deferred (some [])) :: (post' ++ L2)) k) : G c n env L (.code (.rangeFunc g ps assign body) :: k) := by
  intro a w hk hm b hb hkind cs
  have hdf : a.defers = [] := hk.defers.trans hds
  let b' : Frame := { b with roundOf := none }
  have hat : ∀ (a : Act) todo, b'.atR a todo = b.at a todo := fun _ _ => rfl
  have he := run_enterLoop_outer (P := c.P) (w := w) b'.fn a.tmps ps assign body
  have hev := hk.eval hfn
  let W1 := (w.alloc (.deferred (some []))).alloc (.loop { state := .ready, pending := none, fn := b'.fn, tmps := a.tmps, params := ps, assign, body, defers := w.heap.size })
  have hres : (resolve a.eval (rangeCall g (w.heap.size + 1)) 0).run c.P W1 = .ok { target := .fn (.func gf) vs.toArray, args := #[.func (.yield (w.heap.size + 1)) #[] #[]] } W1 := by
    simp only [resolve, hev]
    simp [go_sem]
  have hinv : (invoke (Target.fn (.func gf) vs.toArray) #[.func (.yield (w.heap.size + 1)) #[] #[]]).run c.P W1 = .ok (.enter gf (Value.func (.yield (w.heap.size + 1)) #[] #[] :: vs).toArray) W1 := by
    simp [invoke, go_sem, hcf]
  have s1 := stepR_rangeFunc (P := c.P) (b := b') (a := a) (k := k) (cs := cs) (w := w) he hres hinv
  have m0 := hm.alloc (.deferred (some []))
  have m1 := m0.alloc (.loop (loop0 c.f a.tmps ps assign body w.heap.size))
  have hfb : b'.fn = c.f := hb
  have hW1 : (w.alloc (.deferred (some []))).alloc (.loop (loop0 c.f a.tmps ps assign body w.heap.size)) = W1 := by show _ = (w.alloc _).alloc (.loop { state := .ready, pending := none, fn := b'.fn, tmps := a.tmps, params := ps, assign, body, defers := w.heap.size }); rw [hfb]; rfl
  rw [hW1, show (w.alloc (.deferred (some []))).heap.size = w.heap.size + 1 by simp] at m1
  have p1 := tk_perm hL
  have p2 : ((some (w.heap.size + 1), Obj.loop (loop0 c.f a.tmps ps assign body w.heap.size)) :: (some w.heap.size, Obj.deferred (some [])) :: L).Perm (((some (w.heap.size + 1), Obj.loop (loop0 c.f a.tmps ps assign body w.heap.size)) :: L') ++ ((some w.heap.size, Obj.deferred (some [])) :: L2)) := by
    rw [List.cons_append]
    refine List.Perm.cons _ ?_
    exact (List.Perm.cons _ p1).trans List.perm_middle.symm
  have hkT : Knows [] n env ⟨a.tmps, []⟩ := ⟨hk.size, rfl, hk.get⟩
  obtain ⟨e, w3, fr, ⟨v, post, rfl, hR, hp⟩, hsteps, hfn', hleave⟩ := hct (w.heap.size + 1) w.heap.size a.tmps hkT W1 (m1.has_callP p2 (fun x hx => by
    rcases List.mem_append.1 (pk_mem hA x hx) with h | h
    · exact List.mem_append_left _ h
    · exact List.mem_append_right _ (List.mem_cons_of_mem _ h))) (b'.atR { a with defers := [{ target := .collected w.heap.size, args := #[] }] ++ a.defers } (.inRangeFunc (w.heap.size + 1) :: k) :: cs)
  have m3 := m1.callP p2 hp
  obtain ⟨r, post', rfl, hbusy, hpend, hG⟩ := K _ _ _ v post hR
  have hl : w3.heap[w.heap.size + 1]? = some (.loop r) := m3.lies (by simp)
  have m4 : Mem c.w0 c.A c.S ([] ++ (some (w.heap.size + 1), Obj.loop { r with state := .exhausted }) :: (post' ++ ((some w.heap.size, Obj.deferred (some [])) :: L2))) (w3.putObj (w.heap.size + 1) (.loop { r with state := .exhausted })) := Mem.putObj (l1 := []) (o := .loop r) m3 _
  have m5 : Mem c.w0 c.A c.S ((some w.heap.size, Obj.deferred (some [])) :: (post' ++ L2)) (w3.putObj (w.heap.size + 1) (.loop { r with state := .exhausted })) := m4.sub (R := [(some (w.heap.size + 1), Obj.loop { r with state := .exhausted })]) (by
    rw [List.nil_append]
    exact (List.Perm.cons _ List.perm_middle).trans (List.perm_append_singleton _ _).symm)
  have hend : (Instr.endLoop (w.heap.size + 1)).run c.P w3 = .ok none (w3.putObj (w.heap.size + 1) (.loop { r with state := .exhausted })) := (run_endLoop (P := c.P) hl hbusy).trans (by rw [hpend])
  obtain ⟨v', p, w2, fr2, hR2, hm2, hst2, e2⟩ := hG { a with defers := [{ target := .collected w.heap.size, args := #[] }] ++ a.defers } _ ⟨hk.size, by rw [hdf]; rfl, hk.get⟩ m5 b hb hkind cs
  refine ⟨v', p, w2, fr2, hR2, hm2, ?_, e2⟩
  have s2 : Steps c.P (lone (b.at a (.code (.rangeFunc g ps assign body) :: k)) cs w) (lone (b.at { a with defers := [{ target := .collected w.heap.size, args := #[] }] ++ a.defers } k) cs (w3.putObj (w.heap.size + 1) (.loop { r with state := .exhausted }))) := by
    have s3 : step c.P (lone (b.at { a with defers := [{ target := .collected w.heap.size, args := #[] }] ++ a.defers } (.endRangeFunc (w.heap.size + 1) :: k)) cs w3) = .next (lone (b.at { a with defers := [{ target := .collected w.heap.size, args := #[] }] ++ a.defers } k) cs (w3.putObj (w.heap.size + 1) (.loop { r with state := .exhausted }))) := by
      have s4 := stepR_endRangeFunc (b := b') (a := { a with defers := [{ target := .collected w.heap.size, args := #[] }] ++ a.defers }) (k := k) (cs := cs) hend
      rw [hat, hat] at s4
      exact s4
    rw [hat, hat] at s1
    refine .head s1 (hsteps.trans (.head ?_ (.one s3)))
    have hf := finish_atR_inRangeFunc (b := b') (a := { a with defers := [{ target := .collected w.heap.size, args := #[] }] ++ a.defers }) (k := k) (w.heap.size + 1) v
    rw [hat, hat] at hf
    rw [← hf]; exact step_leave_returned hleave
  exact s2.trans hst2

/-- A return past the mark. -/
theorem G_retD {D : Nat} {fn : Func} {rs : List ResultVar} {vs : List Value} {l1 l2 L' post M : List (Option Nat × Obj)} (hds : c.ds = markD D) (hL : L = l1 ++ (some D, .deferred (some [])) :: l2) (hL' : l1 ++ (some D, .deferred none) :: l2 = L')
    (hf : c.P.funcs[c.f]? = some fn) (hr : fn.results = rs.toArray)
    (hv : RVs c n env L' rs vs) (is : List Nat) (hl : tk is L' = some (post, M)) (hR : c.R (packed vs) post) : G c n env L (.code .ret :: k) := by
  intro a w hk hm b hb hkind cs
  subst hL hL'
  have hD : w.heap[D]? = some (.deferred (some [])) := hm.lies (by simp)
  have h1 := hm.putObj (.deferred none)
  have h3 := goes_ret (post := post) hr hv hk h1
  have hdf := hk.defers.trans hds
  let fr0 : Frame := { b.at a (.code .ret :: k) with mode := .returning }
  have s1 : step c.P (lone (b.at a (.code .ret :: k)) cs w) = .next (lone fr0 cs w) := step_ret
  have s2 := step_collected (P := c.P) (fr := fr0) (cs := cs) (w := w) (d := { target := .collected D, args := #[] }) (ds := []) (by show FrameMode.returning ≠ .run; simp) hdf rfl (run_takeDeferred hD)
  exact ⟨packed vs, post, _, { fr0 with defers := [] ++ [] }, hR, (h1.sub (tk_perm hl)).dropA, .head s1 (.one s2), hb, rfl, rfl, hkind, fn, by rw [← hf, ← hb]; rfl, h3⟩
end
end Go.Proofs.YtkekkalgebgokaaDoor
