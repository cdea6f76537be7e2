/- Drawn regions in which blocks are made and written: what only reads is taken first, of the others every one that may come comes. No program in sight. -/
import Derived.Test.YtkekkalgebgokaaDoorG4
import Derived.Deep.RegionHeld3
import Derived.Test.YtkekkalgebgokaaDoorKit
set_option linter.unusedSimpArgs false
set_option linter.unusedVariables false
namespace Go.Proofs.YtkekkalgebgokaaDoor
open Go Go.RowKit

section
variable {c : Cx} {n : Nat} {ops : Array Oper} {Lq : List (Option Nat × Obj)} {fuel : Nat} {listed : Array Bool} {env : List (Nat × Value)} {L : List (Option Nat × Obj)} {k : List Item} {o : Oper}

def HQ (c : Cx) (k : List Item) (e : Exit) (a : Act) (w : World) : Prop := e = .normal ∧ GoesTo c k a w
def HS (c : Cx) (Lq : List (Option Nat × Obj)) (w : World) : Prop := Has w c.A Lq

def GH (c : Cx) (n : Nat) (ops : Array Oper) (Lq : List (Option Nat × Obj)) (fuel : Nat) (listed : Array Bool) (env : List (Nat × Value)) (L : List (Option Nat × Obj)) (k : List Item) : Prop :=
  ∀ a w, Knows c.ds n env a → Mem c.w0 c.A c.S L w → HS c Lq w → wpAnyH c.P .any ops (HQ c k) (HS c Lq) fuel listed a w

def GHop (c : Cx) (n : Nat) (ops : Array Oper) (Lq : List (Option Nat × Obj)) (fuel : Nat) (listed : Array Bool) (env : List (Nat × Value)) (L : List (Option Nat × Obj)) (k : List Item) (i : Nat) : Prop :=
  ∀ a w, Knows c.ds n env a → Mem c.w0 c.A c.S L w → HS c Lq w → wpOp c.P ops (HQ c k) i (fun a' w' => HS c Lq w' ∧ wpAnyH c.P .any ops (HQ c k) (HS c Lq) fuel (listed.setIfInBounds i true) a' w') a w
def GHops (c : Cx) (n : Nat) (ops : Array Oper) (Lq : List (Option Nat × Obj)) (fuel : Nat) (listed : Array Bool) (env : List (Nat × Value)) (L : List (Option Nat × Obj)) (k : List Item) : List Nat → Prop
  | [] => True
  | i :: is => GHop c n ops Lq fuel listed env L k i ∧ GHops c n ops Lq fuel listed env L k is
theorem GHops.mem {is : List Nat} (h : GHops c n ops Lq fuel listed env L k is) : ∀ i ∈ is, GHop c n ops Lq fuel listed env L k i := by
  induction is with
  | nil => exact fun i hi => by cases hi
  | cons j is ih =>
    intro i hi
    rcases List.mem_cons.1 hi with e | hi
    · subst e; exact h.1
    · exact ih h.2 i hi

theorem hs_of {w : World} {isq : List Nat} {M : List (Option Nat × Obj)} (hm : Mem c.w0 c.A c.S L w) (hq : tk isq L = some (Lq, M)) : HS c Lq w := (hm.sub (tk_perm hq)).has

theorem GH_start {id : Nat} {isq : List Nat} {M : List (Option Nat × Obj)} {m : Nat} (hm : c.P.follows .mixedOrders = true) (hq : tk isq L = some (Lq, M)) (hz : ops.size = m) (h : GH c n ops Lq m (Array.replicate m false) env L k) : G c n env L (.code (.region id ops true) :: k) := by
  intro a w hk hmm
  subst hz
  exact goes_of_wp (wp_region_held (S := HS c Lq) hm (h a _ hk (hmm.drew _) (hs_of (hmm.drew _) hq)))

theorem GH_done (hr : Region.ready .any ops listed = []) (h : G c n env L k) : GH c n ops Lq fuel listed env L k :=
  fun a w hk hm _ => wpAnyH_done hr ⟨rfl, h a w hk hm⟩ fuel

theorem Val.held {v : Value} (hv : ∀ w0 S, Val ⟨c.P, c.f, w0, c.A, S, c.R, c.ds⟩ n env Lq o v) {a : Act} (hk : Knows c.ds n env a) (w : World) (hw : HS c Lq w) : (execOp a.eval o).run c.P w = .ok (.value v) w :=
  hv w (hkeys Lq) a w hk ⟨hw, fun b o hm => .inl (mem_hkeys.2 ⟨o, hm⟩), Chg.refl _ _⟩

theorem GH_take (i : Nat) {d : Nat} {v : Value} (ho : ops[i]? = some o) (hd : o.dst = some d) (hn : Nat.blt d n = true) (hg : fguard ops env o = some true)
    (hs : Region.noSelect ops = true) (hf : Region.free .any ops listed i = true) (hr : (Region.ready .any ops listed).contains i = true)
    (hv : ∀ w0 S, Val ⟨c.P, c.f, w0, c.A, S, c.R, c.ds⟩ n env Lq o v) (h : GH c n ops Lq fuel (listed.setIfInBounds i true) ((d, v) :: env) L k) : GH c n ops Lq (fuel + 1) listed env L k := by
  intro a w hk hm hw
  refine wpAnyH_take ho hs hf hr (fun _ _ _ h => absurd h.1 (by simp)) (.inl ⟨wanted_of hk hg, fun w' hw' => Val.held hv hk w' hw'⟩) hw ?_
  rw [hd]
  exact h _ w (hk.put hn v) hm hw
theorem GH_takeOff (i : Nat) {d : Nat} (ho : ops[i]? = some o) (hd : o.dst = some d) (hn : Nat.blt d n = true) (hg : fguard ops env o = some false)
    (hs : Region.noSelect ops = true) (hf : Region.free .any ops listed i = true) (hr : (Region.ready .any ops listed).contains i = true)
    (h : GH c n ops Lq fuel (listed.setIfInBounds i true) ((d, undef) :: env) L k) : GH c n ops Lq (fuel + 1) listed env L k := by
  intro a w hk hm hw
  refine wpAnyH_take ho hs hf hr (fun _ _ _ h => absurd h.1 (by simp)) (.inr ⟨wanted_of hk hg, rfl⟩) hw ?_
  rw [hd]
  exact h _ w (hk.put hn undef) hm hw
theorem GH_all (rs : List Nat) (hr : Region.ready .any ops listed = rs) (hne : rs ≠ []) (h : GHops c n ops Lq fuel listed env L k rs) : GH c n ops Lq (fuel + 1) listed env L k :=
  fun a w hk hm hw => wpAnyH_all hr hne fun i hi => h.mem i hi a w hk hm hw
theorem GH_split (d : Nat) {t : Bool} (hx : fget env d = some (.bool t)) (hT : t = true → GH c n ops Lq fuel listed ((d, .bool true) :: env) L k) (hF : t = false → GH c n ops Lq fuel listed ((d, .bool false) :: env) L k) : GH c n ops Lq fuel listed env L k := by
  have key : GH c n ops Lq fuel listed ((d, .bool t) :: env) L k := by
    cases t
    · exact hF rfl
    · exact hT rfl
  refine fun a w hk hm => key a w ⟨hk.size, hk.defers, fun u v hu => hk.get u v ?_⟩ hm
  rw [fget_cons] at hu
  by_cases e : d = u
  · rw [if_pos e] at hu
    subst e
    rw [hx, hu]
  · rwa [if_neg e] at hu
theorem GH_splitD (d : Nat) {t : Prop} {inst : Decidable t} (hx : fget env d = some (.bool (decide t))) (hT : t → GH c n ops Lq fuel listed ((d, .bool true) :: env) L k) (hF : ¬ t → GH c n ops Lq fuel listed ((d, .bool false) :: env) L k) : GH c n ops Lq fuel listed env L k :=
  GH_split d hx (fun h => hT (of_decide_eq_true h)) (fun h => hF (of_decide_eq_false h))

theorem ghop_of {i : Nat} {a : Act} {w : World} {K : Act → World → Prop} (ho : ops[i]? = some o) (hw : Region.wanted o (yielded ops a.tmps) = true) (h : o.upon c.P a K (HQ c k) ((execOp a.eval o).run c.P w)) : wpOp c.P ops (HQ c k) i K a w := by
  unfold wpOp
  rw [ho]
  simp only
  rw [if_pos hw]
  exact .inl h

theorem GHop_val {i d : Nat} {v : Value} (ho : ops[i]? = some o) (hd : o.dst = some d) (hn : Nat.blt d n = true) (hg : fguard ops env o = some true)
    (hv : Val c n env L o v) (h : GH c n ops Lq fuel (listed.setIfInBounds i true) ((d, v) :: env) L k) : GHop c n ops Lq fuel listed env L k i := by
  intro a w hk hm hw
  refine ghop_of ho (wanted_of hk hg) ?_
  rw [hv a w hk hm, Oper.upon_value, hd]
  exact ⟨hw, h _ w (hk.put hn v) hm hw⟩
theorem GHop_new {i d : Nat} {mk : Nat → Value} {ob : Obj} (ho : ops[i]? = some o) (hd : o.dst = some d) (hn : Nat.blt d n = true) (hg : fguard ops env o = some true)
    (hv : New c n env L o mk ob) (isq : List Nat) (hq : ∀ b, ∃ M, tk isq ((some b, ob) :: L) = some (Lq, M)) (h : ∀ b, GH c n ops Lq fuel (listed.setIfInBounds i true) ((d, mk b) :: env) ((some b, ob) :: L) k) : GHop c n ops Lq fuel listed env L k i := by
  intro a w hk hm hw
  refine ghop_of ho (wanted_of hk hg) ?_
  rw [hv a w hk hm, Oper.upon_value, hd]
  obtain ⟨M, hM⟩ := hq w.heap.size
  have hs := hs_of (hm.alloc ob) hM
  exact ⟨hs, h w.heap.size _ _ (hk.put hn _) (hm.alloc ob) hs⟩
theorem GHop_put {i b : Nat} {old ob : Obj} {l1 l2 L' M : List (Option Nat × Obj)} (ho : ops[i]? = some o) (hd : o.dst = none) (hg : fguard ops env o = some true)
    (hL : L = l1 ++ (some b, old) :: l2) (hv : Put c n env L o b ob) (hL' : l1 ++ (some b, ob) :: l2 = L') (isq : List Nat) (hq : tk isq L' = some (Lq, M)) (h : GH c n ops Lq fuel (listed.setIfInBounds i true) env L' k) : GHop c n ops Lq fuel listed env L k i := by
  intro a w hk hm hw
  obtain ⟨w', hr, h1, h2, h3, h4, h5, h6⟩ := hv a w hk hm
  refine ghop_of ho (wanted_of hk hg) ?_
  rw [hr, Oper.upon_skip, hd]
  subst hL'
  have hm' := hm.put hL h1 h2 h3 h4 h5 h6
  exact ⟨hs_of hm' hq, h _ w' (hk.putNone undef) hm' (hs_of hm' hq)⟩
theorem GHop_call {i d : Nat} {g : FuncId} {xs : Array Operand} {ts : Array TypeId} {args : List Value} {A' L' L2 : List (Option Nat × Obj)} {R' : Value → List (Option Nat × Obj) → Prop}
    (ho : ops[i]? = some o) (hd : o.dst = some d) (hn : Nat.blt d n = true) (hg : fguard ops env o = some true) (hop : o.op = .call ⟨.value (.func g), xs, ts⟩) (hxs : fevs env xs.toList = some args)
    (hcf : ∀ (az : Array Value) w, (callFunc g az).run c.P w = .ok (.enter g az) w) (hct : Ct c.P g args A' L' R') (is js : List Nat) (hL : tk is L = some (L', L2)) (hA : pk js (c.A ++ L2) = some A')
    (isq : List Nat) (hq : ∀ v post, R' v post → ∃ M, tk isq (post ++ L2) = some (Lq, M)) (K : ∀ v post, R' v post → GH c n ops Lq fuel (listed.setIfInBounds i true) ((d, v) :: env) (post ++ L2) k) : GHop c n ops Lq fuel listed env L k i := by
  intro a w hk hm hw
  refine ghop_of ho (wanted_of hk hg) ?_
  have hx : xs.map a.eval = args.toArray := by
    apply Array.toList_inj.1
    simpa using hk.evals hxs
  have hr : (execOp a.eval o).run c.P w = .ok (.enter g args.toArray) w := by
    unfold execOp
    simp [hop, resolve, Act.eval, Deferred.ofValue, hx, invoke, hcf]
  rw [hr, Oper.upon_enter]
  refine (hct w (hm.has_call hL hA)).mono fun e w' ⟨v, post, he, hR, hp⟩ => ?_
  subst he
  simp only [hd]
  have hm' := hm.call hL hA hp
  obtain ⟨M', hM⟩ := hq v post hR
  exact ⟨hs_of hm' hM, K v post hR _ w' (hk.put hn v) hm' (hs_of hm' hM)⟩
end

-- contracts of the elder kind
theorem ct_same {P : Program} {f : FuncId} {args : List Value} {v : Value} (h : ∀ w, Calls P f args.toArray w fun e w' => e = .returned v ∧ w = w') : Ct P f args [] [] (fun v' post => v' = v ∧ post = []) :=
  fun w0 _ => (h w0).mono fun _ _ ⟨he, hw⟩ => ⟨v, [], he, ⟨rfl, rfl⟩, by subst hw; exact ⟨has_nil _, fun _ _ h => (by cases h), Chg.refl _ _⟩⟩
theorem ct_below {P : Program} {f : FuncId} {args : List Value} {v : Value} (h : ∀ w, Calls P f args.toArray w fun e w' => e = .returned v ∧ Below w.heap.size w w') : Ct P f args [] [] (fun v' post => v' = v ∧ post = []) :=
  fun w0 _ => (h w0).mono fun _ _ ⟨he, hb⟩ => ⟨v, [], he, ⟨rfl, rfl⟩, ⟨has_nil _, fun _ _ h => (by cases h), ⟨hb.os, hb.tape, hb.output, hb.size, fun i hi _ => hb.block i hi⟩⟩⟩
theorem ct_grown {P : Program} {f : FuncId} {args : List Value} {b : Nat} {cs cs' : Array Value} {T : TypeId} {v : Value} (h : ∀ w, Blk w b cs T → Calls P f args.toArray w fun e w' => e = .returned v ∧ Blk w' b cs' T ∧ w.grownBy w' (some b)) :
    Ct P f args [] [(some b, .cells cs T (0, 0))] (fun v' post => v' = v ∧ post = [(some b, .cells cs' T (0, 0))]) :=
  fun w0 hw => (h w0 (hw.lies b _ (by simp))).mono fun _ w' ⟨he, hb, hg⟩ => ⟨v, _, he, ⟨rfl, rfl⟩, ⟨⟨fun _ _ h => (by cases h), by simp, fun b' o hm => by
    simp only [List.mem_singleton, Prod.mk.injEq, Option.some.injEq] at hm
    obtain ⟨rfl, rfl⟩ := hm
    exact hb, fun _ h => (by cases h)⟩, fun b' o hm => by
    simp only [List.mem_singleton, Prod.mk.injEq, Option.some.injEq] at hm
    obtain ⟨rfl, rfl⟩ := hm
    exact .inl (by simp [hkeys]), ⟨hg.os, hg.tape, hg.output, hg.size, fun k hk hn => hg.block k hk (fun e => hn (by simp [hkeys]; exact Option.some.inj e))⟩⟩⟩
/-- A contract without blocks says what a law's walk wants. -/
theorem below_of_ct {P : Program} {f : FuncId} {args : List Value} {A : List (Option Nat × Obj)} {v : Value} (h : Ct P f args A [] (fun v' post => v' = v ∧ post = [])) (w : World) (hA : Has w A []) : Calls P f args.toArray w fun e w' => e = .returned v ∧ Below w.heap.size w w' :=
  (h w hA).mono fun _ _ ⟨_, _, he, ⟨hv, _⟩, hm⟩ => ⟨by rw [he, hv], ⟨hm.chg.os, hm.chg.tape, hm.chg.output, hm.chg.size, fun k hk => hm.chg.block k hk (by simp [hkeys])⟩⟩
theorem Ct.weaken {P : Program} {f : FuncId} {args : List Value} {A L : List (Option Nat × Obj)} {R R' : Value → List (Option Nat × Obj) → Prop} (h : Ct P f args A L R) (hr : ∀ v post, R v post → R' v post) : Ct P f args A L R' :=
  fun w0 hw => (h w0 hw).mono fun _ _ ⟨v, post, he, hR, hm⟩ => ⟨v, post, he, hr v post hR, hm⟩
end Go.Proofs.YtkekkalgebgokaaDoor
