/- What the law DumpDecodes needs, part 5.  -/
import Derived.Test.YtjnaeoelnmhjfaaPkDumpDecodes1
import Derived.Test.YtjnaeoelnmhjfaaPkDumpDecodes2
import Derived.Test.YtjnaeoelnmhjfaaPkDumpDecodes3
import Derived.Test.YtjnaeoelnmhjfaaPkDumpDecodes4


set_option linter.unusedSimpArgs false
set_option linter.unusedVariables false
namespace Go.Proofs.Ytjnaeoelnmhjfaa
open Go Go.RowKit

/-- Whatever order is picked from here on, and S holds behind every operation; it hangs on what has come. -/
def wpAnyP (P : Program) (md : Region.Mode) (ops : Array Oper) (Q : Exit → Act → World → Prop) (S : Array Bool → World → Prop) : Nat → Array Bool → Act → World → Prop
  | 0, listed, a, w => Region.ready md ops listed = [] ∧ Q .normal a w
  | fuel + 1, listed, a, w =>
    (Region.ready md ops listed = [] → Q .normal a w) ∧
    ∀ i ∈ Region.ready md ops listed, wpOp P ops Q i (fun a' w' => S (listed.setIfInBounds i true) w' ∧ wpAnyP P md ops Q S fuel (listed.setIfInBounds i true) a' w') a w
section
variable {P : Program} {ops : Array Oper} {Q : Exit → Act → World → Prop} {md : Region.Mode} {S : Array Bool → World → Prop}
theorem wpAny_of_phased : ∀ (fuel : Nat) (listed : Array Bool) (a : Act) (w : World), wpAnyP P md ops Q S fuel listed a w → wpAny P md ops Q fuel listed a w
  | 0, _, _, _, h => h
  | fuel + 1, _, _, _, h => ⟨h.1, fun i hi => wpOp_mono (fun a' w' h' => wpAny_of_phased fuel _ a' w' h'.2) (h.2 i hi)⟩
theorem wpAnyP_first {i : Nat} {oi : Oper} {v : Value} (hi : ops[i]? = some oi) (hsel : ∀ (j : Nat) (o : Oper) cs b, ops[j]? = some o → o.op ≠ .select cs b)
    (hQ : ∀ c a w, Q (.panic c) (a.put oi.dst v) w → Q (.panic c) a w) (T : World → Prop) (I : Array Bool → Prop) (hT : ∀ L w, L.getD i true = false → I L → S L w → T w)
    (hI : ∀ L j, I L → L.getD i true = false → j ∈ Region.ready md ops L → j ≠ i → I (L.setIfInBounds j true)) (hS : ∀ L, S (L.setIfInBounds i true) = S L) :
    ∀ (fuel : Nat) (listed : Array Bool) (a : Act) (w : World),
      (∀ j oj, ops[j]? = some oj → j ≠ i → listed.getD j true = false → (∀ e ∈ oj.after, Region.binds md e = true → e.on ≠ i) → oi.apart ops oj = true) →
      i ∈ Region.ready md ops listed → I listed → YieldsIf P ops T oi v a → S listed w →
      wpAnyP P md ops Q S fuel (listed.setIfInBounds i true) (a.put oi.dst v) w → wpAnyP P md ops Q S (fuel + 1) listed a w := by
  intro fuel
  induction fuel with
  | zero =>
    intro listed a w _ hr hIl hy hSw H
    have hTw := hT listed w (mem_ready.1 hr).1 hIl hSw
    refine ⟨fun h => (by rw [h] at hr; cases hr), fun j hj => ?_⟩
    by_cases hji : j = i
    · subst hji; exact hy.wpOp hi hTw ⟨by rw [hS]; exact hSw, H⟩
    · have := ready_mono hj hji
      rw [H.1] at this
      cases this
  | succ fuel ih =>
    intro listed a w hfree hr hIl hy hSw H
    have hun := (mem_ready.1 hr).1
    have hTw := hT listed w hun hIl hSw
    refine ⟨fun h => (by rw [h] at hr; cases hr), fun j hj => ?_⟩
    by_cases hji : j = i
    · subst hji; exact hy.wpOp hi hTw ⟨by rw [hS]; exact hSw, H⟩
    · have h1 := H.2 j (ready_mono hj hji)
      obtain ⟨hjun, oj, hoj, hall⟩ := mem_ready.1 hj
      have hnot : ∀ e ∈ oj.after, Region.binds md e = true → e.on ≠ i := fun e he hb heq => by
        have h1 := hall e he hb
        have h0 := (mem_ready.1 hr).1
        rw [heq] at h1
        rcases Nat.lt_or_ge i listed.size with h' | h'
        · simp [h'] at h0 h1; rw [h0] at h1; cases h1
        · simp [Array.getElem?_eq_none h'] at h1
      have h2 := wpOp_putIf hoj (hfree j oj hoj hji hjun hnot) (fun cs b => hsel i oi cs b hi) (fun cs b => hsel j oj cs b hoj) hQ hy h1
      have hfree' : ∀ k ok, ops[k]? = some ok → k ≠ i → (listed.setIfInBounds j true).getD k true = false →
          (∀ e ∈ ok.after, Region.binds md e = true → e.on ≠ i) → oi.apart ops ok = true := fun k ok hk hki hun hno => by
        refine hfree k ok hk hki ?_ hno
        by_cases hjk : j = k
        · subst hjk; exact hjun
        · rw [getD_set_ne true hjk] at hun; exact hun
      refine wpOp_mono (fun a' w' h3 => ?_) h2
      have hS3 : S (listed.setIfInBounds j true) w' := by
        have := h3.2.1
        rw [Array.setIfInBounds_comm _ _ (Ne.symm hji), hS] at this
        exact this
      refine ⟨hS3, ih (listed.setIfInBounds j true) a' w' hfree' (ready_mono hr (Ne.symm hji)) (hI listed j hIl hun hj hji) h3.1 hS3 ?_⟩
      rw [Array.setIfInBounds_comm _ _ hji]
      exact h3.2.2
theorem wpAnyP_all {rs : List Nat} {fuel : Nat} {listed : Array Bool} {a : Act} {w : World} (hr : Region.ready md ops listed = rs) (hne : rs ≠ [])
    (h : ∀ i ∈ rs, wpOp P ops Q i (fun a' w' => S (listed.setIfInBounds i true) w' ∧ wpAnyP P md ops Q S fuel (listed.setIfInBounds i true) a' w') a w) : wpAnyP P md ops Q S (fuel + 1) listed a w :=
  ⟨fun h0 => absurd (hr ▸ h0) hne, hr ▸ h⟩
theorem wpAnyP_done {listed : Array Bool} {a : Act} {w : World} (hr : Region.ready md ops listed = []) (h : Q .normal a w) :
    ∀ fuel, wpAnyP P md ops Q S fuel listed a w
  | 0 => ⟨hr, h⟩
  | _ + 1 => ⟨fun _ => h, by rw [hr]; simp⟩
end
/-- Does s wait for i? -/
def waitsFor (ops : Array Oper) (s i : Nat) : Bool := match ops[s]? with | some o => o.after.any fun e => Region.binds .any e && e.on == i | none => false

section
variable {c : Cx} {n : Nat} {ops : Array Oper} {s : Nat} {Lq : List (Option Nat × Obj)} {fuel : Nat} {listed : Array Bool} {env : List (Nat × Value)} {L : List (Option Nat × Obj)} {k : List Item} {o : Oper}
/-- Until s has come, these blocks lie quiet. -/
def PS_ (c : Cx) (Lq : List (Option Nat × Obj)) (s : Nat) (l : Array Bool) (w : World) : Prop := HS c [] w ∧ (l.getD s true = false → HS c Lq w)
theorem hs_nil {w : World} (hm : Mem c.w0 c.A c.S L w) : HS c [] w := hs_of (isq := []) hm rfl
def GP (c : Cx) (n : Nat) (ops : Array Oper) (s : Nat) (Lq : List (Option Nat × Obj)) (fuel : Nat) (listed : Array Bool) (env : List (Nat × Value)) (L : List (Option Nat × Obj)) (k : List Item) : Prop :=
  ∀ a w, Knows c.ds n env a → Mem c.w0 c.A c.S L w → PS_ c Lq s listed w → wpAnyP c.P .any ops (HQ c k) (PS_ c Lq s) fuel listed a w
def GPop (c : Cx) (n : Nat) (ops : Array Oper) (s : Nat) (Lq : List (Option Nat × Obj)) (fuel : Nat) (listed : Array Bool) (env : List (Nat × Value)) (L : List (Option Nat × Obj)) (k : List Item) (i : Nat) : Prop :=
  ∀ a w, Knows c.ds n env a → Mem c.w0 c.A c.S L w → PS_ c Lq s listed w → wpOp c.P ops (HQ c k) i (fun a' w' => PS_ c Lq s (listed.setIfInBounds i true) w' ∧ wpAnyP c.P .any ops (HQ c k) (PS_ c Lq s) fuel (listed.setIfInBounds i true) a' w') a w
def GPops (c : Cx) (n : Nat) (ops : Array Oper) (s : Nat) (Lq : List (Option Nat × Obj)) (fuel : Nat) (listed : Array Bool) (env : List (Nat × Value)) (L : List (Option Nat × Obj)) (k : List Item) : List Nat → Prop
  | [] => True
  | i :: is => GPop c n ops s Lq fuel listed env L k i ∧ GPops c n ops s Lq fuel listed env L k is
theorem GPops.mem {is : List Nat} (h : GPops c n ops s Lq fuel listed env L k is) : ∀ i ∈ is, GPop c n ops s Lq fuel listed env L k i := by
  induction is with
  | nil => exact fun i hi => by cases hi
  | cons j is ih =>
    intro i hi
    rcases List.mem_cons.1 hi with e | hi
    · subst e; exact h.1
    · exact ih h.2 i hi
theorem GP_start (s : Nat) {id : Nat} {isq : List Nat} {M : List (Option Nat × Obj)} {m : Nat} (hm : c.P.follows .mixedOrders = true) (hq : tk isq L = some (Lq, M)) (hz : ops.size = m) (h : GP c n ops s Lq m (Array.replicate m false) env L k) : G c n env L (.code (.region id ops true) :: k) := by
  intro a w hk hmm
  subst hz
  exact goes_of_wp (wp_region_any hm (wpAny_of_phased _ _ _ _ (h a _ hk (hmm.drew _) ⟨hs_nil (hmm.drew _), fun _ => hs_of (hmm.drew _) hq⟩)))
theorem GP_done (hr : Region.ready .any ops listed = []) (h : G c n env L k) : GP c n ops s Lq fuel listed env L k :=
  fun a w hk hm _ => wpAnyP_done hr ⟨rfl, h a w hk hm⟩ fuel
theorem GP_join {X : Type} (E : X → List (Nat × Value)) (H : X → List (Option Nat × Obj)) (rest : ∀ x, G c n (E x) (H x) k) (h : (∀ x, G c n (E x) (H x) k) → GP c n ops s Lq fuel listed env L k) : GP c n ops s Lq fuel listed env L k := h rest
theorem ps_set {l : Array Bool} {i : Nat} (h : i ≠ s) : PS_ c Lq s (l.setIfInBounds i true) = PS_ c Lq s l := by
  funext w; unfold PS_; rw [getD_set_ne true h]
/-- What hangs on no block of the call's. -/
theorem Zx (i : Nat) {d : Nat} {v : Value} (ho : ops[i]? = some o) (hd : o.dst = some d) (hn : Nat.blt d n = true) (hg : fguard ops env o = some true)
    (hs : Region.noSelect ops = true) (hf : Region.free .any ops listed i = true) (hr : (Region.ready .any ops listed).contains i = true) (his : i ≠ s)
    (hv : ∀ w0 S, Val ⟨c.P, c.f, w0, c.A, S, c.R, c.ds⟩ n env [] o v) (h : GP c n ops s Lq fuel (listed.setIfInBounds i true) ((d, v) :: env) L k) : GP c n ops s Lq (fuel + 1) listed env L k := by
  intro a w hk hm hw
  refine wpAnyP_first ho (Region.noSelect_spec hs) (fun _ _ _ h => absurd h.1 (by simp)) (HS c []) (fun _ => True) (fun _ _ _ _ h => h.1) (fun _ _ _ _ _ _ => trivial) (fun l => ps_set his) fuel listed a w (Region.free_spec ho hf) (by simpa using hr) trivial
    (.inl ⟨Xs hk hg, fun w' hw' => Val.held hv hk w' hw'⟩) hw ?_
  rw [hd]
  exact h _ w (hk.put hn v) hm (by rw [ps_set his]; exact hw)
theorem ready_waits {l : Array Bool} {s i : Nat} (hwt : waitsFor ops s i = true) (hil : l.getD i true = false) (hj : s ∈ Region.ready .any ops l) : False := by
  obtain ⟨_, oj, hoj, hall⟩ := mem_ready.1 hj
  unfold waitsFor at hwt
  rw [hoj] at hwt
  obtain ⟨e, he, hb⟩ := Array.any_eq_true'.1 hwt
  simp only [Bool.and_eq_true, beq_iff_eq] at hb
  have h1 := hall e he hb.1
  rw [hb.2] at h1
  rcases Nat.lt_or_ge i l.size with h' | h'
  · simp [h'] at hil h1; rw [hil] at h1; cases h1
  · simp [Array.getElem?_eq_none h'] at h1
def chainOk (ops : Array Oper) : List Nat → Bool
  | a :: b :: r => waitsFor ops a b && chainOk ops (b :: r)
  | _ => true
theorem chain_ready {l : Array Bool} {i : Nat} (hil : l.getD i true = false) : ∀ (ms : List Nat), chainOk ops (ms ++ [i]) = true → (∀ m ∈ ms, l.getD m true = false) → ∀ j ∈ ms, j ∉ Region.ready .any ops l
  | [], _, _, j, hj => by cases hj
  | [a], h, _, j, hj => by
    rw [List.mem_singleton.1 hj]
    simp only [List.cons_append, List.nil_append, chainOk, Bool.and_true] at h
    exact ready_waits h hil
  | a :: b :: r, h, hu, j, hj => by
    simp only [List.cons_append, chainOk, Bool.and_eq_true] at h
    rcases List.mem_cons.1 hj with rfl | hj
    · exact ready_waits h.1 (hu b (by simp))
    · exact chain_ready hil (b :: r) h.2 (fun m hm => hu m (List.mem_cons_of_mem _ hm)) j hj
/-- What reads a block that lies quiet until s has come; s waits for it, by way of others. -/
theorem GP_takeL (i : Nat) (ms : List Nat) {d : Nat} {v : Value} (ho : ops[i]? = some o) (hd : o.dst = some d) (hn : Nat.blt d n = true) (hg : fguard ops env o = some true)
    (hs : Region.noSelect ops = true) (hf : Region.free .any ops listed i = true) (hr : (Region.ready .any ops listed).contains i = true) (his : i ≠ s) (hwt : chainOk ops (s :: ms ++ [i]) = true) (hls : (s :: ms).all (fun m => !listed.getD m true) = true)
    (hv : ∀ w0 S, Val ⟨c.P, c.f, w0, c.A, S, c.R, c.ds⟩ n env Lq o v) (h : GP c n ops s Lq fuel (listed.setIfInBounds i true) ((d, v) :: env) L k) : GP c n ops s Lq (fuel + 1) listed env L k := by
  intro a w hk hm hw
  refine wpAnyP_first ho (Region.noSelect_spec hs) (fun _ _ _ h => absurd h.1 (by simp)) (HS c Lq) (fun l => ∀ m ∈ s :: ms, l.getD m true = false) (fun l w _ hl h => h.2 (hl s (by simp))) (fun l j hl hil hj hji => ?_) (fun l => ps_set his) fuel listed a w (Region.free_spec ho hf) (by simpa using hr)
    (fun m hm => by simpa using List.all_eq_true.1 hls m hm) (.inl ⟨Xs hk hg, fun w' hw' => Val.held hv hk w' hw'⟩) hw ?_
  · intro m hm
    have hne : j ≠ m := fun e => chain_ready hil (s :: ms) hwt hl m hm (e ▸ hj)
    rw [getD_set_ne true hne]; exact hl m hm
  · rw [hd]
    exact h _ w (hk.put hn v) hm (by rw [ps_set his]; exact hw)
theorem GP_all (rs : List Nat) (hr : Region.ready .any ops listed = rs) (hne : rs ≠ []) (h : GPops c n ops s Lq fuel listed env L k rs) : GP c n ops s Lq (fuel + 1) listed env L k :=
  fun a w hk hm hw => wpAnyP_all hr hne fun i hi => h.mem i hi a w hk hm hw
theorem gpop_of {i : Nat} {a : Act} {w : World} {K : Act → World → Prop} (ho : ops[i]? = some o) (hw : Region.wanted o (yielded ops a.tmps) = true) (h : o.upon c.P a K (HQ c k) ((execOp a.eval o).run c.P w)) : wpOp c.P ops (HQ c k) i K a w := by
  unfold wpOp
  rw [ho]
  simp only
  rw [if_pos hw]
  exact .inl h
theorem GPop_new {i d : Nat} {mk : Nat → Value} {ob : Obj} (ho : ops[i]? = some o) (hd : o.dst = some d) (hn : Nat.blt d n = true) (hg : fguard ops env o = some true)
    (hv : New c n env L o mk ob) (isq : List Nat) (hq : ∀ b, ∃ M, tk isq ((some b, ob) :: L) = some (Lq, M)) (h : ∀ b, GP c n ops s Lq fuel (listed.setIfInBounds i true) ((d, mk b) :: env) ((some b, ob) :: L) k) : GPop c n ops s Lq fuel listed env L k i := by
  intro a w hk hm hw
  refine gpop_of ho (Xs hk hg) ?_
  rw [hv a w hk hm, Oper.upon_value, hd]
  obtain ⟨M, hM⟩ := hq w.heap.size
  have hs : PS_ c Lq s (listed.setIfInBounds i true) (w.alloc ob) := ⟨hs_nil (hm.alloc ob), fun _ => hs_of (hm.alloc ob) hM⟩
  exact ⟨hs, h w.heap.size _ _ (hk.put hn _) (hm.alloc ob) hs⟩
theorem Xf {i b : Nat} {old ob : Obj} {l1 l2 L' : List (Option Nat × Obj)} (ho : ops[i]? = some o) (hd : o.dst = none) (hg : fguard ops env o = some true)
    (hL : L = l1 ++ (some b, old) :: l2) (hv : Put c n env L o b ob) (hL' : l1 ++ (some b, ob) :: l2 = L') (hph : (listed.setIfInBounds i true).getD s true = true) (h : GP c n ops s Lq fuel (listed.setIfInBounds i true) env L' k) : GPop c n ops s Lq fuel listed env L k i := by
  intro a w hk hm hw
  obtain ⟨w', hr, h1, h2, h3, h4, h5, h6⟩ := hv a w hk hm
  refine gpop_of ho (Xs hk hg) ?_
  rw [hr, Oper.upon_skip, hd]
  subst hL'
  have hm' := hm.put hL h1 h2 h3 h4 h5 h6
  have hs : PS_ c Lq s (listed.setIfInBounds i true) w' := ⟨hs_nil hm', fun hf => by rw [hph] at hf; cases hf⟩
  exact ⟨hs, h _ w' (hk.putNone undef) hm' hs⟩
theorem Yn {i : Nat} {d m nn sz bt : Nat} {x y : Operand} {t u e ty : TypeId} {ds : TypeDesc} {ps : String} {es : Array Edge} {gd : Option (Nat × Bool)} {ti : TypeInfo} {z xv : Value} {sl : Sl} {xs news : List Value} {l1 l2 : List (Option Nat × Obj)}
    (ho : ops[i]? = some o) (hop : o = ⟨some d, .call ⟨.builtin .append, #[x, y], #[t, u]⟩, ty, ps, es, gd⟩) (hn : Nat.blt d n = true) (hg : fguard ops env o = some true)
    (ht : c.P.underlying t = some (.slice e)) (hu : c.P.underlying u = some ds) (hds : ds = .string ∨ ∃ e', ds = .slice e') (hi : c.P.info? e = some ti) (hz : ti.zero = some z) (hsz : ti.size = sz) (hzs : z.cells.size = sz) (hbt : ti.bytes = bt)
    (hx : fev env x = some (sl.v nn)) (hy : fev env y = some xv) (hown : Own sz sl xs nn) (hL : L = l1 ++ (sl.ob, .cells sl.cs e sl.fz) :: l2) (hS : ∀ w, Has w c.A L → Src c.P w sz xv m news)
    (h63 : nn + m ≤ 9223372036854775807) (hbytes : (nn + m) * bt ≤ 140737488355328)
    (isq : List Nat) (hq : ∀ s' : Sl, ∃ M, tk isq (l1 ++ (s'.ob, .cells s'.cs e s'.fz) :: l2) = some (Lq, M))
    (h : ∀ s' : Sl, Own sz s' (xs ++ news) (nn + m) → More sl s' → GP c n ops s Lq fuel (listed.setIfInBounds i true) ((d, s'.v (nn + m)) :: env) (l1 ++ (s'.ob, .cells s'.cs e s'.fz) :: l2) k) : GPop c n ops s Lq fuel listed env L k i := by
  intro a w hk hm hw
  subst hop
  refine gpop_of ho (Xs hk hg) ?_
  obtain ⟨s', w', hr, h1, h2, h3, h4, h5⟩ := run_append_any (P := c.P) w t u ty e ds ti z sz ht hu hds hi hz hsz hzs sl xs nn hown (fun b hb => hm.lies (by rw [hL, ← hb]; simp)) xv m news (hS w hm.has) h63 (by rw [hbt]; exact hbytes)
  have hrun : (execOp a.eval ⟨some d, .call ⟨.builtin .append, #[x, y], #[t, u]⟩, ty, ps, es, gd⟩).run c.P w = .ok (.value (s'.v (nn + m))) w' := by
    unfold execOp
    simp only [resolve, invoke, builtin, Sem.run_bind, Sem.run_pure, Result.andThen_ok, List.map_toArray, List.map_cons, List.map_nil, hk.eval hx, hk.eval hy, hr]
  rw [hrun, Oper.upon_value]
  subst hL
  have hm' := hm.grown h2 h3 h4
  obtain ⟨M', hM⟩ := hq s'
  have hs : PS_ c Lq s (listed.setIfInBounds i true) w' := ⟨hs_nil hm', fun _ => hs_of hm' hM⟩
  exact ⟨hs, h s' h1 h5 _ w' (hk.put hn _) hm' hs⟩
end
end Go.Proofs.Ytjnaeoelnmhjfaa

set_option linter.unusedSimpArgs false
set_option linter.unusedVariables false
namespace Go.Proofs.Ytjnaeoelnmhjfaa
open Go Go.RowKit

section
def poOf (n : List UInt8) (u : Int) (v1 v2 v3 : Sl) (T1 T2 T3 : TypeId) (l : List Cl) : Po := ⟨n, u, insOf v1 T1 (l.map Cl.v0), insOf v3 T3 (l.map Cl.s), insOf v2 T2 (l.map Cl.g)⟩
theorem zip_cls : ∀ l : List Cl, List.zipWith (fun a (p : Bool × Ins Tn) => (⟨a, p.1, p.2⟩ : Cl)) (l.map Cl.v0) ((l.map Cl.g).zip (l.map Cl.s)) = l
  | [] => rfl
  | x :: l => by
    show (⟨x.v0, x.g, x.s⟩ : Cl) :: _ = _
    exact congrArg (x :: ·) (zip_cls l)
theorem poOf_even (n : List UInt8) (u : Int) (v1 v2 v3 : Sl) (T1 T2 T3 : TypeId) (l : List Cl) : EvenPo (poOf n u v1 v2 v3 T1 T2 T3 l) := by simp [EvenPo, poOf, insOf]
theorem poOf_v (n : List UInt8) (u : Int) (v1 v2 v3 : Sl) (T1 T2 T3 : TypeId) (l : List Cl) : vPo (poOf n u v1 v2 v3 T1 T2 T3 l) = ⟨n, u, true, l.map vCl⟩ := by
  unfold vPo
  rw [if_pos (poOf_even ..), decide_eq_true (poOf_even ..)]
  show (⟨n, u, true, List.map vCl (clsOf (poOf n u v1 v2 v3 T1 T2 T3 l))⟩ : PP) = _
  rw [show clsOf (poOf n u v1 v2 v3 T1 T2 T3 l) = l from zip_cls l]
theorem poOf_c (n : List UInt8) (u : Int) (v1 v2 v3 : Sl) (T1 T2 T3 : TypeId) (l : List Cl) : (cPo (poOf n u v1 v2 v3 T1 T2 T3 l)).toArray = #[.string (bs n), .int .i64 u, v1.v l.length, v3.v l.length, v2.v l.length] := by simp [cPo, poOf, insOf, Sl.v]
theorem poOf_ok {n : List UInt8} {u : Int} {v1 v2 v3 : Sl} {T1 T2 T3 : TypeId} {l : List Cl} (hl : l.length ≤ 1000) (h1 : Own 1 v1 ((l.map Cl.v0).flatMap i1C) l.length) (h2 : Own 1 v2 ((l.map Cl.g).flatMap bC) l.length) (h3 : Own 1 v3 ((l.map Cl.s).flatMap shC) l.length) (hoks : ∀ m ∈ l, OkCl m) : OkPo (poOf n u v1 v2 v3 T1 T2 T3 l) := by
  refine ⟨Yh (by simpa using h1) (by simp; omega), Yh (by simpa using h2) (by simp; omega), Yh (by simpa using h3) (by simp; omega), fun s hs => ?_⟩
  obtain ⟨m, hm, rfl⟩ := List.mem_map.1 hs
  exact hoks m hm
theorem poOf_k {n : List UInt8} {u : Int} {v1 v2 v3 : Sl} {T1 T2 T3 : TypeId} {l : List Cl} {M : List HBk} {b : HBk} (hM : ∀ z ∈ b :: l.flatMap kCl, z ∈ M) : ∀ z ∈ kPo (poOf n u v1 v2 v3 T1 T2 T3 l), z ∈ (v1.ob, Obj.cells v1.cs T1 v1.fz) :: (v2.ob, Obj.cells v2.cs T2 v2.fz) :: (v3.ob, Obj.cells v3.cs T3 v3.fz) :: M := by
  refine sub_hd (sub_hd (sub_hd fun z hz => hM z (List.mem_cons_of_mem _ ?_)))
  obtain ⟨s, hs, hz⟩ := List.mem_flatMap.1 hz
  obtain ⟨m, hm, rfl⟩ := List.mem_map.1 hs
  exact List.mem_flatMap.2 ⟨m, hm, hz⟩
theorem Yc {α β : Type} (f : α → β) (g : β → List Value) {l : List α} {i : Nat} {y : α} (h : l[i]? = some y) : ((l.take i).map f).flatMap g ++ g (f y) = ((l.take (i + 1)).map f).flatMap g := by
  obtain ⟨hi, rfl⟩ := List.getElem?_eq_some_iff.1 h
  rw [List.take_succ_eq_append_getElem hi, List.map_append, List.flatMap_append]; exact congrArg _ (by simp)

set_option maxRecDepth 100000 in
set_option maxHeartbeats 4000000 in
theorem cr_pool (b br : Nat) (l : List UInt8) (e : Nat) (hl : l.length ≤ 140737488350000) (he : e ≤ 1000) (bx : Nat) (T : TypeId) :
    Ct Try.prog 104 [.pointer (some ⟨b, 0, none⟩), .pointer (some ⟨bx, 0, none⟩)] [(some b, .cells #[.pointer none, .slice none 0 0, .pointer (some ⟨br, 0, none⟩), .bool false] 80 (0, 0))] [(some br, .cells #[.string (bs l), .int .i64 ((e : Nat) : Int)] 169 (0, 0)), (some bx, .cells ((cPo (⟨[], 0, zIns Int, zIns (Ins Tn), zIns Bool⟩ : Po)).toArray) T (0, 0))] fun v post => ∃ (m : Po) (l1 : List UInt8) (e1 : Nat) (M : List HBk), OkPo m ∧ (∀ z ∈ kPo m, z ∈ M) ∧ Rdg encPP GPP l e (vPo m) l1 e1 ∧ v = .tuple #[] ∧ post = (some br, .cells #[.string (bs l1), .int .i64 ((e1 : Nat) : Int)] 169 (0, 0)) :: (some bx, .cells ((cPo m).toArray) T (0, 0)) :: M := by
 refine Yu Try.func104 rfl rfl (fun w0 => ?_)
 show G _ _ [(0, _), (1, _)] _ _
 refine Zh ?_
 refine Zd (l := [0, 1, 2, 3, 4, 5]) rfl ?_
 refine Za rfl rfl rfl rfl (Zc rfl rfl) ?_
 refine Za rfl rfl rfl rfl (Zc rfl rfl) ?_
 refine Za rfl rfl rfl rfl (Ze rfl rfl) ?_
 refine Za rfl rfl rfl rfl (Zb (fo := 0) rfl Try.underlying103 rfl i_9 rfl rfl rfl) ?_
 refine Yw rfl rfl rfl rfl (Zn (s := 1) (cs := [_]) rfl Try.underlying278 i_244 rfl rfl rfl rfl rfl rfl rfl rfl rfl) (fun b12 => ?_)
 refine Zq (L2 := [_]) rfl rfl rfl rfl rfl rfl Try.call142 (cr_textsL b br l e (by omega) (by omega) _ _ bx (cPo (⟨[], 0, zIns Int, zIns (Ins Tn), zIns Bool⟩ : Po)).toArray T [0] (by simp) (by intro y hy; simp only [List.mem_cons, List.not_mem_nil, or_false] at hy; subst hy; decide)) [1, 1] [1, 0] rfl rfl ?_
 rintro v post ⟨xs0, l1, e1, hxs, r0, rfl, rfl⟩
 show G _ _ _ [_, _, _] _
 obtain ⟨a0, rfl⟩ := len_1 hxs
 rw [show putAll (fun z : List UInt8 => Value.string (bs z)) (cPo (⟨[], 0, zIns Int, zIns (Ins Tn), zIns Bool⟩ : Po)).toArray [0] [a0] = #[.string (bs a0), .int .i64 0, .slice none 0 0, .slice none 0 0, .slice none 0 0] from rfl]
 have hl1_ := r0.len
 have he1_ := r0.err
 refine Zg ?_
 refine Zh ?_
 refine Zd (l := [0, 1, 2, 3, 4, 5]) rfl ?_
 refine Za rfl rfl rfl rfl (Zc rfl rfl) ?_
 refine Za rfl rfl rfl rfl (Zc rfl rfl) ?_
 refine Za rfl rfl rfl rfl (Ze rfl rfl) ?_
 refine Za rfl rfl rfl rfl (Zb (fo := 1) rfl Try.underlying103 rfl i_3 rfl rfl rfl) ?_
 refine Yw rfl rfl rfl rfl (Zn (s := 1) (cs := [_]) rfl Try.underlying241 i_176 rfl rfl rfl rfl rfl rfl rfl rfl rfl) (fun b18 => ?_)
 refine Zq (L2 := [_, _]) rfl rfl rfl rfl rfl rfl Try.call96 (cr_intsL b br l1 e1 (by omega) (by omega) _ _ bx #[.string (bs a0), .int .i64 0, .slice none 0 0, .slice none 0 0, .slice none 0 0] T [1] (by simp) (by intro y hy; simp only [List.mem_cons, List.not_mem_nil, or_false] at hy; subst hy; simp)) [1, 1] [1, 0] rfl rfl ?_
 rintro v post ⟨xs1, l2, e2, hxs1, r1, rfl, rfl⟩
 show G _ _ _ [_, _, _, _] _
 obtain ⟨a1, rfl⟩ := len_1 hxs1
 rw [show putAll (fun z : Int => Value.int .i64 z) #[.string (bs a0), .int .i64 0, .slice none 0 0, .slice none 0 0, .slice none 0 0] [1] [a1] = #[.string (bs a0), .int .i64 a1, .slice none 0 0, .slice none 0 0, .slice none 0 0] from rfl]
 have hl2_ := r1.len
 have he2_ := r1.err
 refine Zg ?_
 refine Zh ?_
 refine Zd (l := [0]) rfl ?_
 refine Yw rfl rfl rfl rfl (N_alloc1 rfl i_248 rfl rfl) (fun b4 => ?_)
 refine Zg ?_
 refine Zh ?_
 refine Zh ?_
 refine Yf (Lq := [_]) (isq := [2]) (m := 24) Yo rfl rfl ?_
 refine Zi 0 rfl rfl rfl rfl (by kernel_rfl) (fun _ _ => Zc rfl rfl) ?_
 refine Zi 1 rfl rfl rfl rfl (by kernel_rfl) (fun _ _ => Ze rfl rfl) ?_
 refine Zi 2 rfl rfl rfl rfl (by kernel_rfl) (fun _ _ => Zb (fo := 2) rfl Try.underlying103 rfl i_99 rfl rfl rfl) ?_
 refine Zi 3 rfl rfl rfl rfl (by kernel_rfl) (fun _ _ => Zj rfl rfl (Zf 1 rfl) rfl Try.underlying99 rfl) ?_
 refine Zi 4 rfl rfl rfl rfl (by kernel_rfl) (fun _ _ => Yp rfl rfl Try.underlying99 rfl) ?_
 refine Zi 5 rfl rfl rfl rfl (by kernel_rfl) (fun _ _ => Zc rfl rfl) ?_
 refine Zi 6 rfl rfl rfl rfl (by kernel_rfl) (fun _ _ => Ze rfl rfl) ?_
 refine Zi 7 rfl rfl rfl rfl (by kernel_rfl) (fun _ _ => Zb (fo := 3) rfl Try.underlying103 rfl i_100 rfl rfl rfl) ?_
 refine Zi 8 rfl rfl rfl rfl (by kernel_rfl) (fun _ _ => Zj rfl rfl (Zf 1 rfl) rfl Try.underlying100 rfl) ?_
 refine Zi 9 rfl rfl rfl rfl (by kernel_rfl) (fun _ _ => Yp rfl rfl Try.underlying100 rfl) ?_
 refine Zi 10 rfl rfl rfl rfl (by kernel_rfl) (fun _ _ => V_neq rfl rfl rfl) ?_
 refine Zi 11 rfl rfl rfl rfl (by kernel_rfl) (fun _ _ => Zc rfl rfl) ?_
 refine GH_splitD 31 rfl (fun hc1 => ?_) (fun hc1 => ?_)
 · (first | contradiction | (exact absurd rfl hc1) | (exfalso; omega) | (simp at hc1; done) | (exact absurd hc1 (by decide)) | (exact absurd (by decide) hc1))
 refine Zi 12 rfl rfl rfl rfl (by kernel_rfl) (fun _ _ => Zc rfl rfl) ?_
 refine Zi 13 rfl rfl rfl rfl (by kernel_rfl) (fun _ _ => Ze rfl rfl) ?_
 refine Zi 14 rfl rfl rfl rfl (by kernel_rfl) (fun _ _ => Zb (fo := 2) rfl Try.underlying103 rfl i_99 rfl rfl rfl) ?_
 refine Zi 15 rfl rfl rfl rfl (by kernel_rfl) (fun _ _ => Zj rfl rfl (Zf 1 rfl) rfl Try.underlying99 rfl) ?_
 refine Zi 16 rfl rfl rfl rfl (by kernel_rfl) (fun _ _ => Yp rfl rfl Try.underlying99 rfl) ?_
 refine Zi 17 rfl rfl rfl rfl (by kernel_rfl) (fun _ _ => Zc rfl rfl) ?_
 refine Zi 18 rfl rfl rfl rfl (by kernel_rfl) (fun _ _ => Ze rfl rfl) ?_
 refine Zi 19 rfl rfl rfl rfl (by kernel_rfl) (fun _ _ => Zb (fo := 4) rfl Try.underlying103 rfl i_101 rfl rfl rfl) ?_
 refine Zi 20 rfl rfl rfl rfl (by kernel_rfl) (fun _ _ => Zj rfl rfl (Zf 1 rfl) rfl Try.underlying101 rfl) ?_
 refine Zi 21 rfl rfl rfl rfl (by kernel_rfl) (fun _ _ => Yp rfl rfl Try.underlying101 rfl) ?_
 refine Zi 22 rfl rfl rfl rfl (by kernel_rfl) (fun _ _ => V_neq rfl rfl rfl) ?_
 refine Zi 23 rfl rfl rfl rfl (by kernel_rfl) (fun _ _ => Xg rfl rfl rfl) ?_
 refine Ya (by kernel_rfl) ?_
 refine Yk rfl (fun hc2 => ?_) (fun hc2 => ?_)
 · (first | contradiction | (exact absurd rfl hc2) | (exfalso; omega) | (simp at hc2; done) | (exact absurd hc2 (by decide)) | (exact absurd (by decide) hc2))
 refine Zu ?_
 refine Zh ?_
 refine Zh ?_
 refine Zd (l := [0, 1, 2, 3, 4, 5]) rfl ?_
 refine Za rfl rfl rfl rfl (Zc rfl rfl) ?_
 refine Za rfl rfl rfl rfl (Ze rfl rfl) ?_
 refine Za rfl rfl rfl rfl (Zb (fo := 2) rfl Try.underlying103 rfl i_99 rfl rfl rfl) ?_
 refine Za rfl rfl rfl rfl (Zj rfl rfl (Zf 3 rfl) rfl Try.underlying99 rfl) ?_
 refine Za rfl rfl rfl rfl (Yp rfl rfl Try.underlying99 rfl) ?_
 refine Za rfl rfl rfl rfl (Zc rfl rfl) ?_
 refine Zg ?_
 refine Zs ?_
 refine G_loop1 ?_
 refine Zh ?_
 refine Zd (l := [0]) rfl ?_
 refine Za rfl rfl rfl rfl (Xn rfl rfl rfl) ?_
 refine Zg ?_
 refine Zh ?_
 refine Yk rfl (fun hc3 => ?_) (fun hc3 => ?_)
 · (first | contradiction | (exact absurd rfl hc3) | (exfalso; omega) | (simp at hc3; done) | (exact absurd hc3 (by decide)) | (exact absurd (by decide) hc3))
 refine Yr rfl ?_
 refine Zh ?_
 refine Zd (l := [0, 1, 2, 3]) rfl ?_
 refine Za rfl rfl rfl rfl (Zc rfl rfl) ?_
 refine Za rfl rfl rfl rfl (Zc rfl rfl) ?_
 refine Za rfl rfl rfl rfl (V_func rfl rfl rfl) ?_
 refine Zq (L2 := [_, _, _]) rfl rfl rfl rfl rfl rfl Try.call143 (cr_listCl b br l2 e2 (by omega) (by omega) b4 0 #[.slice none 0 0] _ rfl) [1, 0] [0] rfl rfl ?_
 rintro v post ⟨s, l3, e3, M, hso, hsl, r2, hoks, hM, rfl, rfl⟩
 refine G_perm (perm_in0 [_, _] [_, _, _] _) ?_
 show G _ _ _ (_ :: _ :: _ :: _ :: _ :: _) _
 rw [show (#[.slice none 0 0] : Array Value).setIfInBounds 0 (insV s) = #[insV s] from rfl]
 refine Zg ?_
 refine Zh ?_
 refine Zh ?_
 refine Zd (l := [0, 1, 2, 3, 4]) rfl ?_
 refine Za rfl rfl rfl rfl (Zc rfl rfl) ?_
 refine Za rfl rfl rfl rfl (Ze rfl rfl) ?_
 refine Za rfl rfl rfl rfl (Zb (fo := 2) rfl Try.underlying80 rfl i_74 rfl rfl rfl) ?_
 refine Za rfl rfl rfl rfl (Zj rfl rfl (Zf 0 rfl) rfl Try.underlying74 rfl) ?_
 refine Za rfl rfl rfl rfl (V_peqlN rfl Try.underlying74 rfl rfl) ?_
 refine Zg ?_
 refine Xu rfl ?_
 refine Zu ?_
 refine Zh ?_
 refine Xq (.cells #[] 109 (0, 0)) ?_
 refine Xq (.cells #[] 4 (0, 0)) ?_
 refine Xq (.cells #[] 3 (0, 0)) ?_
 refine Zd (l := [0, 1, 2]) rfl ?_
 refine Za rfl rfl rfl rfl (Zj rfl rfl (Zf 5 rfl) rfl Try.underlying248 rfl) ?_
 refine Za rfl rfl rfl rfl (Yp rfl rfl Try.underlying248 rfl) ?_
 refine Za rfl rfl rfl rfl (Zc rfl rfl) ?_
 refine Zg ?_
 refine Zs ?_
 refine Xj (L1 := [_, _, _, _, _]) ?he13 [3, 4, 0, 0, 0] ?hl13 (Xb (X := Nat × Sl × Sl × Sl) (fun x_ => match x_ with | ⟨i, v1, v2, v3⟩ => i ≤ s.l.length ∧ Own 1 v1 (((s.l.take (i)).map Cl.v0).flatMap i1C) (i) ∧ Own 1 v2 (((s.l.take (i)).map Cl.g).flatMap bC) (i) ∧ Own 1 v3 (((s.l.take (i)).map Cl.s).flatMap shC) (i)) (fun x_ => match x_ with | ⟨i, v1, v2, v3⟩ => s.l.length - i) (fun x_ => match x_ with | ⟨i, v1, v2, v3⟩ => [(0, .pointer (some ⟨b, 0, none⟩)), (1, .pointer (some ⟨bx, 0, none⟩)), (90, .slice s.p s.l.length s.cap), (91, .int .i64 (s.l.length : Int)), (92, .int .i64 (i : Int))]) (fun x_ => match x_ with | ⟨i, v1, v2, v3⟩ => ((some br, .cells #[.string (bs l3), .int .i64 ((e3 : Nat) : Int)] 169 (0, 0)) :: (some bx, .cells (#[.string (bs a0), .int .i64 a1, v1.v i, v3.v i, v2.v i]) T (0, 0)) :: (v1.ob, .cells v1.cs 3 v1.fz) :: (v2.ob, .cells v2.cs 4 v2.fz) :: (v3.ob, .cells v3.cs 109 v3.fz) :: M)) ?round13 (0, slNil, slNil, slNil) ?h013)
 case he13 => exact (And.intro rfl (And.intro rfl (And.intro rfl (And.intro rfl (And.intro rfl trivial)))))
 case hl13 => exact ⟨_, _, rfl, List.perm_append_comm (l₁ := [_, _, _])⟩
 case h013 => exact ⟨Nat.zero_le _, own_nil 1, own_nil 1, own_nil 1⟩
 case round13 =>
  intro x_ hJ ih
  try dsimp only at hJ ih
  obtain ⟨i, v1, v2, v3⟩ := x_
  try dsimp only at hJ ih
  obtain ⟨hi, h1, h2, h3⟩ := hJ
  show G _ _ [(0, .pointer (some ⟨b, 0, none⟩)), (1, .pointer (some ⟨bx, 0, none⟩)), (90, .slice s.p s.l.length s.cap), (91, .int .i64 (s.l.length : Int)), (92, .int .i64 (i : Int))] ((some br, .cells #[.string (bs l3), .int .i64 ((e3 : Nat) : Int)] 169 (0, 0)) :: (some bx, .cells (#[.string (bs a0), .int .i64 a1, v1.v i, v3.v i, v2.v i]) T (0, 0)) :: (v1.ob, .cells v1.cs 3 v1.fz) :: (v2.ob, .cells v2.cs 4 v2.fz) :: (v3.ob, .cells v3.cs 109 v3.fz) :: M) _
  refine Zh ?_
  refine Zd (l := [0]) rfl ?_
  refine Za rfl rfl rfl rfl (Xn rfl rfl rfl) ?_
  refine Zg ?_
  refine Zh ?_
  refine Yk rfl (fun hc4 => ?_) (fun hc4 => ?_)
  ·
   refine Zu ?_
   refine Zh ?_
   refine Zs ?_
   refine Zh ?_
   obtain ⟨c, hc⟩ := getI (show i < s.l.length by omega)
   obtain ⟨bi, hb1, hb2, hss⟩ := hso.isS (i := i) (by omega)
   rw [hb1]
   refine Zd (l := [0, 1, 2, 3]) rfl ?_
   refine Za rfl rfl rfl rfl (Zo (s := 3) rfl Try.underlying248 i_250 rfl rfl rfl rfl (by omega)) ?_
   refine Za rfl rfl rfl rfl (Xp (s := 3) (vs := (cCl c).toArray) rfl rfl (by rw [← Xc hb2]; exact List.mem_append_right _ (List.mem_append_right ([_, _, _, _, _] : List HBk) (hM _ List.mem_cons_self))) Try.underlying250 rfl i_250 rfl (hss.elem cCl_len hc) (by rfl)) ?_
   refine Yw rfl rfl rfl rfl (Ym rfl i_250 rfl) (fun b7 => ?_)
   refine Yj (l1 := []) (L' := (_ :: _ :: _ :: _ :: _ :: _ :: _)) rfl rfl rfl rfl (Yv (s := 3) rfl rfl rfl (Zf 0 rfl) (by rfl) i_250 rfl (by rfl) (by simp [Value.oneCell', cOp, cWk, cIv, cHr, cLt, cWt, cIt, cFl, cTn, cCl, cPo, cSt, cDt, cDs, Sl.v, zIns, insV])) rfl ?_
   refine Zg ?_
   refine GP_start 29 (Lq := [_, _]) (isq := [2, 0]) (m := 36) Yo rfl rfl ?_
   refine GP_join (X := {y : Sl × Sl × Sl // Own 1 y.1 (((s.l.take (i + 1)).map Cl.v0).flatMap i1C) (i + 1) ∧ Own 1 y.2.1 (((s.l.take (i + 1)).map Cl.g).flatMap bC) (i + 1) ∧ Own 1 y.2.2 (((s.l.take (i + 1)).map Cl.s).flatMap shC) (i + 1)}) (fun xj => match xj with | ⟨⟨y1, y2, y3⟩, hy⟩ => [(0, .pointer (some ⟨b, 0, none⟩)), (1, .pointer (some ⟨bx, 0, none⟩)), (90, .slice (some ⟨bi, s.off, none⟩) s.l.length s.cap), (91, .int .i64 (s.l.length : Int)), (92, .int .i64 (i : Int))]) (fun xj => match xj with | ⟨⟨y1, y2, y3⟩, hy⟩ => ((some br, .cells #[.string (bs l3), .int .i64 ((e3 : Nat) : Int)] 169 (0, 0)) :: (some bx, .cells (#[.string (bs a0), .int .i64 a1, y1.v (i + 1), y3.v (i + 1), y2.v (i + 1)]) T (0, 0)) :: (y1.ob, .cells y1.cs 3 y1.fz) :: (y2.ob, .cells y2.cs 4 y2.fz) :: (y3.ob, .cells y3.cs 109 y3.fz) :: M)) ?rest15 (fun jn15 => ?main15)
   case rest15 =>
    intro xj
    obtain ⟨⟨y1, y2, y3⟩, hy⟩ := xj
    show G _ _ [(0, .pointer (some ⟨b, 0, none⟩)), (1, .pointer (some ⟨bx, 0, none⟩)), (90, .slice (some ⟨bi, s.off, none⟩) s.l.length s.cap), (91, .int .i64 (s.l.length : Int)), (92, .int .i64 (i : Int))] ((some br, .cells #[.string (bs l3), .int .i64 ((e3 : Nat) : Int)] 169 (0, 0)) :: (some bx, .cells (#[.string (bs a0), .int .i64 a1, y1.v (i + 1), y3.v (i + 1), y2.v (i + 1)]) T (0, 0)) :: (y1.ob, .cells y1.cs 3 y1.fz) :: (y2.ob, .cells y2.cs 4 y2.fz) :: (y3.ob, .cells y3.cs 109 y3.fz) :: M) _
    refine Zv ?_
    refine Zd (l := [0, 1]) rfl ?_
    refine Za rfl rfl rfl rfl ((Xe rfl rfl rfl).int (Zw (by omega))) ?_
    refine Za rfl rfl rfl rfl (Zc rfl rfl) ?_
    refine Zg ?_
    refine Xj (L1 := [_, _, _, _, _]) ?_ [0, 0, 0, 0, 0] ?_ (ih (i + 1, y1, y2, y3) ?_ ?_)
    · (refine (And.intro ?_ (And.intro ?_ (And.intro ?_ (And.intro ?_ (And.intro ?_ trivial))))) <;> first | rfl | exact Zl (by omega) | (rw [hb1]; rfl))
    · exact ⟨_, _, rfl, List.perm_append_comm (l₁ := [])⟩
    · exact ⟨by omega, hy⟩
    · (first | omega | (dsimp only; omega))
   case main15 =>
    refine Zx 0 rfl rfl rfl rfl (by kernel_rfl) (by kernel_rfl) (by kernel_rfl) (by decide) (fun _ _ => (Zc rfl rfl)) ?_
    refine Zx 1 rfl rfl rfl rfl (by kernel_rfl) (by kernel_rfl) (by kernel_rfl) (by decide) (fun _ _ => (Zc rfl rfl)) ?_
    refine Zx 2 rfl rfl rfl rfl (by kernel_rfl) (by kernel_rfl) (by kernel_rfl) (by decide) (fun _ _ => (Zc rfl rfl)) ?_
    refine Zx 3 rfl rfl rfl rfl (by kernel_rfl) (by kernel_rfl) (by kernel_rfl) (by decide) (fun _ _ => (Zc rfl rfl)) ?_
    refine Zx 4 rfl rfl rfl rfl (by kernel_rfl) (by kernel_rfl) (by kernel_rfl) (by decide) (fun _ _ => (Ze rfl rfl)) ?_
    refine Zx 5 rfl rfl rfl rfl (by kernel_rfl) (by kernel_rfl) (by kernel_rfl) (by decide) (fun _ _ => (Zb (fo := 2) rfl Try.underlying103 rfl i_99 rfl rfl rfl)) ?_
    refine GP_takeL 6 [] rfl rfl rfl rfl (by kernel_rfl) (by kernel_rfl) (by kernel_rfl) (by decide) (by kernel_rfl) (by kernel_rfl) (fun _ _ => (Zj rfl rfl (Zf 1 rfl) rfl Try.underlying99 rfl)) ?_
    refine Zx 7 rfl rfl rfl rfl (by kernel_rfl) (by kernel_rfl) (by kernel_rfl) (by decide) (fun _ _ => (Zb (fo := 0) rfl Try.underlying250 rfl i_3 rfl rfl rfl)) ?_
    refine GP_takeL 8 [] rfl rfl rfl rfl (by kernel_rfl) (by kernel_rfl) (by kernel_rfl) (by decide) (by kernel_rfl) (by kernel_rfl) (fun _ _ => (Zj rfl rfl (Zf 2 rfl) rfl Try.underlying3 rfl)) ?_
    refine Zx 11 rfl rfl rfl rfl (by kernel_rfl) (by kernel_rfl) (by kernel_rfl) (by decide) (fun _ _ => (Zc rfl rfl)) ?_
    refine Zx 12 rfl rfl rfl rfl (by kernel_rfl) (by kernel_rfl) (by kernel_rfl) (by decide) (fun _ _ => (Ze rfl rfl)) ?_
    refine Zx 13 rfl rfl rfl rfl (by kernel_rfl) (by kernel_rfl) (by kernel_rfl) (by decide) (fun _ _ => (Zb (fo := 4) rfl Try.underlying103 rfl i_101 rfl rfl rfl)) ?_
    refine GP_takeL 14 [] rfl rfl rfl rfl (by kernel_rfl) (by kernel_rfl) (by kernel_rfl) (by decide) (by kernel_rfl) (by kernel_rfl) (fun _ _ => (Zj rfl rfl (Zf 1 rfl) rfl Try.underlying101 rfl)) ?_
    refine Zx 15 rfl rfl rfl rfl (by kernel_rfl) (by kernel_rfl) (by kernel_rfl) (by decide) (fun _ _ => (Zb (fo := 1) rfl Try.underlying250 rfl i_4 rfl rfl rfl)) ?_
    refine GP_takeL 16 [18, 17] rfl rfl rfl rfl (by kernel_rfl) (by kernel_rfl) (by kernel_rfl) (by decide) (by kernel_rfl) (by kernel_rfl) (fun _ _ => (Zj rfl rfl (Zf 2 rfl) rfl Try.underlying4 rfl)) ?_
    refine Zx 19 rfl rfl rfl rfl (by kernel_rfl) (by kernel_rfl) (by kernel_rfl) (by decide) (fun _ _ => (Zc rfl rfl)) ?_
    refine Zx 20 rfl rfl rfl rfl (by kernel_rfl) (by kernel_rfl) (by kernel_rfl) (by decide) (fun _ _ => (Ze rfl rfl)) ?_
    refine Zx 21 rfl rfl rfl rfl (by kernel_rfl) (by kernel_rfl) (by kernel_rfl) (by decide) (fun _ _ => (Zb (fo := 3) rfl Try.underlying103 rfl i_100 rfl rfl rfl)) ?_
    refine GP_takeL 22 [] rfl rfl rfl rfl (by kernel_rfl) (by kernel_rfl) (by kernel_rfl) (by decide) (by kernel_rfl) (by kernel_rfl) (fun _ _ => (Zj rfl rfl (Zf 1 rfl) rfl Try.underlying100 rfl)) ?_
    refine Zx 23 rfl rfl rfl rfl (by kernel_rfl) (by kernel_rfl) (by kernel_rfl) (by decide) (fun _ _ => (Zb (fo := 2) rfl Try.underlying250 rfl i_109 rfl rfl rfl)) ?_
    refine GP_takeL 24 [26, 25] rfl rfl rfl rfl (by kernel_rfl) (by kernel_rfl) (by kernel_rfl) (by decide) (by kernel_rfl) (by kernel_rfl) (fun _ _ => (Zj rfl rfl (Zf 2 rfl) rfl Try.underlying109 rfl)) ?_
    refine GP_all [9, 17, 25] (by kernel_rfl) (by decide) ?_
    refine (And.intro ?_ (And.intro ?_ (And.intro ?_ trivial)))
    ·
     refine GPop_new rfl rfl rfl rfl (Zn (s := 1) (cs := [_]) rfl Try.underlying99 i_3 rfl rfl rfl rfl rfl rfl rfl rfl rfl) [3, 1] (fun _ => ⟨_, rfl⟩) (fun b105 => ?_)
     refine GP_all [10, 17, 25] (by kernel_rfl) (by decide) ?_
     refine (And.intro ?_ (And.intro ?_ (And.intro ?_ trivial)))
     ·
      refine Yn (l1 := [_, _, _, _]) (sl := v1) (nn := i) (m := 1) (news := (i1C c.v0)) (bt := 8) rfl rfl rfl rfl Try.underlying99 Try.underlying99 (by first | exact .inl rfl | exact .inr ⟨_, rfl⟩) i_3 rfl rfl rfl rfl rfl rfl h1 rfl (Yg (Zf 1 rfl) rfl rfl (by simp [i1C, Value.oneCell'])) (by omega) (by omega) [3, 1] (fun _ => ⟨_, rfl⟩) ?_
      intro w1 hw1 _
      show GP _ _ _ _ _ _ _ _ (_ :: _ :: _ :: _ :: _ :: _ :: _ :: _) _
      refine GP_all [17, 25] (by kernel_rfl) (by decide) ?_
      refine (And.intro ?_ (And.intro ?_ trivial))
      ·
       refine GPop_new rfl rfl rfl rfl (Zn (s := 1) (cs := [_]) rfl Try.underlying101 i_4 rfl rfl rfl rfl rfl rfl rfl rfl rfl) [4, 2] (fun _ => ⟨_, rfl⟩) (fun b113 => ?_)
       refine GP_all [18, 25] (by kernel_rfl) (by decide) ?_
       refine (And.intro ?_ (And.intro ?_ trivial))
       ·
        refine Yn (l1 := [_, _, _, _, _, _]) (sl := v2) (nn := i) (m := 1) (news := (bC c.g)) (bt := 1) rfl rfl rfl rfl Try.underlying101 Try.underlying101 (by first | exact .inl rfl | exact .inr ⟨_, rfl⟩) i_4 rfl rfl rfl rfl rfl rfl h2 rfl (Yg (Zf 1 rfl) rfl rfl (by simp [bC, Value.oneCell'])) (by omega) (by omega) [4, 2] (fun _ => ⟨_, rfl⟩) ?_
        intro w2 hw2 _
        show GP _ _ _ _ _ _ _ _ (_ :: _ :: _ :: _ :: _ :: _ :: _ :: _ :: _) _
        refine GP_all [25] (by kernel_rfl) (by decide) ?_
        refine (And.intro ?_ trivial)
        ·
         refine GPop_new rfl rfl rfl rfl (Zn (s := 1) (cs := [_]) rfl Try.underlying100 i_109 rfl rfl rfl rfl rfl rfl rfl rfl rfl) [5, 3] (fun _ => ⟨_, rfl⟩) (fun b121 => ?_)
         refine GP_all [26] (by kernel_rfl) (by decide) ?_
         refine (And.intro ?_ trivial)
         ·
          refine Yn (l1 := [_, _, _, _, _, _, _, _]) (sl := v3) (nn := i) (m := 1) (news := (shC c.s)) (bt := 24) rfl rfl rfl rfl Try.underlying100 Try.underlying100 (by first | exact .inl rfl | exact .inr ⟨_, rfl⟩) i_109 rfl rfl rfl rfl rfl rfl h3 rfl (Yg (Zf 1 rfl) rfl rfl (by simp [shC, Value.oneCell'])) (by omega) (by omega) [5, 3] (fun _ => ⟨_, rfl⟩) ?_
          intro w3 hw3 _
          show GP _ _ _ _ _ _ _ _ (_ :: _ :: _ :: _ :: _ :: _ :: _ :: _ :: _ :: _) _
          refine Zx 27 rfl rfl rfl rfl (by kernel_rfl) (by kernel_rfl) (by kernel_rfl) (by decide) (fun _ _ => (Ze rfl rfl)) ?_
          refine Zx 28 rfl rfl rfl rfl (by kernel_rfl) (by kernel_rfl) (by kernel_rfl) (by decide) (fun _ _ => (Zb (fo := 2) rfl Try.underlying103 rfl i_99 rfl rfl rfl)) ?_
          refine GP_all [29] (by kernel_rfl) (by decide) ?_
          refine (And.intro ?_ trivial)
          ·
           refine Xf (l1 := [_, _, _, _, _]) (L' := (_ :: _ :: _ :: _ :: _ :: _ :: _ :: _ :: _ :: _)) rfl rfl rfl rfl (Zm rfl rfl rfl (Zf 5 rfl) (by first | exact of_decide_eq_true rfl | omega | (simp [cOp, cWk, cIv, cHr, cLt, cWt, cIt, cFl, cTn, cCl, cPo, cSt, cDt, cDs, Sl.v, zIns, insV]; done) | (simp [cOp, cWk, cIv, cHr, cLt, cWt, cIt, cFl, cTn, cCl, cPo, cSt, cDt, cDs, Sl.v, zIns, insV]; omega) | (simp [cOp, cWk, cIv, cHr, cLt, cWt, cIt, cFl, cTn, cCl, cPo, cSt, cDt, cDs, Sl.v, zIns, insV] at *; omega)) i_99 rfl rfl) rfl (by kernel_rfl) ?_
           refine Zx 30 rfl rfl rfl rfl (by kernel_rfl) (by kernel_rfl) (by kernel_rfl) (by decide) (fun _ _ => (Ze rfl rfl)) ?_
           refine Zx 31 rfl rfl rfl rfl (by kernel_rfl) (by kernel_rfl) (by kernel_rfl) (by decide) (fun _ _ => (Zb (fo := 4) rfl Try.underlying103 rfl i_101 rfl rfl rfl)) ?_
           refine GP_all [32] (by kernel_rfl) (by decide) ?_
           refine (And.intro ?_ trivial)
           ·
            refine Xf (l1 := [_, _, _, _, _]) (L' := (_ :: _ :: _ :: _ :: _ :: _ :: _ :: _ :: _ :: _)) rfl rfl rfl rfl (Zm rfl rfl rfl (Zf 5 rfl) (by first | exact of_decide_eq_true rfl | omega | (simp [cOp, cWk, cIv, cHr, cLt, cWt, cIt, cFl, cTn, cCl, cPo, cSt, cDt, cDs, Sl.v, zIns, insV]; done) | (simp [cOp, cWk, cIv, cHr, cLt, cWt, cIt, cFl, cTn, cCl, cPo, cSt, cDt, cDs, Sl.v, zIns, insV]; omega) | (simp [cOp, cWk, cIv, cHr, cLt, cWt, cIt, cFl, cTn, cCl, cPo, cSt, cDt, cDs, Sl.v, zIns, insV] at *; omega)) i_101 rfl rfl) rfl (by kernel_rfl) ?_
            refine Zx 33 rfl rfl rfl rfl (by kernel_rfl) (by kernel_rfl) (by kernel_rfl) (by decide) (fun _ _ => (Ze rfl rfl)) ?_
            refine Zx 34 rfl rfl rfl rfl (by kernel_rfl) (by kernel_rfl) (by kernel_rfl) (by decide) (fun _ _ => (Zb (fo := 3) rfl Try.underlying103 rfl i_100 rfl rfl rfl)) ?_
            refine GP_all [35] (by kernel_rfl) (by decide) ?_
            refine (And.intro ?_ trivial)
            ·
             refine Xf (l1 := [_, _, _, _, _]) (L' := (_ :: _ :: _ :: _ :: _ :: _ :: _ :: _ :: _ :: _)) rfl rfl rfl rfl (Zm rfl rfl rfl (Zf 5 rfl) (by first | exact of_decide_eq_true rfl | omega | (simp [cOp, cWk, cIv, cHr, cLt, cWt, cIt, cFl, cTn, cCl, cPo, cSt, cDt, cDs, Sl.v, zIns, insV]; done) | (simp [cOp, cWk, cIv, cHr, cLt, cWt, cIt, cFl, cTn, cCl, cPo, cSt, cDt, cDs, Sl.v, zIns, insV]; omega) | (simp [cOp, cWk, cIv, cHr, cLt, cWt, cIt, cFl, cTn, cCl, cPo, cSt, cDt, cDs, Sl.v, zIns, insV] at *; omega)) i_100 rfl rfl) rfl (by kernel_rfl) ?_
             refine GP_done (by kernel_rfl) ?_
             exact Xj (L1 := [_, _, _, _, _]) (by exact (And.intro rfl (And.intro rfl (And.intro rfl (And.intro rfl (And.intro rfl trivial)))))) [4, 4, 4, 4, 4] (by exact ⟨_, _, rfl, List.perm_append_comm (l₁ := [_, _, _, _])⟩) (jn15 ⟨(w1, w2, w3), by rw [← Yc Cl.v0 i1C hc, ← Yc Cl.g bC hc, ← Yc Cl.s shC hc]; exact ⟨hw1, hw2, hw3⟩⟩)
       ·
        refine GPop_new rfl rfl rfl rfl (Zn (s := 1) (cs := [_]) rfl Try.underlying100 i_109 rfl rfl rfl rfl rfl rfl rfl rfl rfl) [5, 3] (fun _ => ⟨_, rfl⟩) (fun b121 => ?_)
        refine GP_all [18] (by kernel_rfl) (by decide) ?_
        refine (And.intro ?_ trivial)
        ·
         refine Yn (l1 := [_, _, _, _, _, _, _]) (sl := v2) (nn := i) (m := 1) (news := (bC c.g)) (bt := 1) rfl rfl rfl rfl Try.underlying101 Try.underlying101 (by first | exact .inl rfl | exact .inr ⟨_, rfl⟩) i_4 rfl rfl rfl rfl rfl rfl h2 rfl (Yg (Zf 2 rfl) rfl rfl (by simp [bC, Value.oneCell'])) (by omega) (by omega) [5, 3] (fun _ => ⟨_, rfl⟩) ?_
         intro w2 hw2 _
         show GP _ _ _ _ _ _ _ _ (_ :: _ :: _ :: _ :: _ :: _ :: _ :: _ :: _ :: _) _
         refine GP_all [26] (by kernel_rfl) (by decide) ?_
         refine (And.intro ?_ trivial)
         ·
          refine Yn (l1 := [_, _, _, _, _, _, _, _]) (sl := v3) (nn := i) (m := 1) (news := (shC c.s)) (bt := 24) rfl rfl rfl rfl Try.underlying100 Try.underlying100 (by first | exact .inl rfl | exact .inr ⟨_, rfl⟩) i_109 rfl rfl rfl rfl rfl rfl h3 rfl (Yg (Zf 1 rfl) rfl rfl (by simp [shC, Value.oneCell'])) (by omega) (by omega) [5, 3] (fun _ => ⟨_, rfl⟩) ?_
          intro w3 hw3 _
          show GP _ _ _ _ _ _ _ _ (_ :: _ :: _ :: _ :: _ :: _ :: _ :: _ :: _ :: _) _
          refine Zx 27 rfl rfl rfl rfl (by kernel_rfl) (by kernel_rfl) (by kernel_rfl) (by decide) (fun _ _ => (Ze rfl rfl)) ?_
          refine Zx 28 rfl rfl rfl rfl (by kernel_rfl) (by kernel_rfl) (by kernel_rfl) (by decide) (fun _ _ => (Zb (fo := 2) rfl Try.underlying103 rfl i_99 rfl rfl rfl)) ?_
          refine GP_all [29] (by kernel_rfl) (by decide) ?_
          refine (And.intro ?_ trivial)
          ·
           refine Xf (l1 := [_, _, _, _, _]) (L' := (_ :: _ :: _ :: _ :: _ :: _ :: _ :: _ :: _ :: _)) rfl rfl rfl rfl (Zm rfl rfl rfl (Zf 5 rfl) (by first | exact of_decide_eq_true rfl | omega | (simp [cOp, cWk, cIv, cHr, cLt, cWt, cIt, cFl, cTn, cCl, cPo, cSt, cDt, cDs, Sl.v, zIns, insV]; done) | (simp [cOp, cWk, cIv, cHr, cLt, cWt, cIt, cFl, cTn, cCl, cPo, cSt, cDt, cDs, Sl.v, zIns, insV]; omega) | (simp [cOp, cWk, cIv, cHr, cLt, cWt, cIt, cFl, cTn, cCl, cPo, cSt, cDt, cDs, Sl.v, zIns, insV] at *; omega)) i_99 rfl rfl) rfl (by kernel_rfl) ?_
           refine Zx 30 rfl rfl rfl rfl (by kernel_rfl) (by kernel_rfl) (by kernel_rfl) (by decide) (fun _ _ => (Ze rfl rfl)) ?_
           refine Zx 31 rfl rfl rfl rfl (by kernel_rfl) (by kernel_rfl) (by kernel_rfl) (by decide) (fun _ _ => (Zb (fo := 4) rfl Try.underlying103 rfl i_101 rfl rfl rfl)) ?_
           refine GP_all [32] (by kernel_rfl) (by decide) ?_
           refine (And.intro ?_ trivial)
           ·
            refine Xf (l1 := [_, _, _, _, _]) (L' := (_ :: _ :: _ :: _ :: _ :: _ :: _ :: _ :: _ :: _)) rfl rfl rfl rfl (Zm rfl rfl rfl (Zf 5 rfl) (by first | exact of_decide_eq_true rfl | omega | (simp [cOp, cWk, cIv, cHr, cLt, cWt, cIt, cFl, cTn, cCl, cPo, cSt, cDt, cDs, Sl.v, zIns, insV]; done) | (simp [cOp, cWk, cIv, cHr, cLt, cWt, cIt, cFl, cTn, cCl, cPo, cSt, cDt, cDs, Sl.v, zIns, insV]; omega) | (simp [cOp, cWk, cIv, cHr, cLt, cWt, cIt, cFl, cTn, cCl, cPo, cSt, cDt, cDs, Sl.v, zIns, insV] at *; omega)) i_101 rfl rfl) rfl (by kernel_rfl) ?_
            refine Zx 33 rfl rfl rfl rfl (by kernel_rfl) (by kernel_rfl) (by kernel_rfl) (by decide) (fun _ _ => (Ze rfl rfl)) ?_
            refine Zx 34 rfl rfl rfl rfl (by kernel_rfl) (by kernel_rfl) (by kernel_rfl) (by decide) (fun _ _ => (Zb (fo := 3) rfl Try.underlying103 rfl i_100 rfl rfl rfl)) ?_
            refine GP_all [35] (by kernel_rfl) (by decide) ?_
            refine (And.intro ?_ trivial)
            ·
             refine Xf (l1 := [_, _, _, _, _]) (L' := (_ :: _ :: _ :: _ :: _ :: _ :: _ :: _ :: _ :: _)) rfl rfl rfl rfl (Zm rfl rfl rfl (Zf 5 rfl) (by first | exact of_decide_eq_true rfl | omega | (simp [cOp, cWk, cIv, cHr, cLt, cWt, cIt, cFl, cTn, cCl, cPo, cSt, cDt, cDs, Sl.v, zIns, insV]; done) | (simp [cOp, cWk, cIv, cHr, cLt, cWt, cIt, cFl, cTn, cCl, cPo, cSt, cDt, cDs, Sl.v, zIns, insV]; omega) | (simp [cOp, cWk, cIv, cHr, cLt, cWt, cIt, cFl, cTn, cCl, cPo, cSt, cDt, cDs, Sl.v, zIns, insV] at *; omega)) i_100 rfl rfl) rfl (by kernel_rfl) ?_
             refine GP_done (by kernel_rfl) ?_
             exact Xj (L1 := [_, _, _, _, _]) (by exact (And.intro rfl (And.intro rfl (And.intro rfl (And.intro rfl (And.intro rfl trivial)))))) [4, 4, 4, 4, 4] (by exact ⟨_, _, rfl, List.perm_append_comm (l₁ := [_, _, _, _])⟩) (jn15 ⟨(w1, w2, w3), by rw [← Yc Cl.v0 i1C hc, ← Yc Cl.g bC hc, ← Yc Cl.s shC hc]; exact ⟨hw1, hw2, hw3⟩⟩)
      ·
       refine GPop_new rfl rfl rfl rfl (Zn (s := 1) (cs := [_]) rfl Try.underlying100 i_109 rfl rfl rfl rfl rfl rfl rfl rfl rfl) [4, 2] (fun _ => ⟨_, rfl⟩) (fun b121 => ?_)
       refine GP_all [17] (by kernel_rfl) (by decide) ?_
       refine (And.intro ?_ trivial)
       ·
        refine GPop_new rfl rfl rfl rfl (Zn (s := 1) (cs := [_]) rfl Try.underlying101 i_4 rfl rfl rfl rfl rfl rfl rfl rfl rfl) [5, 3] (fun _ => ⟨_, rfl⟩) (fun b113 => ?_)
        refine GP_all [18] (by kernel_rfl) (by decide) ?_
        refine (And.intro ?_ trivial)
        ·
         refine Yn (l1 := [_, _, _, _, _, _, _]) (sl := v2) (nn := i) (m := 1) (news := (bC c.g)) (bt := 1) rfl rfl rfl rfl Try.underlying101 Try.underlying101 (by first | exact .inl rfl | exact .inr ⟨_, rfl⟩) i_4 rfl rfl rfl rfl rfl rfl h2 rfl (Yg (Zf 1 rfl) rfl rfl (by simp [bC, Value.oneCell'])) (by omega) (by omega) [5, 3] (fun _ => ⟨_, rfl⟩) ?_
         intro w2 hw2 _
         show GP _ _ _ _ _ _ _ _ (_ :: _ :: _ :: _ :: _ :: _ :: _ :: _ :: _ :: _) _
         refine GP_all [26] (by kernel_rfl) (by decide) ?_
         refine (And.intro ?_ trivial)
         ·
          refine Yn (l1 := [_, _, _, _, _, _, _, _]) (sl := v3) (nn := i) (m := 1) (news := (shC c.s)) (bt := 24) rfl rfl rfl rfl Try.underlying100 Try.underlying100 (by first | exact .inl rfl | exact .inr ⟨_, rfl⟩) i_109 rfl rfl rfl rfl rfl rfl h3 rfl (Yg (Zf 2 rfl) rfl rfl (by simp [shC, Value.oneCell'])) (by omega) (by omega) [5, 3] (fun _ => ⟨_, rfl⟩) ?_
          intro w3 hw3 _
          show GP _ _ _ _ _ _ _ _ (_ :: _ :: _ :: _ :: _ :: _ :: _ :: _ :: _ :: _) _
          refine Zx 27 rfl rfl rfl rfl (by kernel_rfl) (by kernel_rfl) (by kernel_rfl) (by decide) (fun _ _ => (Ze rfl rfl)) ?_
          refine Zx 28 rfl rfl rfl rfl (by kernel_rfl) (by kernel_rfl) (by kernel_rfl) (by decide) (fun _ _ => (Zb (fo := 2) rfl Try.underlying103 rfl i_99 rfl rfl rfl)) ?_
          refine GP_all [29] (by kernel_rfl) (by decide) ?_
          refine (And.intro ?_ trivial)
          ·
           refine Xf (l1 := [_, _, _, _, _]) (L' := (_ :: _ :: _ :: _ :: _ :: _ :: _ :: _ :: _ :: _)) rfl rfl rfl rfl (Zm rfl rfl rfl (Zf 5 rfl) (by first | exact of_decide_eq_true rfl | omega | (simp [cOp, cWk, cIv, cHr, cLt, cWt, cIt, cFl, cTn, cCl, cPo, cSt, cDt, cDs, Sl.v, zIns, insV]; done) | (simp [cOp, cWk, cIv, cHr, cLt, cWt, cIt, cFl, cTn, cCl, cPo, cSt, cDt, cDs, Sl.v, zIns, insV]; omega) | (simp [cOp, cWk, cIv, cHr, cLt, cWt, cIt, cFl, cTn, cCl, cPo, cSt, cDt, cDs, Sl.v, zIns, insV] at *; omega)) i_99 rfl rfl) rfl (by kernel_rfl) ?_
           refine Zx 30 rfl rfl rfl rfl (by kernel_rfl) (by kernel_rfl) (by kernel_rfl) (by decide) (fun _ _ => (Ze rfl rfl)) ?_
           refine Zx 31 rfl rfl rfl rfl (by kernel_rfl) (by kernel_rfl) (by kernel_rfl) (by decide) (fun _ _ => (Zb (fo := 4) rfl Try.underlying103 rfl i_101 rfl rfl rfl)) ?_
           refine GP_all [32] (by kernel_rfl) (by decide) ?_
           refine (And.intro ?_ trivial)
           ·
            refine Xf (l1 := [_, _, _, _, _]) (L' := (_ :: _ :: _ :: _ :: _ :: _ :: _ :: _ :: _ :: _)) rfl rfl rfl rfl (Zm rfl rfl rfl (Zf 5 rfl) (by first | exact of_decide_eq_true rfl | omega | (simp [cOp, cWk, cIv, cHr, cLt, cWt, cIt, cFl, cTn, cCl, cPo, cSt, cDt, cDs, Sl.v, zIns, insV]; done) | (simp [cOp, cWk, cIv, cHr, cLt, cWt, cIt, cFl, cTn, cCl, cPo, cSt, cDt, cDs, Sl.v, zIns, insV]; omega) | (simp [cOp, cWk, cIv, cHr, cLt, cWt, cIt, cFl, cTn, cCl, cPo, cSt, cDt, cDs, Sl.v, zIns, insV] at *; omega)) i_101 rfl rfl) rfl (by kernel_rfl) ?_
            refine Zx 33 rfl rfl rfl rfl (by kernel_rfl) (by kernel_rfl) (by kernel_rfl) (by decide) (fun _ _ => (Ze rfl rfl)) ?_
            refine Zx 34 rfl rfl rfl rfl (by kernel_rfl) (by kernel_rfl) (by kernel_rfl) (by decide) (fun _ _ => (Zb (fo := 3) rfl Try.underlying103 rfl i_100 rfl rfl rfl)) ?_
            refine GP_all [35] (by kernel_rfl) (by decide) ?_
            refine (And.intro ?_ trivial)
            ·
             refine Xf (l1 := [_, _, _, _, _]) (L' := (_ :: _ :: _ :: _ :: _ :: _ :: _ :: _ :: _ :: _)) rfl rfl rfl rfl (Zm rfl rfl rfl (Zf 5 rfl) (by first | exact of_decide_eq_true rfl | omega | (simp [cOp, cWk, cIv, cHr, cLt, cWt, cIt, cFl, cTn, cCl, cPo, cSt, cDt, cDs, Sl.v, zIns, insV]; done) | (simp [cOp, cWk, cIv, cHr, cLt, cWt, cIt, cFl, cTn, cCl, cPo, cSt, cDt, cDs, Sl.v, zIns, insV]; omega) | (simp [cOp, cWk, cIv, cHr, cLt, cWt, cIt, cFl, cTn, cCl, cPo, cSt, cDt, cDs, Sl.v, zIns, insV] at *; omega)) i_100 rfl rfl) rfl (by kernel_rfl) ?_
             refine GP_done (by kernel_rfl) ?_
             exact Xj (L1 := [_, _, _, _, _]) (by exact (And.intro rfl (And.intro rfl (And.intro rfl (And.intro rfl (And.intro rfl trivial)))))) [4, 4, 4, 4, 4] (by exact ⟨_, _, rfl, List.perm_append_comm (l₁ := [_, _, _, _])⟩) (jn15 ⟨(w1, w2, w3), by rw [← Yc Cl.v0 i1C hc, ← Yc Cl.g bC hc, ← Yc Cl.s shC hc]; exact ⟨hw1, hw2, hw3⟩⟩)
     ·
      refine GPop_new rfl rfl rfl rfl (Zn (s := 1) (cs := [_]) rfl Try.underlying101 i_4 rfl rfl rfl rfl rfl rfl rfl rfl rfl) [4, 2] (fun _ => ⟨_, rfl⟩) (fun b113 => ?_)
      refine GP_all [10, 25] (by kernel_rfl) (by decide) ?_
      refine (And.intro ?_ (And.intro ?_ trivial))
      ·
       refine Yn (l1 := [_, _, _, _, _]) (sl := v1) (nn := i) (m := 1) (news := (i1C c.v0)) (bt := 8) rfl rfl rfl rfl Try.underlying99 Try.underlying99 (by first | exact .inl rfl | exact .inr ⟨_, rfl⟩) i_3 rfl rfl rfl rfl rfl rfl h1 rfl (Yg (Zf 2 rfl) rfl rfl (by simp [i1C, Value.oneCell'])) (by omega) (by omega) [4, 2] (fun _ => ⟨_, rfl⟩) ?_
       intro w1 hw1 _
       show GP _ _ _ _ _ _ _ _ (_ :: _ :: _ :: _ :: _ :: _ :: _ :: _ :: _) _
       refine GP_all [18, 25] (by kernel_rfl) (by decide) ?_
       refine (And.intro ?_ (And.intro ?_ trivial))
       ·
        refine Yn (l1 := [_, _, _, _, _, _]) (sl := v2) (nn := i) (m := 1) (news := (bC c.g)) (bt := 1) rfl rfl rfl rfl Try.underlying101 Try.underlying101 (by first | exact .inl rfl | exact .inr ⟨_, rfl⟩) i_4 rfl rfl rfl rfl rfl rfl h2 rfl (Yg (Zf 1 rfl) rfl rfl (by simp [bC, Value.oneCell'])) (by omega) (by omega) [4, 2] (fun _ => ⟨_, rfl⟩) ?_
        intro w2 hw2 _
        show GP _ _ _ _ _ _ _ _ (_ :: _ :: _ :: _ :: _ :: _ :: _ :: _ :: _) _
        refine GP_all [25] (by kernel_rfl) (by decide) ?_
        refine (And.intro ?_ trivial)
        ·
         refine GPop_new rfl rfl rfl rfl (Zn (s := 1) (cs := [_]) rfl Try.underlying100 i_109 rfl rfl rfl rfl rfl rfl rfl rfl rfl) [5, 3] (fun _ => ⟨_, rfl⟩) (fun b121 => ?_)
         refine GP_all [26] (by kernel_rfl) (by decide) ?_
         refine (And.intro ?_ trivial)
         ·
          refine Yn (l1 := [_, _, _, _, _, _, _, _]) (sl := v3) (nn := i) (m := 1) (news := (shC c.s)) (bt := 24) rfl rfl rfl rfl Try.underlying100 Try.underlying100 (by first | exact .inl rfl | exact .inr ⟨_, rfl⟩) i_109 rfl rfl rfl rfl rfl rfl h3 rfl (Yg (Zf 1 rfl) rfl rfl (by simp [shC, Value.oneCell'])) (by omega) (by omega) [5, 3] (fun _ => ⟨_, rfl⟩) ?_
          intro w3 hw3 _
          show GP _ _ _ _ _ _ _ _ (_ :: _ :: _ :: _ :: _ :: _ :: _ :: _ :: _ :: _) _
          refine Zx 27 rfl rfl rfl rfl (by kernel_rfl) (by kernel_rfl) (by kernel_rfl) (by decide) (fun _ _ => (Ze rfl rfl)) ?_
          refine Zx 28 rfl rfl rfl rfl (by kernel_rfl) (by kernel_rfl) (by kernel_rfl) (by decide) (fun _ _ => (Zb (fo := 2) rfl Try.underlying103 rfl i_99 rfl rfl rfl)) ?_
          refine GP_all [29] (by kernel_rfl) (by decide) ?_
          refine (And.intro ?_ trivial)
          ·
           refine Xf (l1 := [_, _, _, _, _]) (L' := (_ :: _ :: _ :: _ :: _ :: _ :: _ :: _ :: _ :: _)) rfl rfl rfl rfl (Zm rfl rfl rfl (Zf 5 rfl) (by first | exact of_decide_eq_true rfl | omega | (simp [cOp, cWk, cIv, cHr, cLt, cWt, cIt, cFl, cTn, cCl, cPo, cSt, cDt, cDs, Sl.v, zIns, insV]; done) | (simp [cOp, cWk, cIv, cHr, cLt, cWt, cIt, cFl, cTn, cCl, cPo, cSt, cDt, cDs, Sl.v, zIns, insV]; omega) | (simp [cOp, cWk, cIv, cHr, cLt, cWt, cIt, cFl, cTn, cCl, cPo, cSt, cDt, cDs, Sl.v, zIns, insV] at *; omega)) i_99 rfl rfl) rfl (by kernel_rfl) ?_
           refine Zx 30 rfl rfl rfl rfl (by kernel_rfl) (by kernel_rfl) (by kernel_rfl) (by decide) (fun _ _ => (Ze rfl rfl)) ?_
           refine Zx 31 rfl rfl rfl rfl (by kernel_rfl) (by kernel_rfl) (by kernel_rfl) (by decide) (fun _ _ => (Zb (fo := 4) rfl Try.underlying103 rfl i_101 rfl rfl rfl)) ?_
           refine GP_all [32] (by kernel_rfl) (by decide) ?_
           refine (And.intro ?_ trivial)
           ·
            refine Xf (l1 := [_, _, _, _, _]) (L' := (_ :: _ :: _ :: _ :: _ :: _ :: _ :: _ :: _ :: _)) rfl rfl rfl rfl (Zm rfl rfl rfl (Zf 5 rfl) (by first | exact of_decide_eq_true rfl | omega | (simp [cOp, cWk, cIv, cHr, cLt, cWt, cIt, cFl, cTn, cCl, cPo, cSt, cDt, cDs, Sl.v, zIns, insV]; done) | (simp [cOp, cWk, cIv, cHr, cLt, cWt, cIt, cFl, cTn, cCl, cPo, cSt, cDt, cDs, Sl.v, zIns, insV]; omega) | (simp [cOp, cWk, cIv, cHr, cLt, cWt, cIt, cFl, cTn, cCl, cPo, cSt, cDt, cDs, Sl.v, zIns, insV] at *; omega)) i_101 rfl rfl) rfl (by kernel_rfl) ?_
            refine Zx 33 rfl rfl rfl rfl (by kernel_rfl) (by kernel_rfl) (by kernel_rfl) (by decide) (fun _ _ => (Ze rfl rfl)) ?_
            refine Zx 34 rfl rfl rfl rfl (by kernel_rfl) (by kernel_rfl) (by kernel_rfl) (by decide) (fun _ _ => (Zb (fo := 3) rfl Try.underlying103 rfl i_100 rfl rfl rfl)) ?_
            refine GP_all [35] (by kernel_rfl) (by decide) ?_
            refine (And.intro ?_ trivial)
            ·
             refine Xf (l1 := [_, _, _, _, _]) (L' := (_ :: _ :: _ :: _ :: _ :: _ :: _ :: _ :: _ :: _)) rfl rfl rfl rfl (Zm rfl rfl rfl (Zf 5 rfl) (by first | exact of_decide_eq_true rfl | omega | (simp [cOp, cWk, cIv, cHr, cLt, cWt, cIt, cFl, cTn, cCl, cPo, cSt, cDt, cDs, Sl.v, zIns, insV]; done) | (simp [cOp, cWk, cIv, cHr, cLt, cWt, cIt, cFl, cTn, cCl, cPo, cSt, cDt, cDs, Sl.v, zIns, insV]; omega) | (simp [cOp, cWk, cIv, cHr, cLt, cWt, cIt, cFl, cTn, cCl, cPo, cSt, cDt, cDs, Sl.v, zIns, insV] at *; omega)) i_100 rfl rfl) rfl (by kernel_rfl) ?_
             refine GP_done (by kernel_rfl) ?_
             exact Xj (L1 := [_, _, _, _, _]) (by exact (And.intro rfl (And.intro rfl (And.intro rfl (And.intro rfl (And.intro rfl trivial)))))) [4, 4, 4, 4, 4] (by exact ⟨_, _, rfl, List.perm_append_comm (l₁ := [_, _, _, _])⟩) (jn15 ⟨(w1, w2, w3), by rw [← Yc Cl.v0 i1C hc, ← Yc Cl.g bC hc, ← Yc Cl.s shC hc]; exact ⟨hw1, hw2, hw3⟩⟩)
       ·
        refine GPop_new rfl rfl rfl rfl (Zn (s := 1) (cs := [_]) rfl Try.underlying100 i_109 rfl rfl rfl rfl rfl rfl rfl rfl rfl) [5, 3] (fun _ => ⟨_, rfl⟩) (fun b121 => ?_)
        refine GP_all [18] (by kernel_rfl) (by decide) ?_
        refine (And.intro ?_ trivial)
        ·
         refine Yn (l1 := [_, _, _, _, _, _, _]) (sl := v2) (nn := i) (m := 1) (news := (bC c.g)) (bt := 1) rfl rfl rfl rfl Try.underlying101 Try.underlying101 (by first | exact .inl rfl | exact .inr ⟨_, rfl⟩) i_4 rfl rfl rfl rfl rfl rfl h2 rfl (Yg (Zf 2 rfl) rfl rfl (by simp [bC, Value.oneCell'])) (by omega) (by omega) [5, 3] (fun _ => ⟨_, rfl⟩) ?_
         intro w2 hw2 _
         show GP _ _ _ _ _ _ _ _ (_ :: _ :: _ :: _ :: _ :: _ :: _ :: _ :: _ :: _) _
         refine GP_all [26] (by kernel_rfl) (by decide) ?_
         refine (And.intro ?_ trivial)
         ·
          refine Yn (l1 := [_, _, _, _, _, _, _, _]) (sl := v3) (nn := i) (m := 1) (news := (shC c.s)) (bt := 24) rfl rfl rfl rfl Try.underlying100 Try.underlying100 (by first | exact .inl rfl | exact .inr ⟨_, rfl⟩) i_109 rfl rfl rfl rfl rfl rfl h3 rfl (Yg (Zf 1 rfl) rfl rfl (by simp [shC, Value.oneCell'])) (by omega) (by omega) [5, 3] (fun _ => ⟨_, rfl⟩) ?_
          intro w3 hw3 _
          show GP _ _ _ _ _ _ _ _ (_ :: _ :: _ :: _ :: _ :: _ :: _ :: _ :: _ :: _) _
          refine Zx 27 rfl rfl rfl rfl (by kernel_rfl) (by kernel_rfl) (by kernel_rfl) (by decide) (fun _ _ => (Ze rfl rfl)) ?_
          refine Zx 28 rfl rfl rfl rfl (by kernel_rfl) (by kernel_rfl) (by kernel_rfl) (by decide) (fun _ _ => (Zb (fo := 2) rfl Try.underlying103 rfl i_99 rfl rfl rfl)) ?_
          refine GP_all [29] (by kernel_rfl) (by decide) ?_
          refine (And.intro ?_ trivial)
          ·
           refine Xf (l1 := [_, _, _, _, _]) (L' := (_ :: _ :: _ :: _ :: _ :: _ :: _ :: _ :: _ :: _)) rfl rfl rfl rfl (Zm rfl rfl rfl (Zf 5 rfl) (by first | exact of_decide_eq_true rfl | omega | (simp [cOp, cWk, cIv, cHr, cLt, cWt, cIt, cFl, cTn, cCl, cPo, cSt, cDt, cDs, Sl.v, zIns, insV]; done) | (simp [cOp, cWk, cIv, cHr, cLt, cWt, cIt, cFl, cTn, cCl, cPo, cSt, cDt, cDs, Sl.v, zIns, insV]; omega) | (simp [cOp, cWk, cIv, cHr, cLt, cWt, cIt, cFl, cTn, cCl, cPo, cSt, cDt, cDs, Sl.v, zIns, insV] at *; omega)) i_99 rfl rfl) rfl (by kernel_rfl) ?_
           refine Zx 30 rfl rfl rfl rfl (by kernel_rfl) (by kernel_rfl) (by kernel_rfl) (by decide) (fun _ _ => (Ze rfl rfl)) ?_
           refine Zx 31 rfl rfl rfl rfl (by kernel_rfl) (by kernel_rfl) (by kernel_rfl) (by decide) (fun _ _ => (Zb (fo := 4) rfl Try.underlying103 rfl i_101 rfl rfl rfl)) ?_
           refine GP_all [32] (by kernel_rfl) (by decide) ?_
           refine (And.intro ?_ trivial)
           ·
            refine Xf (l1 := [_, _, _, _, _]) (L' := (_ :: _ :: _ :: _ :: _ :: _ :: _ :: _ :: _ :: _)) rfl rfl rfl rfl (Zm rfl rfl rfl (Zf 5 rfl) (by first | exact of_decide_eq_true rfl | omega | (simp [cOp, cWk, cIv, cHr, cLt, cWt, cIt, cFl, cTn, cCl, cPo, cSt, cDt, cDs, Sl.v, zIns, insV]; done) | (simp [cOp, cWk, cIv, cHr, cLt, cWt, cIt, cFl, cTn, cCl, cPo, cSt, cDt, cDs, Sl.v, zIns, insV]; omega) | (simp [cOp, cWk, cIv, cHr, cLt, cWt, cIt, cFl, cTn, cCl, cPo, cSt, cDt, cDs, Sl.v, zIns, insV] at *; omega)) i_101 rfl rfl) rfl (by kernel_rfl) ?_
            refine Zx 33 rfl rfl rfl rfl (by kernel_rfl) (by kernel_rfl) (by kernel_rfl) (by decide) (fun _ _ => (Ze rfl rfl)) ?_
            refine Zx 34 rfl rfl rfl rfl (by kernel_rfl) (by kernel_rfl) (by kernel_rfl) (by decide) (fun _ _ => (Zb (fo := 3) rfl Try.underlying103 rfl i_100 rfl rfl rfl)) ?_
            refine GP_all [35] (by kernel_rfl) (by decide) ?_
            refine (And.intro ?_ trivial)
            ·
             refine Xf (l1 := [_, _, _, _, _]) (L' := (_ :: _ :: _ :: _ :: _ :: _ :: _ :: _ :: _ :: _)) rfl rfl rfl rfl (Zm rfl rfl rfl (Zf 5 rfl) (by first | exact of_decide_eq_true rfl | omega | (simp [cOp, cWk, cIv, cHr, cLt, cWt, cIt, cFl, cTn, cCl, cPo, cSt, cDt, cDs, Sl.v, zIns, insV]; done) | (simp [cOp, cWk, cIv, cHr, cLt, cWt, cIt, cFl, cTn, cCl, cPo, cSt, cDt, cDs, Sl.v, zIns, insV]; omega) | (simp [cOp, cWk, cIv, cHr, cLt, cWt, cIt, cFl, cTn, cCl, cPo, cSt, cDt, cDs, Sl.v, zIns, insV] at *; omega)) i_100 rfl rfl) rfl (by kernel_rfl) ?_
             refine GP_done (by kernel_rfl) ?_
             exact Xj (L1 := [_, _, _, _, _]) (by exact (And.intro rfl (And.intro rfl (And.intro rfl (And.intro rfl (And.intro rfl trivial)))))) [4, 4, 4, 4, 4] (by exact ⟨_, _, rfl, List.perm_append_comm (l₁ := [_, _, _, _])⟩) (jn15 ⟨(w1, w2, w3), by rw [← Yc Cl.v0 i1C hc, ← Yc Cl.g bC hc, ← Yc Cl.s shC hc]; exact ⟨hw1, hw2, hw3⟩⟩)
      ·
       refine GPop_new rfl rfl rfl rfl (Zn (s := 1) (cs := [_]) rfl Try.underlying100 i_109 rfl rfl rfl rfl rfl rfl rfl rfl rfl) [5, 3] (fun _ => ⟨_, rfl⟩) (fun b121 => ?_)
       refine GP_all [10] (by kernel_rfl) (by decide) ?_
       refine (And.intro ?_ trivial)
       ·
        refine Yn (l1 := [_, _, _, _, _, _]) (sl := v1) (nn := i) (m := 1) (news := (i1C c.v0)) (bt := 8) rfl rfl rfl rfl Try.underlying99 Try.underlying99 (by first | exact .inl rfl | exact .inr ⟨_, rfl⟩) i_3 rfl rfl rfl rfl rfl rfl h1 rfl (Yg (Zf 3 rfl) rfl rfl (by simp [i1C, Value.oneCell'])) (by omega) (by omega) [5, 3] (fun _ => ⟨_, rfl⟩) ?_
        intro w1 hw1 _
        show GP _ _ _ _ _ _ _ _ (_ :: _ :: _ :: _ :: _ :: _ :: _ :: _ :: _ :: _) _
        refine GP_all [18] (by kernel_rfl) (by decide) ?_
        refine (And.intro ?_ trivial)
        ·
         refine Yn (l1 := [_, _, _, _, _, _, _]) (sl := v2) (nn := i) (m := 1) (news := (bC c.g)) (bt := 1) rfl rfl rfl rfl Try.underlying101 Try.underlying101 (by first | exact .inl rfl | exact .inr ⟨_, rfl⟩) i_4 rfl rfl rfl rfl rfl rfl h2 rfl (Yg (Zf 2 rfl) rfl rfl (by simp [bC, Value.oneCell'])) (by omega) (by omega) [5, 3] (fun _ => ⟨_, rfl⟩) ?_
         intro w2 hw2 _
         show GP _ _ _ _ _ _ _ _ (_ :: _ :: _ :: _ :: _ :: _ :: _ :: _ :: _ :: _) _
         refine GP_all [26] (by kernel_rfl) (by decide) ?_
         refine (And.intro ?_ trivial)
         ·
          refine Yn (l1 := [_, _, _, _, _, _, _, _]) (sl := v3) (nn := i) (m := 1) (news := (shC c.s)) (bt := 24) rfl rfl rfl rfl Try.underlying100 Try.underlying100 (by first | exact .inl rfl | exact .inr ⟨_, rfl⟩) i_109 rfl rfl rfl rfl rfl rfl h3 rfl (Yg (Zf 1 rfl) rfl rfl (by simp [shC, Value.oneCell'])) (by omega) (by omega) [5, 3] (fun _ => ⟨_, rfl⟩) ?_
          intro w3 hw3 _
          show GP _ _ _ _ _ _ _ _ (_ :: _ :: _ :: _ :: _ :: _ :: _ :: _ :: _ :: _) _
          refine Zx 27 rfl rfl rfl rfl (by kernel_rfl) (by kernel_rfl) (by kernel_rfl) (by decide) (fun _ _ => (Ze rfl rfl)) ?_
          refine Zx 28 rfl rfl rfl rfl (by kernel_rfl) (by kernel_rfl) (by kernel_rfl) (by decide) (fun _ _ => (Zb (fo := 2) rfl Try.underlying103 rfl i_99 rfl rfl rfl)) ?_
          refine GP_all [29] (by kernel_rfl) (by decide) ?_
          refine (And.intro ?_ trivial)
          ·
           refine Xf (l1 := [_, _, _, _, _]) (L' := (_ :: _ :: _ :: _ :: _ :: _ :: _ :: _ :: _ :: _)) rfl rfl rfl rfl (Zm rfl rfl rfl (Zf 5 rfl) (by first | exact of_decide_eq_true rfl | omega | (simp [cOp, cWk, cIv, cHr, cLt, cWt, cIt, cFl, cTn, cCl, cPo, cSt, cDt, cDs, Sl.v, zIns, insV]; done) | (simp [cOp, cWk, cIv, cHr, cLt, cWt, cIt, cFl, cTn, cCl, cPo, cSt, cDt, cDs, Sl.v, zIns, insV]; omega) | (simp [cOp, cWk, cIv, cHr, cLt, cWt, cIt, cFl, cTn, cCl, cPo, cSt, cDt, cDs, Sl.v, zIns, insV] at *; omega)) i_99 rfl rfl) rfl (by kernel_rfl) ?_
           refine Zx 30 rfl rfl rfl rfl (by kernel_rfl) (by kernel_rfl) (by kernel_rfl) (by decide) (fun _ _ => (Ze rfl rfl)) ?_
           refine Zx 31 rfl rfl rfl rfl (by kernel_rfl) (by kernel_rfl) (by kernel_rfl) (by decide) (fun _ _ => (Zb (fo := 4) rfl Try.underlying103 rfl i_101 rfl rfl rfl)) ?_
           refine GP_all [32] (by kernel_rfl) (by decide) ?_
           refine (And.intro ?_ trivial)
           ·
            refine Xf (l1 := [_, _, _, _, _]) (L' := (_ :: _ :: _ :: _ :: _ :: _ :: _ :: _ :: _ :: _)) rfl rfl rfl rfl (Zm rfl rfl rfl (Zf 5 rfl) (by first | exact of_decide_eq_true rfl | omega | (simp [cOp, cWk, cIv, cHr, cLt, cWt, cIt, cFl, cTn, cCl, cPo, cSt, cDt, cDs, Sl.v, zIns, insV]; done) | (simp [cOp, cWk, cIv, cHr, cLt, cWt, cIt, cFl, cTn, cCl, cPo, cSt, cDt, cDs, Sl.v, zIns, insV]; omega) | (simp [cOp, cWk, cIv, cHr, cLt, cWt, cIt, cFl, cTn, cCl, cPo, cSt, cDt, cDs, Sl.v, zIns, insV] at *; omega)) i_101 rfl rfl) rfl (by kernel_rfl) ?_
            refine Zx 33 rfl rfl rfl rfl (by kernel_rfl) (by kernel_rfl) (by kernel_rfl) (by decide) (fun _ _ => (Ze rfl rfl)) ?_
            refine Zx 34 rfl rfl rfl rfl (by kernel_rfl) (by kernel_rfl) (by kernel_rfl) (by decide) (fun _ _ => (Zb (fo := 3) rfl Try.underlying103 rfl i_100 rfl rfl rfl)) ?_
            refine GP_all [35] (by kernel_rfl) (by decide) ?_
            refine (And.intro ?_ trivial)
            ·
             refine Xf (l1 := [_, _, _, _, _]) (L' := (_ :: _ :: _ :: _ :: _ :: _ :: _ :: _ :: _ :: _)) rfl rfl rfl rfl (Zm rfl rfl rfl (Zf 5 rfl) (by first | exact of_decide_eq_true rfl | omega | (simp [cOp, cWk, cIv, cHr, cLt, cWt, cIt, cFl, cTn, cCl, cPo, cSt, cDt, cDs, Sl.v, zIns, insV]; done) | (simp [cOp, cWk, cIv, cHr, cLt, cWt, cIt, cFl, cTn, cCl, cPo, cSt, cDt, cDs, Sl.v, zIns, insV]; omega) | (simp [cOp, cWk, cIv, cHr, cLt, cWt, cIt, cFl, cTn, cCl, cPo, cSt, cDt, cDs, Sl.v, zIns, insV] at *; omega)) i_100 rfl rfl) rfl (by kernel_rfl) ?_
             refine GP_done (by kernel_rfl) ?_
             exact Xj (L1 := [_, _, _, _, _]) (by exact (And.intro rfl (And.intro rfl (And.intro rfl (And.intro rfl (And.intro rfl trivial)))))) [4, 4, 4, 4, 4] (by exact ⟨_, _, rfl, List.perm_append_comm (l₁ := [_, _, _, _])⟩) (jn15 ⟨(w1, w2, w3), by rw [← Yc Cl.v0 i1C hc, ← Yc Cl.g bC hc, ← Yc Cl.s shC hc]; exact ⟨hw1, hw2, hw3⟩⟩)
     ·
      refine GPop_new rfl rfl rfl rfl (Zn (s := 1) (cs := [_]) rfl Try.underlying100 i_109 rfl rfl rfl rfl rfl rfl rfl rfl rfl) [4, 2] (fun _ => ⟨_, rfl⟩) (fun b121 => ?_)
      refine GP_all [10, 17] (by kernel_rfl) (by decide) ?_
      refine (And.intro ?_ (And.intro ?_ trivial))
      ·
       refine Yn (l1 := [_, _, _, _, _]) (sl := v1) (nn := i) (m := 1) (news := (i1C c.v0)) (bt := 8) rfl rfl rfl rfl Try.underlying99 Try.underlying99 (by first | exact .inl rfl | exact .inr ⟨_, rfl⟩) i_3 rfl rfl rfl rfl rfl rfl h1 rfl (Yg (Zf 2 rfl) rfl rfl (by simp [i1C, Value.oneCell'])) (by omega) (by omega) [4, 2] (fun _ => ⟨_, rfl⟩) ?_
       intro w1 hw1 _
       show GP _ _ _ _ _ _ _ _ (_ :: _ :: _ :: _ :: _ :: _ :: _ :: _ :: _) _
       refine GP_all [17] (by kernel_rfl) (by decide) ?_
       refine (And.intro ?_ trivial)
       ·
        refine GPop_new rfl rfl rfl rfl (Zn (s := 1) (cs := [_]) rfl Try.underlying101 i_4 rfl rfl rfl rfl rfl rfl rfl rfl rfl) [5, 3] (fun _ => ⟨_, rfl⟩) (fun b113 => ?_)
        refine GP_all [18] (by kernel_rfl) (by decide) ?_
        refine (And.intro ?_ trivial)
        ·
         refine Yn (l1 := [_, _, _, _, _, _, _]) (sl := v2) (nn := i) (m := 1) (news := (bC c.g)) (bt := 1) rfl rfl rfl rfl Try.underlying101 Try.underlying101 (by first | exact .inl rfl | exact .inr ⟨_, rfl⟩) i_4 rfl rfl rfl rfl rfl rfl h2 rfl (Yg (Zf 1 rfl) rfl rfl (by simp [bC, Value.oneCell'])) (by omega) (by omega) [5, 3] (fun _ => ⟨_, rfl⟩) ?_
         intro w2 hw2 _
         show GP _ _ _ _ _ _ _ _ (_ :: _ :: _ :: _ :: _ :: _ :: _ :: _ :: _ :: _) _
         refine GP_all [26] (by kernel_rfl) (by decide) ?_
         refine (And.intro ?_ trivial)
         ·
          refine Yn (l1 := [_, _, _, _, _, _, _, _]) (sl := v3) (nn := i) (m := 1) (news := (shC c.s)) (bt := 24) rfl rfl rfl rfl Try.underlying100 Try.underlying100 (by first | exact .inl rfl | exact .inr ⟨_, rfl⟩) i_109 rfl rfl rfl rfl rfl rfl h3 rfl (Yg (Zf 2 rfl) rfl rfl (by simp [shC, Value.oneCell'])) (by omega) (by omega) [5, 3] (fun _ => ⟨_, rfl⟩) ?_
          intro w3 hw3 _
          show GP _ _ _ _ _ _ _ _ (_ :: _ :: _ :: _ :: _ :: _ :: _ :: _ :: _ :: _) _
          refine Zx 27 rfl rfl rfl rfl (by kernel_rfl) (by kernel_rfl) (by kernel_rfl) (by decide) (fun _ _ => (Ze rfl rfl)) ?_
          refine Zx 28 rfl rfl rfl rfl (by kernel_rfl) (by kernel_rfl) (by kernel_rfl) (by decide) (fun _ _ => (Zb (fo := 2) rfl Try.underlying103 rfl i_99 rfl rfl rfl)) ?_
          refine GP_all [29] (by kernel_rfl) (by decide) ?_
          refine (And.intro ?_ trivial)
          ·
           refine Xf (l1 := [_, _, _, _, _]) (L' := (_ :: _ :: _ :: _ :: _ :: _ :: _ :: _ :: _ :: _)) rfl rfl rfl rfl (Zm rfl rfl rfl (Zf 5 rfl) (by first | exact of_decide_eq_true rfl | omega | (simp [cOp, cWk, cIv, cHr, cLt, cWt, cIt, cFl, cTn, cCl, cPo, cSt, cDt, cDs, Sl.v, zIns, insV]; done) | (simp [cOp, cWk, cIv, cHr, cLt, cWt, cIt, cFl, cTn, cCl, cPo, cSt, cDt, cDs, Sl.v, zIns, insV]; omega) | (simp [cOp, cWk, cIv, cHr, cLt, cWt, cIt, cFl, cTn, cCl, cPo, cSt, cDt, cDs, Sl.v, zIns, insV] at *; omega)) i_99 rfl rfl) rfl (by kernel_rfl) ?_
           refine Zx 30 rfl rfl rfl rfl (by kernel_rfl) (by kernel_rfl) (by kernel_rfl) (by decide) (fun _ _ => (Ze rfl rfl)) ?_
           refine Zx 31 rfl rfl rfl rfl (by kernel_rfl) (by kernel_rfl) (by kernel_rfl) (by decide) (fun _ _ => (Zb (fo := 4) rfl Try.underlying103 rfl i_101 rfl rfl rfl)) ?_
           refine GP_all [32] (by kernel_rfl) (by decide) ?_
           refine (And.intro ?_ trivial)
           ·
            refine Xf (l1 := [_, _, _, _, _]) (L' := (_ :: _ :: _ :: _ :: _ :: _ :: _ :: _ :: _ :: _)) rfl rfl rfl rfl (Zm rfl rfl rfl (Zf 5 rfl) (by first | exact of_decide_eq_true rfl | omega | (simp [cOp, cWk, cIv, cHr, cLt, cWt, cIt, cFl, cTn, cCl, cPo, cSt, cDt, cDs, Sl.v, zIns, insV]; done) | (simp [cOp, cWk, cIv, cHr, cLt, cWt, cIt, cFl, cTn, cCl, cPo, cSt, cDt, cDs, Sl.v, zIns, insV]; omega) | (simp [cOp, cWk, cIv, cHr, cLt, cWt, cIt, cFl, cTn, cCl, cPo, cSt, cDt, cDs, Sl.v, zIns, insV] at *; omega)) i_101 rfl rfl) rfl (by kernel_rfl) ?_
            refine Zx 33 rfl rfl rfl rfl (by kernel_rfl) (by kernel_rfl) (by kernel_rfl) (by decide) (fun _ _ => (Ze rfl rfl)) ?_
            refine Zx 34 rfl rfl rfl rfl (by kernel_rfl) (by kernel_rfl) (by kernel_rfl) (by decide) (fun _ _ => (Zb (fo := 3) rfl Try.underlying103 rfl i_100 rfl rfl rfl)) ?_
            refine GP_all [35] (by kernel_rfl) (by decide) ?_
            refine (And.intro ?_ trivial)
            ·
             refine Xf (l1 := [_, _, _, _, _]) (L' := (_ :: _ :: _ :: _ :: _ :: _ :: _ :: _ :: _ :: _)) rfl rfl rfl rfl (Zm rfl rfl rfl (Zf 5 rfl) (by first | exact of_decide_eq_true rfl | omega | (simp [cOp, cWk, cIv, cHr, cLt, cWt, cIt, cFl, cTn, cCl, cPo, cSt, cDt, cDs, Sl.v, zIns, insV]; done) | (simp [cOp, cWk, cIv, cHr, cLt, cWt, cIt, cFl, cTn, cCl, cPo, cSt, cDt, cDs, Sl.v, zIns, insV]; omega) | (simp [cOp, cWk, cIv, cHr, cLt, cWt, cIt, cFl, cTn, cCl, cPo, cSt, cDt, cDs, Sl.v, zIns, insV] at *; omega)) i_100 rfl rfl) rfl (by kernel_rfl) ?_
             refine GP_done (by kernel_rfl) ?_
             exact Xj (L1 := [_, _, _, _, _]) (by exact (And.intro rfl (And.intro rfl (And.intro rfl (And.intro rfl (And.intro rfl trivial)))))) [4, 4, 4, 4, 4] (by exact ⟨_, _, rfl, List.perm_append_comm (l₁ := [_, _, _, _])⟩) (jn15 ⟨(w1, w2, w3), by rw [← Yc Cl.v0 i1C hc, ← Yc Cl.g bC hc, ← Yc Cl.s shC hc]; exact ⟨hw1, hw2, hw3⟩⟩)
      ·
       refine GPop_new rfl rfl rfl rfl (Zn (s := 1) (cs := [_]) rfl Try.underlying101 i_4 rfl rfl rfl rfl rfl rfl rfl rfl rfl) [5, 3] (fun _ => ⟨_, rfl⟩) (fun b113 => ?_)
       refine GP_all [10] (by kernel_rfl) (by decide) ?_
       refine (And.intro ?_ trivial)
       ·
        refine Yn (l1 := [_, _, _, _, _, _]) (sl := v1) (nn := i) (m := 1) (news := (i1C c.v0)) (bt := 8) rfl rfl rfl rfl Try.underlying99 Try.underlying99 (by first | exact .inl rfl | exact .inr ⟨_, rfl⟩) i_3 rfl rfl rfl rfl rfl rfl h1 rfl (Yg (Zf 3 rfl) rfl rfl (by simp [i1C, Value.oneCell'])) (by omega) (by omega) [5, 3] (fun _ => ⟨_, rfl⟩) ?_
        intro w1 hw1 _
        show GP _ _ _ _ _ _ _ _ (_ :: _ :: _ :: _ :: _ :: _ :: _ :: _ :: _ :: _) _
        refine GP_all [18] (by kernel_rfl) (by decide) ?_
        refine (And.intro ?_ trivial)
        ·
         refine Yn (l1 := [_, _, _, _, _, _, _]) (sl := v2) (nn := i) (m := 1) (news := (bC c.g)) (bt := 1) rfl rfl rfl rfl Try.underlying101 Try.underlying101 (by first | exact .inl rfl | exact .inr ⟨_, rfl⟩) i_4 rfl rfl rfl rfl rfl rfl h2 rfl (Yg (Zf 1 rfl) rfl rfl (by simp [bC, Value.oneCell'])) (by omega) (by omega) [5, 3] (fun _ => ⟨_, rfl⟩) ?_
         intro w2 hw2 _
         show GP _ _ _ _ _ _ _ _ (_ :: _ :: _ :: _ :: _ :: _ :: _ :: _ :: _ :: _) _
         refine GP_all [26] (by kernel_rfl) (by decide) ?_
         refine (And.intro ?_ trivial)
         ·
          refine Yn (l1 := [_, _, _, _, _, _, _, _]) (sl := v3) (nn := i) (m := 1) (news := (shC c.s)) (bt := 24) rfl rfl rfl rfl Try.underlying100 Try.underlying100 (by first | exact .inl rfl | exact .inr ⟨_, rfl⟩) i_109 rfl rfl rfl rfl rfl rfl h3 rfl (Yg (Zf 2 rfl) rfl rfl (by simp [shC, Value.oneCell'])) (by omega) (by omega) [5, 3] (fun _ => ⟨_, rfl⟩) ?_
          intro w3 hw3 _
          show GP _ _ _ _ _ _ _ _ (_ :: _ :: _ :: _ :: _ :: _ :: _ :: _ :: _ :: _) _
          refine Zx 27 rfl rfl rfl rfl (by kernel_rfl) (by kernel_rfl) (by kernel_rfl) (by decide) (fun _ _ => (Ze rfl rfl)) ?_
          refine Zx 28 rfl rfl rfl rfl (by kernel_rfl) (by kernel_rfl) (by kernel_rfl) (by decide) (fun _ _ => (Zb (fo := 2) rfl Try.underlying103 rfl i_99 rfl rfl rfl)) ?_
          refine GP_all [29] (by kernel_rfl) (by decide) ?_
          refine (And.intro ?_ trivial)
          ·
           refine Xf (l1 := [_, _, _, _, _]) (L' := (_ :: _ :: _ :: _ :: _ :: _ :: _ :: _ :: _ :: _)) rfl rfl rfl rfl (Zm rfl rfl rfl (Zf 5 rfl) (by first | exact of_decide_eq_true rfl | omega | (simp [cOp, cWk, cIv, cHr, cLt, cWt, cIt, cFl, cTn, cCl, cPo, cSt, cDt, cDs, Sl.v, zIns, insV]; done) | (simp [cOp, cWk, cIv, cHr, cLt, cWt, cIt, cFl, cTn, cCl, cPo, cSt, cDt, cDs, Sl.v, zIns, insV]; omega) | (simp [cOp, cWk, cIv, cHr, cLt, cWt, cIt, cFl, cTn, cCl, cPo, cSt, cDt, cDs, Sl.v, zIns, insV] at *; omega)) i_99 rfl rfl) rfl (by kernel_rfl) ?_
           refine Zx 30 rfl rfl rfl rfl (by kernel_rfl) (by kernel_rfl) (by kernel_rfl) (by decide) (fun _ _ => (Ze rfl rfl)) ?_
           refine Zx 31 rfl rfl rfl rfl (by kernel_rfl) (by kernel_rfl) (by kernel_rfl) (by decide) (fun _ _ => (Zb (fo := 4) rfl Try.underlying103 rfl i_101 rfl rfl rfl)) ?_
           refine GP_all [32] (by kernel_rfl) (by decide) ?_
           refine (And.intro ?_ trivial)
           ·
            refine Xf (l1 := [_, _, _, _, _]) (L' := (_ :: _ :: _ :: _ :: _ :: _ :: _ :: _ :: _ :: _)) rfl rfl rfl rfl (Zm rfl rfl rfl (Zf 5 rfl) (by first | exact of_decide_eq_true rfl | omega | (simp [cOp, cWk, cIv, cHr, cLt, cWt, cIt, cFl, cTn, cCl, cPo, cSt, cDt, cDs, Sl.v, zIns, insV]; done) | (simp [cOp, cWk, cIv, cHr, cLt, cWt, cIt, cFl, cTn, cCl, cPo, cSt, cDt, cDs, Sl.v, zIns, insV]; omega) | (simp [cOp, cWk, cIv, cHr, cLt, cWt, cIt, cFl, cTn, cCl, cPo, cSt, cDt, cDs, Sl.v, zIns, insV] at *; omega)) i_101 rfl rfl) rfl (by kernel_rfl) ?_
            refine Zx 33 rfl rfl rfl rfl (by kernel_rfl) (by kernel_rfl) (by kernel_rfl) (by decide) (fun _ _ => (Ze rfl rfl)) ?_
            refine Zx 34 rfl rfl rfl rfl (by kernel_rfl) (by kernel_rfl) (by kernel_rfl) (by decide) (fun _ _ => (Zb (fo := 3) rfl Try.underlying103 rfl i_100 rfl rfl rfl)) ?_
            refine GP_all [35] (by kernel_rfl) (by decide) ?_
            refine (And.intro ?_ trivial)
            ·
             refine Xf (l1 := [_, _, _, _, _]) (L' := (_ :: _ :: _ :: _ :: _ :: _ :: _ :: _ :: _ :: _)) rfl rfl rfl rfl (Zm rfl rfl rfl (Zf 5 rfl) (by first | exact of_decide_eq_true rfl | omega | (simp [cOp, cWk, cIv, cHr, cLt, cWt, cIt, cFl, cTn, cCl, cPo, cSt, cDt, cDs, Sl.v, zIns, insV]; done) | (simp [cOp, cWk, cIv, cHr, cLt, cWt, cIt, cFl, cTn, cCl, cPo, cSt, cDt, cDs, Sl.v, zIns, insV]; omega) | (simp [cOp, cWk, cIv, cHr, cLt, cWt, cIt, cFl, cTn, cCl, cPo, cSt, cDt, cDs, Sl.v, zIns, insV] at *; omega)) i_100 rfl rfl) rfl (by kernel_rfl) ?_
             refine GP_done (by kernel_rfl) ?_
             exact Xj (L1 := [_, _, _, _, _]) (by exact (And.intro rfl (And.intro rfl (And.intro rfl (And.intro rfl (And.intro rfl trivial)))))) [4, 4, 4, 4, 4] (by exact ⟨_, _, rfl, List.perm_append_comm (l₁ := [_, _, _, _])⟩) (jn15 ⟨(w1, w2, w3), by rw [← Yc Cl.v0 i1C hc, ← Yc Cl.g bC hc, ← Yc Cl.s shC hc]; exact ⟨hw1, hw2, hw3⟩⟩)
    ·
     refine GPop_new rfl rfl rfl rfl (Zn (s := 1) (cs := [_]) rfl Try.underlying101 i_4 rfl rfl rfl rfl rfl rfl rfl rfl rfl) [3, 1] (fun _ => ⟨_, rfl⟩) (fun b113 => ?_)
     refine GP_all [9, 25] (by kernel_rfl) (by decide) ?_
     refine (And.intro ?_ (And.intro ?_ trivial))
     ·
      refine GPop_new rfl rfl rfl rfl (Zn (s := 1) (cs := [_]) rfl Try.underlying99 i_3 rfl rfl rfl rfl rfl rfl rfl rfl rfl) [4, 2] (fun _ => ⟨_, rfl⟩) (fun b105 => ?_)
      refine GP_all [10, 25] (by kernel_rfl) (by decide) ?_
      refine (And.intro ?_ (And.intro ?_ trivial))
      ·
       refine Yn (l1 := [_, _, _, _, _]) (sl := v1) (nn := i) (m := 1) (news := (i1C c.v0)) (bt := 8) rfl rfl rfl rfl Try.underlying99 Try.underlying99 (by first | exact .inl rfl | exact .inr ⟨_, rfl⟩) i_3 rfl rfl rfl rfl rfl rfl h1 rfl (Yg (Zf 1 rfl) rfl rfl (by simp [i1C, Value.oneCell'])) (by omega) (by omega) [4, 2] (fun _ => ⟨_, rfl⟩) ?_
       intro w1 hw1 _
       show GP _ _ _ _ _ _ _ _ (_ :: _ :: _ :: _ :: _ :: _ :: _ :: _ :: _) _
       refine GP_all [18, 25] (by kernel_rfl) (by decide) ?_
       refine (And.intro ?_ (And.intro ?_ trivial))
       ·
        refine Yn (l1 := [_, _, _, _, _, _]) (sl := v2) (nn := i) (m := 1) (news := (bC c.g)) (bt := 1) rfl rfl rfl rfl Try.underlying101 Try.underlying101 (by first | exact .inl rfl | exact .inr ⟨_, rfl⟩) i_4 rfl rfl rfl rfl rfl rfl h2 rfl (Yg (Zf 2 rfl) rfl rfl (by simp [bC, Value.oneCell'])) (by omega) (by omega) [4, 2] (fun _ => ⟨_, rfl⟩) ?_
        intro w2 hw2 _
        show GP _ _ _ _ _ _ _ _ (_ :: _ :: _ :: _ :: _ :: _ :: _ :: _ :: _) _
        refine GP_all [25] (by kernel_rfl) (by decide) ?_
        refine (And.intro ?_ trivial)
        ·
         refine GPop_new rfl rfl rfl rfl (Zn (s := 1) (cs := [_]) rfl Try.underlying100 i_109 rfl rfl rfl rfl rfl rfl rfl rfl rfl) [5, 3] (fun _ => ⟨_, rfl⟩) (fun b121 => ?_)
         refine GP_all [26] (by kernel_rfl) (by decide) ?_
         refine (And.intro ?_ trivial)
         ·
          refine Yn (l1 := [_, _, _, _, _, _, _, _]) (sl := v3) (nn := i) (m := 1) (news := (shC c.s)) (bt := 24) rfl rfl rfl rfl Try.underlying100 Try.underlying100 (by first | exact .inl rfl | exact .inr ⟨_, rfl⟩) i_109 rfl rfl rfl rfl rfl rfl h3 rfl (Yg (Zf 1 rfl) rfl rfl (by simp [shC, Value.oneCell'])) (by omega) (by omega) [5, 3] (fun _ => ⟨_, rfl⟩) ?_
          intro w3 hw3 _
          show GP _ _ _ _ _ _ _ _ (_ :: _ :: _ :: _ :: _ :: _ :: _ :: _ :: _ :: _) _
          refine Zx 27 rfl rfl rfl rfl (by kernel_rfl) (by kernel_rfl) (by kernel_rfl) (by decide) (fun _ _ => (Ze rfl rfl)) ?_
          refine Zx 28 rfl rfl rfl rfl (by kernel_rfl) (by kernel_rfl) (by kernel_rfl) (by decide) (fun _ _ => (Zb (fo := 2) rfl Try.underlying103 rfl i_99 rfl rfl rfl)) ?_
          refine GP_all [29] (by kernel_rfl) (by decide) ?_
          refine (And.intro ?_ trivial)
          ·
           refine Xf (l1 := [_, _, _, _, _]) (L' := (_ :: _ :: _ :: _ :: _ :: _ :: _ :: _ :: _ :: _)) rfl rfl rfl rfl (Zm rfl rfl rfl (Zf 5 rfl) (by first | exact of_decide_eq_true rfl | omega | (simp [cOp, cWk, cIv, cHr, cLt, cWt, cIt, cFl, cTn, cCl, cPo, cSt, cDt, cDs, Sl.v, zIns, insV]; done) | (simp [cOp, cWk, cIv, cHr, cLt, cWt, cIt, cFl, cTn, cCl, cPo, cSt, cDt, cDs, Sl.v, zIns, insV]; omega) | (simp [cOp, cWk, cIv, cHr, cLt, cWt, cIt, cFl, cTn, cCl, cPo, cSt, cDt, cDs, Sl.v, zIns, insV] at *; omega)) i_99 rfl rfl) rfl (by kernel_rfl) ?_
           refine Zx 30 rfl rfl rfl rfl (by kernel_rfl) (by kernel_rfl) (by kernel_rfl) (by decide) (fun _ _ => (Ze rfl rfl)) ?_
           refine Zx 31 rfl rfl rfl rfl (by kernel_rfl) (by kernel_rfl) (by kernel_rfl) (by decide) (fun _ _ => (Zb (fo := 4) rfl Try.underlying103 rfl i_101 rfl rfl rfl)) ?_
           refine GP_all [32] (by kernel_rfl) (by decide) ?_
           refine (And.intro ?_ trivial)
           ·
            refine Xf (l1 := [_, _, _, _, _]) (L' := (_ :: _ :: _ :: _ :: _ :: _ :: _ :: _ :: _ :: _)) rfl rfl rfl rfl (Zm rfl rfl rfl (Zf 5 rfl) (by first | exact of_decide_eq_true rfl | omega | (simp [cOp, cWk, cIv, cHr, cLt, cWt, cIt, cFl, cTn, cCl, cPo, cSt, cDt, cDs, Sl.v, zIns, insV]; done) | (simp [cOp, cWk, cIv, cHr, cLt, cWt, cIt, cFl, cTn, cCl, cPo, cSt, cDt, cDs, Sl.v, zIns, insV]; omega) | (simp [cOp, cWk, cIv, cHr, cLt, cWt, cIt, cFl, cTn, cCl, cPo, cSt, cDt, cDs, Sl.v, zIns, insV] at *; omega)) i_101 rfl rfl) rfl (by kernel_rfl) ?_
            refine Zx 33 rfl rfl rfl rfl (by kernel_rfl) (by kernel_rfl) (by kernel_rfl) (by decide) (fun _ _ => (Ze rfl rfl)) ?_
            refine Zx 34 rfl rfl rfl rfl (by kernel_rfl) (by kernel_rfl) (by kernel_rfl) (by decide) (fun _ _ => (Zb (fo := 3) rfl Try.underlying103 rfl i_100 rfl rfl rfl)) ?_
            refine GP_all [35] (by kernel_rfl) (by decide) ?_
            refine (And.intro ?_ trivial)
            ·
             refine Xf (l1 := [_, _, _, _, _]) (L' := (_ :: _ :: _ :: _ :: _ :: _ :: _ :: _ :: _ :: _)) rfl rfl rfl rfl (Zm rfl rfl rfl (Zf 5 rfl) (by first | exact of_decide_eq_true rfl | omega | (simp [cOp, cWk, cIv, cHr, cLt, cWt, cIt, cFl, cTn, cCl, cPo, cSt, cDt, cDs, Sl.v, zIns, insV]; done) | (simp [cOp, cWk, cIv, cHr, cLt, cWt, cIt, cFl, cTn, cCl, cPo, cSt, cDt, cDs, Sl.v, zIns, insV]; omega) | (simp [cOp, cWk, cIv, cHr, cLt, cWt, cIt, cFl, cTn, cCl, cPo, cSt, cDt, cDs, Sl.v, zIns, insV] at *; omega)) i_100 rfl rfl) rfl (by kernel_rfl) ?_
             refine GP_done (by kernel_rfl) ?_
             exact Xj (L1 := [_, _, _, _, _]) (by exact (And.intro rfl (And.intro rfl (And.intro rfl (And.intro rfl (And.intro rfl trivial)))))) [4, 4, 4, 4, 4] (by exact ⟨_, _, rfl, List.perm_append_comm (l₁ := [_, _, _, _])⟩) (jn15 ⟨(w1, w2, w3), by rw [← Yc Cl.v0 i1C hc, ← Yc Cl.g bC hc, ← Yc Cl.s shC hc]; exact ⟨hw1, hw2, hw3⟩⟩)
       ·
        refine GPop_new rfl rfl rfl rfl (Zn (s := 1) (cs := [_]) rfl Try.underlying100 i_109 rfl rfl rfl rfl rfl rfl rfl rfl rfl) [5, 3] (fun _ => ⟨_, rfl⟩) (fun b121 => ?_)
        refine GP_all [18] (by kernel_rfl) (by decide) ?_
        refine (And.intro ?_ trivial)
        ·
         refine Yn (l1 := [_, _, _, _, _, _, _]) (sl := v2) (nn := i) (m := 1) (news := (bC c.g)) (bt := 1) rfl rfl rfl rfl Try.underlying101 Try.underlying101 (by first | exact .inl rfl | exact .inr ⟨_, rfl⟩) i_4 rfl rfl rfl rfl rfl rfl h2 rfl (Yg (Zf 3 rfl) rfl rfl (by simp [bC, Value.oneCell'])) (by omega) (by omega) [5, 3] (fun _ => ⟨_, rfl⟩) ?_
         intro w2 hw2 _
         show GP _ _ _ _ _ _ _ _ (_ :: _ :: _ :: _ :: _ :: _ :: _ :: _ :: _ :: _) _
         refine GP_all [26] (by kernel_rfl) (by decide) ?_
         refine (And.intro ?_ trivial)
         ·
          refine Yn (l1 := [_, _, _, _, _, _, _, _]) (sl := v3) (nn := i) (m := 1) (news := (shC c.s)) (bt := 24) rfl rfl rfl rfl Try.underlying100 Try.underlying100 (by first | exact .inl rfl | exact .inr ⟨_, rfl⟩) i_109 rfl rfl rfl rfl rfl rfl h3 rfl (Yg (Zf 1 rfl) rfl rfl (by simp [shC, Value.oneCell'])) (by omega) (by omega) [5, 3] (fun _ => ⟨_, rfl⟩) ?_
          intro w3 hw3 _
          show GP _ _ _ _ _ _ _ _ (_ :: _ :: _ :: _ :: _ :: _ :: _ :: _ :: _ :: _) _
          refine Zx 27 rfl rfl rfl rfl (by kernel_rfl) (by kernel_rfl) (by kernel_rfl) (by decide) (fun _ _ => (Ze rfl rfl)) ?_
          refine Zx 28 rfl rfl rfl rfl (by kernel_rfl) (by kernel_rfl) (by kernel_rfl) (by decide) (fun _ _ => (Zb (fo := 2) rfl Try.underlying103 rfl i_99 rfl rfl rfl)) ?_
          refine GP_all [29] (by kernel_rfl) (by decide) ?_
          refine (And.intro ?_ trivial)
          ·
           refine Xf (l1 := [_, _, _, _, _]) (L' := (_ :: _ :: _ :: _ :: _ :: _ :: _ :: _ :: _ :: _)) rfl rfl rfl rfl (Zm rfl rfl rfl (Zf 5 rfl) (by first | exact of_decide_eq_true rfl | omega | (simp [cOp, cWk, cIv, cHr, cLt, cWt, cIt, cFl, cTn, cCl, cPo, cSt, cDt, cDs, Sl.v, zIns, insV]; done) | (simp [cOp, cWk, cIv, cHr, cLt, cWt, cIt, cFl, cTn, cCl, cPo, cSt, cDt, cDs, Sl.v, zIns, insV]; omega) | (simp [cOp, cWk, cIv, cHr, cLt, cWt, cIt, cFl, cTn, cCl, cPo, cSt, cDt, cDs, Sl.v, zIns, insV] at *; omega)) i_99 rfl rfl) rfl (by kernel_rfl) ?_
           refine Zx 30 rfl rfl rfl rfl (by kernel_rfl) (by kernel_rfl) (by kernel_rfl) (by decide) (fun _ _ => (Ze rfl rfl)) ?_
           refine Zx 31 rfl rfl rfl rfl (by kernel_rfl) (by kernel_rfl) (by kernel_rfl) (by decide) (fun _ _ => (Zb (fo := 4) rfl Try.underlying103 rfl i_101 rfl rfl rfl)) ?_
           refine GP_all [32] (by kernel_rfl) (by decide) ?_
           refine (And.intro ?_ trivial)
           ·
            refine Xf (l1 := [_, _, _, _, _]) (L' := (_ :: _ :: _ :: _ :: _ :: _ :: _ :: _ :: _ :: _)) rfl rfl rfl rfl (Zm rfl rfl rfl (Zf 5 rfl) (by first | exact of_decide_eq_true rfl | omega | (simp [cOp, cWk, cIv, cHr, cLt, cWt, cIt, cFl, cTn, cCl, cPo, cSt, cDt, cDs, Sl.v, zIns, insV]; done) | (simp [cOp, cWk, cIv, cHr, cLt, cWt, cIt, cFl, cTn, cCl, cPo, cSt, cDt, cDs, Sl.v, zIns, insV]; omega) | (simp [cOp, cWk, cIv, cHr, cLt, cWt, cIt, cFl, cTn, cCl, cPo, cSt, cDt, cDs, Sl.v, zIns, insV] at *; omega)) i_101 rfl rfl) rfl (by kernel_rfl) ?_
            refine Zx 33 rfl rfl rfl rfl (by kernel_rfl) (by kernel_rfl) (by kernel_rfl) (by decide) (fun _ _ => (Ze rfl rfl)) ?_
            refine Zx 34 rfl rfl rfl rfl (by kernel_rfl) (by kernel_rfl) (by kernel_rfl) (by decide) (fun _ _ => (Zb (fo := 3) rfl Try.underlying103 rfl i_100 rfl rfl rfl)) ?_
            refine GP_all [35] (by kernel_rfl) (by decide) ?_
            refine (And.intro ?_ trivial)
            ·
             refine Xf (l1 := [_, _, _, _, _]) (L' := (_ :: _ :: _ :: _ :: _ :: _ :: _ :: _ :: _ :: _)) rfl rfl rfl rfl (Zm rfl rfl rfl (Zf 5 rfl) (by first | exact of_decide_eq_true rfl | omega | (simp [cOp, cWk, cIv, cHr, cLt, cWt, cIt, cFl, cTn, cCl, cPo, cSt, cDt, cDs, Sl.v, zIns, insV]; done) | (simp [cOp, cWk, cIv, cHr, cLt, cWt, cIt, cFl, cTn, cCl, cPo, cSt, cDt, cDs, Sl.v, zIns, insV]; omega) | (simp [cOp, cWk, cIv, cHr, cLt, cWt, cIt, cFl, cTn, cCl, cPo, cSt, cDt, cDs, Sl.v, zIns, insV] at *; omega)) i_100 rfl rfl) rfl (by kernel_rfl) ?_
             refine GP_done (by kernel_rfl) ?_
             exact Xj (L1 := [_, _, _, _, _]) (by exact (And.intro rfl (And.intro rfl (And.intro rfl (And.intro rfl (And.intro rfl trivial)))))) [4, 4, 4, 4, 4] (by exact ⟨_, _, rfl, List.perm_append_comm (l₁ := [_, _, _, _])⟩) (jn15 ⟨(w1, w2, w3), by rw [← Yc Cl.v0 i1C hc, ← Yc Cl.g bC hc, ← Yc Cl.s shC hc]; exact ⟨hw1, hw2, hw3⟩⟩)
      ·
       refine GPop_new rfl rfl rfl rfl (Zn (s := 1) (cs := [_]) rfl Try.underlying100 i_109 rfl rfl rfl rfl rfl rfl rfl rfl rfl) [5, 3] (fun _ => ⟨_, rfl⟩) (fun b121 => ?_)
       refine GP_all [10] (by kernel_rfl) (by decide) ?_
       refine (And.intro ?_ trivial)
       ·
        refine Yn (l1 := [_, _, _, _, _, _]) (sl := v1) (nn := i) (m := 1) (news := (i1C c.v0)) (bt := 8) rfl rfl rfl rfl Try.underlying99 Try.underlying99 (by first | exact .inl rfl | exact .inr ⟨_, rfl⟩) i_3 rfl rfl rfl rfl rfl rfl h1 rfl (Yg (Zf 2 rfl) rfl rfl (by simp [i1C, Value.oneCell'])) (by omega) (by omega) [5, 3] (fun _ => ⟨_, rfl⟩) ?_
        intro w1 hw1 _
        show GP _ _ _ _ _ _ _ _ (_ :: _ :: _ :: _ :: _ :: _ :: _ :: _ :: _ :: _) _
        refine GP_all [18] (by kernel_rfl) (by decide) ?_
        refine (And.intro ?_ trivial)
        ·
         refine Yn (l1 := [_, _, _, _, _, _, _]) (sl := v2) (nn := i) (m := 1) (news := (bC c.g)) (bt := 1) rfl rfl rfl rfl Try.underlying101 Try.underlying101 (by first | exact .inl rfl | exact .inr ⟨_, rfl⟩) i_4 rfl rfl rfl rfl rfl rfl h2 rfl (Yg (Zf 3 rfl) rfl rfl (by simp [bC, Value.oneCell'])) (by omega) (by omega) [5, 3] (fun _ => ⟨_, rfl⟩) ?_
         intro w2 hw2 _
         show GP _ _ _ _ _ _ _ _ (_ :: _ :: _ :: _ :: _ :: _ :: _ :: _ :: _ :: _) _
         refine GP_all [26] (by kernel_rfl) (by decide) ?_
         refine (And.intro ?_ trivial)
         ·
          refine Yn (l1 := [_, _, _, _, _, _, _, _]) (sl := v3) (nn := i) (m := 1) (news := (shC c.s)) (bt := 24) rfl rfl rfl rfl Try.underlying100 Try.underlying100 (by first | exact .inl rfl | exact .inr ⟨_, rfl⟩) i_109 rfl rfl rfl rfl rfl rfl h3 rfl (Yg (Zf 1 rfl) rfl rfl (by simp [shC, Value.oneCell'])) (by omega) (by omega) [5, 3] (fun _ => ⟨_, rfl⟩) ?_
          intro w3 hw3 _
          show GP _ _ _ _ _ _ _ _ (_ :: _ :: _ :: _ :: _ :: _ :: _ :: _ :: _ :: _) _
          refine Zx 27 rfl rfl rfl rfl (by kernel_rfl) (by kernel_rfl) (by kernel_rfl) (by decide) (fun _ _ => (Ze rfl rfl)) ?_
          refine Zx 28 rfl rfl rfl rfl (by kernel_rfl) (by kernel_rfl) (by kernel_rfl) (by decide) (fun _ _ => (Zb (fo := 2) rfl Try.underlying103 rfl i_99 rfl rfl rfl)) ?_
          refine GP_all [29] (by kernel_rfl) (by decide) ?_
          refine (And.intro ?_ trivial)
          ·
           refine Xf (l1 := [_, _, _, _, _]) (L' := (_ :: _ :: _ :: _ :: _ :: _ :: _ :: _ :: _ :: _)) rfl rfl rfl rfl (Zm rfl rfl rfl (Zf 5 rfl) (by first | exact of_decide_eq_true rfl | omega | (simp [cOp, cWk, cIv, cHr, cLt, cWt, cIt, cFl, cTn, cCl, cPo, cSt, cDt, cDs, Sl.v, zIns, insV]; done) | (simp [cOp, cWk, cIv, cHr, cLt, cWt, cIt, cFl, cTn, cCl, cPo, cSt, cDt, cDs, Sl.v, zIns, insV]; omega) | (simp [cOp, cWk, cIv, cHr, cLt, cWt, cIt, cFl, cTn, cCl, cPo, cSt, cDt, cDs, Sl.v, zIns, insV] at *; omega)) i_99 rfl rfl) rfl (by kernel_rfl) ?_
           refine Zx 30 rfl rfl rfl rfl (by kernel_rfl) (by kernel_rfl) (by kernel_rfl) (by decide) (fun _ _ => (Ze rfl rfl)) ?_
           refine Zx 31 rfl rfl rfl rfl (by kernel_rfl) (by kernel_rfl) (by kernel_rfl) (by decide) (fun _ _ => (Zb (fo := 4) rfl Try.underlying103 rfl i_101 rfl rfl rfl)) ?_
           refine GP_all [32] (by kernel_rfl) (by decide) ?_
           refine (And.intro ?_ trivial)
           ·
            refine Xf (l1 := [_, _, _, _, _]) (L' := (_ :: _ :: _ :: _ :: _ :: _ :: _ :: _ :: _ :: _)) rfl rfl rfl rfl (Zm rfl rfl rfl (Zf 5 rfl) (by first | exact of_decide_eq_true rfl | omega | (simp [cOp, cWk, cIv, cHr, cLt, cWt, cIt, cFl, cTn, cCl, cPo, cSt, cDt, cDs, Sl.v, zIns, insV]; done) | (simp [cOp, cWk, cIv, cHr, cLt, cWt, cIt, cFl, cTn, cCl, cPo, cSt, cDt, cDs, Sl.v, zIns, insV]; omega) | (simp [cOp, cWk, cIv, cHr, cLt, cWt, cIt, cFl, cTn, cCl, cPo, cSt, cDt, cDs, Sl.v, zIns, insV] at *; omega)) i_101 rfl rfl) rfl (by kernel_rfl) ?_
            refine Zx 33 rfl rfl rfl rfl (by kernel_rfl) (by kernel_rfl) (by kernel_rfl) (by decide) (fun _ _ => (Ze rfl rfl)) ?_
            refine Zx 34 rfl rfl rfl rfl (by kernel_rfl) (by kernel_rfl) (by kernel_rfl) (by decide) (fun _ _ => (Zb (fo := 3) rfl Try.underlying103 rfl i_100 rfl rfl rfl)) ?_
            refine GP_all [35] (by kernel_rfl) (by decide) ?_
            refine (And.intro ?_ trivial)
            ·
             refine Xf (l1 := [_, _, _, _, _]) (L' := (_ :: _ :: _ :: _ :: _ :: _ :: _ :: _ :: _ :: _)) rfl rfl rfl rfl (Zm rfl rfl rfl (Zf 5 rfl) (by first | exact of_decide_eq_true rfl | omega | (simp [cOp, cWk, cIv, cHr, cLt, cWt, cIt, cFl, cTn, cCl, cPo, cSt, cDt, cDs, Sl.v, zIns, insV]; done) | (simp [cOp, cWk, cIv, cHr, cLt, cWt, cIt, cFl, cTn, cCl, cPo, cSt, cDt, cDs, Sl.v, zIns, insV]; omega) | (simp [cOp, cWk, cIv, cHr, cLt, cWt, cIt, cFl, cTn, cCl, cPo, cSt, cDt, cDs, Sl.v, zIns, insV] at *; omega)) i_100 rfl rfl) rfl (by kernel_rfl) ?_
             refine GP_done (by kernel_rfl) ?_
             exact Xj (L1 := [_, _, _, _, _]) (by exact (And.intro rfl (And.intro rfl (And.intro rfl (And.intro rfl (And.intro rfl trivial)))))) [4, 4, 4, 4, 4] (by exact ⟨_, _, rfl, List.perm_append_comm (l₁ := [_, _, _, _])⟩) (jn15 ⟨(w1, w2, w3), by rw [← Yc Cl.v0 i1C hc, ← Yc Cl.g bC hc, ← Yc Cl.s shC hc]; exact ⟨hw1, hw2, hw3⟩⟩)
     ·
      refine GPop_new rfl rfl rfl rfl (Zn (s := 1) (cs := [_]) rfl Try.underlying100 i_109 rfl rfl rfl rfl rfl rfl rfl rfl rfl) [4, 2] (fun _ => ⟨_, rfl⟩) (fun b121 => ?_)
      refine GP_all [9] (by kernel_rfl) (by decide) ?_
      refine (And.intro ?_ trivial)
      ·
       refine GPop_new rfl rfl rfl rfl (Zn (s := 1) (cs := [_]) rfl Try.underlying99 i_3 rfl rfl rfl rfl rfl rfl rfl rfl rfl) [5, 3] (fun _ => ⟨_, rfl⟩) (fun b105 => ?_)
       refine GP_all [10] (by kernel_rfl) (by decide) ?_
       refine (And.intro ?_ trivial)
       ·
        refine Yn (l1 := [_, _, _, _, _, _]) (sl := v1) (nn := i) (m := 1) (news := (i1C c.v0)) (bt := 8) rfl rfl rfl rfl Try.underlying99 Try.underlying99 (by first | exact .inl rfl | exact .inr ⟨_, rfl⟩) i_3 rfl rfl rfl rfl rfl rfl h1 rfl (Yg (Zf 1 rfl) rfl rfl (by simp [i1C, Value.oneCell'])) (by omega) (by omega) [5, 3] (fun _ => ⟨_, rfl⟩) ?_
        intro w1 hw1 _
        show GP _ _ _ _ _ _ _ _ (_ :: _ :: _ :: _ :: _ :: _ :: _ :: _ :: _ :: _) _
        refine GP_all [18] (by kernel_rfl) (by decide) ?_
        refine (And.intro ?_ trivial)
        ·
         refine Yn (l1 := [_, _, _, _, _, _, _]) (sl := v2) (nn := i) (m := 1) (news := (bC c.g)) (bt := 1) rfl rfl rfl rfl Try.underlying101 Try.underlying101 (by first | exact .inl rfl | exact .inr ⟨_, rfl⟩) i_4 rfl rfl rfl rfl rfl rfl h2 rfl (Yg (Zf 3 rfl) rfl rfl (by simp [bC, Value.oneCell'])) (by omega) (by omega) [5, 3] (fun _ => ⟨_, rfl⟩) ?_
         intro w2 hw2 _
         show GP _ _ _ _ _ _ _ _ (_ :: _ :: _ :: _ :: _ :: _ :: _ :: _ :: _ :: _) _
         refine GP_all [26] (by kernel_rfl) (by decide) ?_
         refine (And.intro ?_ trivial)
         ·
          refine Yn (l1 := [_, _, _, _, _, _, _, _]) (sl := v3) (nn := i) (m := 1) (news := (shC c.s)) (bt := 24) rfl rfl rfl rfl Try.underlying100 Try.underlying100 (by first | exact .inl rfl | exact .inr ⟨_, rfl⟩) i_109 rfl rfl rfl rfl rfl rfl h3 rfl (Yg (Zf 2 rfl) rfl rfl (by simp [shC, Value.oneCell'])) (by omega) (by omega) [5, 3] (fun _ => ⟨_, rfl⟩) ?_
          intro w3 hw3 _
          show GP _ _ _ _ _ _ _ _ (_ :: _ :: _ :: _ :: _ :: _ :: _ :: _ :: _ :: _) _
          refine Zx 27 rfl rfl rfl rfl (by kernel_rfl) (by kernel_rfl) (by kernel_rfl) (by decide) (fun _ _ => (Ze rfl rfl)) ?_
          refine Zx 28 rfl rfl rfl rfl (by kernel_rfl) (by kernel_rfl) (by kernel_rfl) (by decide) (fun _ _ => (Zb (fo := 2) rfl Try.underlying103 rfl i_99 rfl rfl rfl)) ?_
          refine GP_all [29] (by kernel_rfl) (by decide) ?_
          refine (And.intro ?_ trivial)
          ·
           refine Xf (l1 := [_, _, _, _, _]) (L' := (_ :: _ :: _ :: _ :: _ :: _ :: _ :: _ :: _ :: _)) rfl rfl rfl rfl (Zm rfl rfl rfl (Zf 5 rfl) (by first | exact of_decide_eq_true rfl | omega | (simp [cOp, cWk, cIv, cHr, cLt, cWt, cIt, cFl, cTn, cCl, cPo, cSt, cDt, cDs, Sl.v, zIns, insV]; done) | (simp [cOp, cWk, cIv, cHr, cLt, cWt, cIt, cFl, cTn, cCl, cPo, cSt, cDt, cDs, Sl.v, zIns, insV]; omega) | (simp [cOp, cWk, cIv, cHr, cLt, cWt, cIt, cFl, cTn, cCl, cPo, cSt, cDt, cDs, Sl.v, zIns, insV] at *; omega)) i_99 rfl rfl) rfl (by kernel_rfl) ?_
           refine Zx 30 rfl rfl rfl rfl (by kernel_rfl) (by kernel_rfl) (by kernel_rfl) (by decide) (fun _ _ => (Ze rfl rfl)) ?_
           refine Zx 31 rfl rfl rfl rfl (by kernel_rfl) (by kernel_rfl) (by kernel_rfl) (by decide) (fun _ _ => (Zb (fo := 4) rfl Try.underlying103 rfl i_101 rfl rfl rfl)) ?_
           refine GP_all [32] (by kernel_rfl) (by decide) ?_
           refine (And.intro ?_ trivial)
           ·
            refine Xf (l1 := [_, _, _, _, _]) (L' := (_ :: _ :: _ :: _ :: _ :: _ :: _ :: _ :: _ :: _)) rfl rfl rfl rfl (Zm rfl rfl rfl (Zf 5 rfl) (by first | exact of_decide_eq_true rfl | omega | (simp [cOp, cWk, cIv, cHr, cLt, cWt, cIt, cFl, cTn, cCl, cPo, cSt, cDt, cDs, Sl.v, zIns, insV]; done) | (simp [cOp, cWk, cIv, cHr, cLt, cWt, cIt, cFl, cTn, cCl, cPo, cSt, cDt, cDs, Sl.v, zIns, insV]; omega) | (simp [cOp, cWk, cIv, cHr, cLt, cWt, cIt, cFl, cTn, cCl, cPo, cSt, cDt, cDs, Sl.v, zIns, insV] at *; omega)) i_101 rfl rfl) rfl (by kernel_rfl) ?_
            refine Zx 33 rfl rfl rfl rfl (by kernel_rfl) (by kernel_rfl) (by kernel_rfl) (by decide) (fun _ _ => (Ze rfl rfl)) ?_
            refine Zx 34 rfl rfl rfl rfl (by kernel_rfl) (by kernel_rfl) (by kernel_rfl) (by decide) (fun _ _ => (Zb (fo := 3) rfl Try.underlying103 rfl i_100 rfl rfl rfl)) ?_
            refine GP_all [35] (by kernel_rfl) (by decide) ?_
            refine (And.intro ?_ trivial)
            ·
             refine Xf (l1 := [_, _, _, _, _]) (L' := (_ :: _ :: _ :: _ :: _ :: _ :: _ :: _ :: _ :: _)) rfl rfl rfl rfl (Zm rfl rfl rfl (Zf 5 rfl) (by first | exact of_decide_eq_true rfl | omega | (simp [cOp, cWk, cIv, cHr, cLt, cWt, cIt, cFl, cTn, cCl, cPo, cSt, cDt, cDs, Sl.v, zIns, insV]; done) | (simp [cOp, cWk, cIv, cHr, cLt, cWt, cIt, cFl, cTn, cCl, cPo, cSt, cDt, cDs, Sl.v, zIns, insV]; omega) | (simp [cOp, cWk, cIv, cHr, cLt, cWt, cIt, cFl, cTn, cCl, cPo, cSt, cDt, cDs, Sl.v, zIns, insV] at *; omega)) i_100 rfl rfl) rfl (by kernel_rfl) ?_
             refine GP_done (by kernel_rfl) ?_
             exact Xj (L1 := [_, _, _, _, _]) (by exact (And.intro rfl (And.intro rfl (And.intro rfl (And.intro rfl (And.intro rfl trivial)))))) [4, 4, 4, 4, 4] (by exact ⟨_, _, rfl, List.perm_append_comm (l₁ := [_, _, _, _])⟩) (jn15 ⟨(w1, w2, w3), by rw [← Yc Cl.v0 i1C hc, ← Yc Cl.g bC hc, ← Yc Cl.s shC hc]; exact ⟨hw1, hw2, hw3⟩⟩)
    ·
     refine GPop_new rfl rfl rfl rfl (Zn (s := 1) (cs := [_]) rfl Try.underlying100 i_109 rfl rfl rfl rfl rfl rfl rfl rfl rfl) [3, 1] (fun _ => ⟨_, rfl⟩) (fun b121 => ?_)
     refine GP_all [9, 17] (by kernel_rfl) (by decide) ?_
     refine (And.intro ?_ (And.intro ?_ trivial))
     ·
      refine GPop_new rfl rfl rfl rfl (Zn (s := 1) (cs := [_]) rfl Try.underlying99 i_3 rfl rfl rfl rfl rfl rfl rfl rfl rfl) [4, 2] (fun _ => ⟨_, rfl⟩) (fun b105 => ?_)
      refine GP_all [10, 17] (by kernel_rfl) (by decide) ?_
      refine (And.intro ?_ (And.intro ?_ trivial))
      ·
       refine Yn (l1 := [_, _, _, _, _]) (sl := v1) (nn := i) (m := 1) (news := (i1C c.v0)) (bt := 8) rfl rfl rfl rfl Try.underlying99 Try.underlying99 (by first | exact .inl rfl | exact .inr ⟨_, rfl⟩) i_3 rfl rfl rfl rfl rfl rfl h1 rfl (Yg (Zf 1 rfl) rfl rfl (by simp [i1C, Value.oneCell'])) (by omega) (by omega) [4, 2] (fun _ => ⟨_, rfl⟩) ?_
       intro w1 hw1 _
       show GP _ _ _ _ _ _ _ _ (_ :: _ :: _ :: _ :: _ :: _ :: _ :: _ :: _) _
       refine GP_all [17] (by kernel_rfl) (by decide) ?_
       refine (And.intro ?_ trivial)
       ·
        refine GPop_new rfl rfl rfl rfl (Zn (s := 1) (cs := [_]) rfl Try.underlying101 i_4 rfl rfl rfl rfl rfl rfl rfl rfl rfl) [5, 3] (fun _ => ⟨_, rfl⟩) (fun b113 => ?_)
        refine GP_all [18] (by kernel_rfl) (by decide) ?_
        refine (And.intro ?_ trivial)
        ·
         refine Yn (l1 := [_, _, _, _, _, _, _]) (sl := v2) (nn := i) (m := 1) (news := (bC c.g)) (bt := 1) rfl rfl rfl rfl Try.underlying101 Try.underlying101 (by first | exact .inl rfl | exact .inr ⟨_, rfl⟩) i_4 rfl rfl rfl rfl rfl rfl h2 rfl (Yg (Zf 1 rfl) rfl rfl (by simp [bC, Value.oneCell'])) (by omega) (by omega) [5, 3] (fun _ => ⟨_, rfl⟩) ?_
         intro w2 hw2 _
         show GP _ _ _ _ _ _ _ _ (_ :: _ :: _ :: _ :: _ :: _ :: _ :: _ :: _ :: _) _
         refine GP_all [26] (by kernel_rfl) (by decide) ?_
         refine (And.intro ?_ trivial)
         ·
          refine Yn (l1 := [_, _, _, _, _, _, _, _]) (sl := v3) (nn := i) (m := 1) (news := (shC c.s)) (bt := 24) rfl rfl rfl rfl Try.underlying100 Try.underlying100 (by first | exact .inl rfl | exact .inr ⟨_, rfl⟩) i_109 rfl rfl rfl rfl rfl rfl h3 rfl (Yg (Zf 3 rfl) rfl rfl (by simp [shC, Value.oneCell'])) (by omega) (by omega) [5, 3] (fun _ => ⟨_, rfl⟩) ?_
          intro w3 hw3 _
          show GP _ _ _ _ _ _ _ _ (_ :: _ :: _ :: _ :: _ :: _ :: _ :: _ :: _ :: _) _
          refine Zx 27 rfl rfl rfl rfl (by kernel_rfl) (by kernel_rfl) (by kernel_rfl) (by decide) (fun _ _ => (Ze rfl rfl)) ?_
          refine Zx 28 rfl rfl rfl rfl (by kernel_rfl) (by kernel_rfl) (by kernel_rfl) (by decide) (fun _ _ => (Zb (fo := 2) rfl Try.underlying103 rfl i_99 rfl rfl rfl)) ?_
          refine GP_all [29] (by kernel_rfl) (by decide) ?_
          refine (And.intro ?_ trivial)
          ·
           refine Xf (l1 := [_, _, _, _, _]) (L' := (_ :: _ :: _ :: _ :: _ :: _ :: _ :: _ :: _ :: _)) rfl rfl rfl rfl (Zm rfl rfl rfl (Zf 5 rfl) (by first | exact of_decide_eq_true rfl | omega | (simp [cOp, cWk, cIv, cHr, cLt, cWt, cIt, cFl, cTn, cCl, cPo, cSt, cDt, cDs, Sl.v, zIns, insV]; done) | (simp [cOp, cWk, cIv, cHr, cLt, cWt, cIt, cFl, cTn, cCl, cPo, cSt, cDt, cDs, Sl.v, zIns, insV]; omega) | (simp [cOp, cWk, cIv, cHr, cLt, cWt, cIt, cFl, cTn, cCl, cPo, cSt, cDt, cDs, Sl.v, zIns, insV] at *; omega)) i_99 rfl rfl) rfl (by kernel_rfl) ?_
           refine Zx 30 rfl rfl rfl rfl (by kernel_rfl) (by kernel_rfl) (by kernel_rfl) (by decide) (fun _ _ => (Ze rfl rfl)) ?_
           refine Zx 31 rfl rfl rfl rfl (by kernel_rfl) (by kernel_rfl) (by kernel_rfl) (by decide) (fun _ _ => (Zb (fo := 4) rfl Try.underlying103 rfl i_101 rfl rfl rfl)) ?_
           refine GP_all [32] (by kernel_rfl) (by decide) ?_
           refine (And.intro ?_ trivial)
           ·
            refine Xf (l1 := [_, _, _, _, _]) (L' := (_ :: _ :: _ :: _ :: _ :: _ :: _ :: _ :: _ :: _)) rfl rfl rfl rfl (Zm rfl rfl rfl (Zf 5 rfl) (by first | exact of_decide_eq_true rfl | omega | (simp [cOp, cWk, cIv, cHr, cLt, cWt, cIt, cFl, cTn, cCl, cPo, cSt, cDt, cDs, Sl.v, zIns, insV]; done) | (simp [cOp, cWk, cIv, cHr, cLt, cWt, cIt, cFl, cTn, cCl, cPo, cSt, cDt, cDs, Sl.v, zIns, insV]; omega) | (simp [cOp, cWk, cIv, cHr, cLt, cWt, cIt, cFl, cTn, cCl, cPo, cSt, cDt, cDs, Sl.v, zIns, insV] at *; omega)) i_101 rfl rfl) rfl (by kernel_rfl) ?_
            refine Zx 33 rfl rfl rfl rfl (by kernel_rfl) (by kernel_rfl) (by kernel_rfl) (by decide) (fun _ _ => (Ze rfl rfl)) ?_
            refine Zx 34 rfl rfl rfl rfl (by kernel_rfl) (by kernel_rfl) (by kernel_rfl) (by decide) (fun _ _ => (Zb (fo := 3) rfl Try.underlying103 rfl i_100 rfl rfl rfl)) ?_
            refine GP_all [35] (by kernel_rfl) (by decide) ?_
            refine (And.intro ?_ trivial)
            ·
             refine Xf (l1 := [_, _, _, _, _]) (L' := (_ :: _ :: _ :: _ :: _ :: _ :: _ :: _ :: _ :: _)) rfl rfl rfl rfl (Zm rfl rfl rfl (Zf 5 rfl) (by first | exact of_decide_eq_true rfl | omega | (simp [cOp, cWk, cIv, cHr, cLt, cWt, cIt, cFl, cTn, cCl, cPo, cSt, cDt, cDs, Sl.v, zIns, insV]; done) | (simp [cOp, cWk, cIv, cHr, cLt, cWt, cIt, cFl, cTn, cCl, cPo, cSt, cDt, cDs, Sl.v, zIns, insV]; omega) | (simp [cOp, cWk, cIv, cHr, cLt, cWt, cIt, cFl, cTn, cCl, cPo, cSt, cDt, cDs, Sl.v, zIns, insV] at *; omega)) i_100 rfl rfl) rfl (by kernel_rfl) ?_
             refine GP_done (by kernel_rfl) ?_
             exact Xj (L1 := [_, _, _, _, _]) (by exact (And.intro rfl (And.intro rfl (And.intro rfl (And.intro rfl (And.intro rfl trivial)))))) [4, 4, 4, 4, 4] (by exact ⟨_, _, rfl, List.perm_append_comm (l₁ := [_, _, _, _])⟩) (jn15 ⟨(w1, w2, w3), by rw [← Yc Cl.v0 i1C hc, ← Yc Cl.g bC hc, ← Yc Cl.s shC hc]; exact ⟨hw1, hw2, hw3⟩⟩)
      ·
       refine GPop_new rfl rfl rfl rfl (Zn (s := 1) (cs := [_]) rfl Try.underlying101 i_4 rfl rfl rfl rfl rfl rfl rfl rfl rfl) [5, 3] (fun _ => ⟨_, rfl⟩) (fun b113 => ?_)
       refine GP_all [10] (by kernel_rfl) (by decide) ?_
       refine (And.intro ?_ trivial)
       ·
        refine Yn (l1 := [_, _, _, _, _, _]) (sl := v1) (nn := i) (m := 1) (news := (i1C c.v0)) (bt := 8) rfl rfl rfl rfl Try.underlying99 Try.underlying99 (by first | exact .inl rfl | exact .inr ⟨_, rfl⟩) i_3 rfl rfl rfl rfl rfl rfl h1 rfl (Yg (Zf 2 rfl) rfl rfl (by simp [i1C, Value.oneCell'])) (by omega) (by omega) [5, 3] (fun _ => ⟨_, rfl⟩) ?_
        intro w1 hw1 _
        show GP _ _ _ _ _ _ _ _ (_ :: _ :: _ :: _ :: _ :: _ :: _ :: _ :: _ :: _) _
        refine GP_all [18] (by kernel_rfl) (by decide) ?_
        refine (And.intro ?_ trivial)
        ·
         refine Yn (l1 := [_, _, _, _, _, _, _]) (sl := v2) (nn := i) (m := 1) (news := (bC c.g)) (bt := 1) rfl rfl rfl rfl Try.underlying101 Try.underlying101 (by first | exact .inl rfl | exact .inr ⟨_, rfl⟩) i_4 rfl rfl rfl rfl rfl rfl h2 rfl (Yg (Zf 1 rfl) rfl rfl (by simp [bC, Value.oneCell'])) (by omega) (by omega) [5, 3] (fun _ => ⟨_, rfl⟩) ?_
         intro w2 hw2 _
         show GP _ _ _ _ _ _ _ _ (_ :: _ :: _ :: _ :: _ :: _ :: _ :: _ :: _ :: _) _
         refine GP_all [26] (by kernel_rfl) (by decide) ?_
         refine (And.intro ?_ trivial)
         ·
          refine Yn (l1 := [_, _, _, _, _, _, _, _]) (sl := v3) (nn := i) (m := 1) (news := (shC c.s)) (bt := 24) rfl rfl rfl rfl Try.underlying100 Try.underlying100 (by first | exact .inl rfl | exact .inr ⟨_, rfl⟩) i_109 rfl rfl rfl rfl rfl rfl h3 rfl (Yg (Zf 3 rfl) rfl rfl (by simp [shC, Value.oneCell'])) (by omega) (by omega) [5, 3] (fun _ => ⟨_, rfl⟩) ?_
          intro w3 hw3 _
          show GP _ _ _ _ _ _ _ _ (_ :: _ :: _ :: _ :: _ :: _ :: _ :: _ :: _ :: _) _
          refine Zx 27 rfl rfl rfl rfl (by kernel_rfl) (by kernel_rfl) (by kernel_rfl) (by decide) (fun _ _ => (Ze rfl rfl)) ?_
          refine Zx 28 rfl rfl rfl rfl (by kernel_rfl) (by kernel_rfl) (by kernel_rfl) (by decide) (fun _ _ => (Zb (fo := 2) rfl Try.underlying103 rfl i_99 rfl rfl rfl)) ?_
          refine GP_all [29] (by kernel_rfl) (by decide) ?_
          refine (And.intro ?_ trivial)
          ·
           refine Xf (l1 := [_, _, _, _, _]) (L' := (_ :: _ :: _ :: _ :: _ :: _ :: _ :: _ :: _ :: _)) rfl rfl rfl rfl (Zm rfl rfl rfl (Zf 5 rfl) (by first | exact of_decide_eq_true rfl | omega | (simp [cOp, cWk, cIv, cHr, cLt, cWt, cIt, cFl, cTn, cCl, cPo, cSt, cDt, cDs, Sl.v, zIns, insV]; done) | (simp [cOp, cWk, cIv, cHr, cLt, cWt, cIt, cFl, cTn, cCl, cPo, cSt, cDt, cDs, Sl.v, zIns, insV]; omega) | (simp [cOp, cWk, cIv, cHr, cLt, cWt, cIt, cFl, cTn, cCl, cPo, cSt, cDt, cDs, Sl.v, zIns, insV] at *; omega)) i_99 rfl rfl) rfl (by kernel_rfl) ?_
           refine Zx 30 rfl rfl rfl rfl (by kernel_rfl) (by kernel_rfl) (by kernel_rfl) (by decide) (fun _ _ => (Ze rfl rfl)) ?_
           refine Zx 31 rfl rfl rfl rfl (by kernel_rfl) (by kernel_rfl) (by kernel_rfl) (by decide) (fun _ _ => (Zb (fo := 4) rfl Try.underlying103 rfl i_101 rfl rfl rfl)) ?_
           refine GP_all [32] (by kernel_rfl) (by decide) ?_
           refine (And.intro ?_ trivial)
           ·
            refine Xf (l1 := [_, _, _, _, _]) (L' := (_ :: _ :: _ :: _ :: _ :: _ :: _ :: _ :: _ :: _)) rfl rfl rfl rfl (Zm rfl rfl rfl (Zf 5 rfl) (by first | exact of_decide_eq_true rfl | omega | (simp [cOp, cWk, cIv, cHr, cLt, cWt, cIt, cFl, cTn, cCl, cPo, cSt, cDt, cDs, Sl.v, zIns, insV]; done) | (simp [cOp, cWk, cIv, cHr, cLt, cWt, cIt, cFl, cTn, cCl, cPo, cSt, cDt, cDs, Sl.v, zIns, insV]; omega) | (simp [cOp, cWk, cIv, cHr, cLt, cWt, cIt, cFl, cTn, cCl, cPo, cSt, cDt, cDs, Sl.v, zIns, insV] at *; omega)) i_101 rfl rfl) rfl (by kernel_rfl) ?_
            refine Zx 33 rfl rfl rfl rfl (by kernel_rfl) (by kernel_rfl) (by kernel_rfl) (by decide) (fun _ _ => (Ze rfl rfl)) ?_
            refine Zx 34 rfl rfl rfl rfl (by kernel_rfl) (by kernel_rfl) (by kernel_rfl) (by decide) (fun _ _ => (Zb (fo := 3) rfl Try.underlying103 rfl i_100 rfl rfl rfl)) ?_
            refine GP_all [35] (by kernel_rfl) (by decide) ?_
            refine (And.intro ?_ trivial)
            ·
             refine Xf (l1 := [_, _, _, _, _]) (L' := (_ :: _ :: _ :: _ :: _ :: _ :: _ :: _ :: _ :: _)) rfl rfl rfl rfl (Zm rfl rfl rfl (Zf 5 rfl) (by first | exact of_decide_eq_true rfl | omega | (simp [cOp, cWk, cIv, cHr, cLt, cWt, cIt, cFl, cTn, cCl, cPo, cSt, cDt, cDs, Sl.v, zIns, insV]; done) | (simp [cOp, cWk, cIv, cHr, cLt, cWt, cIt, cFl, cTn, cCl, cPo, cSt, cDt, cDs, Sl.v, zIns, insV]; omega) | (simp [cOp, cWk, cIv, cHr, cLt, cWt, cIt, cFl, cTn, cCl, cPo, cSt, cDt, cDs, Sl.v, zIns, insV] at *; omega)) i_100 rfl rfl) rfl (by kernel_rfl) ?_
             refine GP_done (by kernel_rfl) ?_
             exact Xj (L1 := [_, _, _, _, _]) (by exact (And.intro rfl (And.intro rfl (And.intro rfl (And.intro rfl (And.intro rfl trivial)))))) [4, 4, 4, 4, 4] (by exact ⟨_, _, rfl, List.perm_append_comm (l₁ := [_, _, _, _])⟩) (jn15 ⟨(w1, w2, w3), by rw [← Yc Cl.v0 i1C hc, ← Yc Cl.g bC hc, ← Yc Cl.s shC hc]; exact ⟨hw1, hw2, hw3⟩⟩)
     ·
      refine GPop_new rfl rfl rfl rfl (Zn (s := 1) (cs := [_]) rfl Try.underlying101 i_4 rfl rfl rfl rfl rfl rfl rfl rfl rfl) [4, 2] (fun _ => ⟨_, rfl⟩) (fun b113 => ?_)
      refine GP_all [9] (by kernel_rfl) (by decide) ?_
      refine (And.intro ?_ trivial)
      ·
       refine GPop_new rfl rfl rfl rfl (Zn (s := 1) (cs := [_]) rfl Try.underlying99 i_3 rfl rfl rfl rfl rfl rfl rfl rfl rfl) [5, 3] (fun _ => ⟨_, rfl⟩) (fun b105 => ?_)
       refine GP_all [10] (by kernel_rfl) (by decide) ?_
       refine (And.intro ?_ trivial)
       ·
        refine Yn (l1 := [_, _, _, _, _, _]) (sl := v1) (nn := i) (m := 1) (news := (i1C c.v0)) (bt := 8) rfl rfl rfl rfl Try.underlying99 Try.underlying99 (by first | exact .inl rfl | exact .inr ⟨_, rfl⟩) i_3 rfl rfl rfl rfl rfl rfl h1 rfl (Yg (Zf 1 rfl) rfl rfl (by simp [i1C, Value.oneCell'])) (by omega) (by omega) [5, 3] (fun _ => ⟨_, rfl⟩) ?_
        intro w1 hw1 _
        show GP _ _ _ _ _ _ _ _ (_ :: _ :: _ :: _ :: _ :: _ :: _ :: _ :: _ :: _) _
        refine GP_all [18] (by kernel_rfl) (by decide) ?_
        refine (And.intro ?_ trivial)
        ·
         refine Yn (l1 := [_, _, _, _, _, _, _]) (sl := v2) (nn := i) (m := 1) (news := (bC c.g)) (bt := 1) rfl rfl rfl rfl Try.underlying101 Try.underlying101 (by first | exact .inl rfl | exact .inr ⟨_, rfl⟩) i_4 rfl rfl rfl rfl rfl rfl h2 rfl (Yg (Zf 2 rfl) rfl rfl (by simp [bC, Value.oneCell'])) (by omega) (by omega) [5, 3] (fun _ => ⟨_, rfl⟩) ?_
         intro w2 hw2 _
         show GP _ _ _ _ _ _ _ _ (_ :: _ :: _ :: _ :: _ :: _ :: _ :: _ :: _ :: _) _
         refine GP_all [26] (by kernel_rfl) (by decide) ?_
         refine (And.intro ?_ trivial)
         ·
          refine Yn (l1 := [_, _, _, _, _, _, _, _]) (sl := v3) (nn := i) (m := 1) (news := (shC c.s)) (bt := 24) rfl rfl rfl rfl Try.underlying100 Try.underlying100 (by first | exact .inl rfl | exact .inr ⟨_, rfl⟩) i_109 rfl rfl rfl rfl rfl rfl h3 rfl (Yg (Zf 3 rfl) rfl rfl (by simp [shC, Value.oneCell'])) (by omega) (by omega) [5, 3] (fun _ => ⟨_, rfl⟩) ?_
          intro w3 hw3 _
          show GP _ _ _ _ _ _ _ _ (_ :: _ :: _ :: _ :: _ :: _ :: _ :: _ :: _ :: _) _
          refine Zx 27 rfl rfl rfl rfl (by kernel_rfl) (by kernel_rfl) (by kernel_rfl) (by decide) (fun _ _ => (Ze rfl rfl)) ?_
          refine Zx 28 rfl rfl rfl rfl (by kernel_rfl) (by kernel_rfl) (by kernel_rfl) (by decide) (fun _ _ => (Zb (fo := 2) rfl Try.underlying103 rfl i_99 rfl rfl rfl)) ?_
          refine GP_all [29] (by kernel_rfl) (by decide) ?_
          refine (And.intro ?_ trivial)
          ·
           refine Xf (l1 := [_, _, _, _, _]) (L' := (_ :: _ :: _ :: _ :: _ :: _ :: _ :: _ :: _ :: _)) rfl rfl rfl rfl (Zm rfl rfl rfl (Zf 5 rfl) (by first | exact of_decide_eq_true rfl | omega | (simp [cOp, cWk, cIv, cHr, cLt, cWt, cIt, cFl, cTn, cCl, cPo, cSt, cDt, cDs, Sl.v, zIns, insV]; done) | (simp [cOp, cWk, cIv, cHr, cLt, cWt, cIt, cFl, cTn, cCl, cPo, cSt, cDt, cDs, Sl.v, zIns, insV]; omega) | (simp [cOp, cWk, cIv, cHr, cLt, cWt, cIt, cFl, cTn, cCl, cPo, cSt, cDt, cDs, Sl.v, zIns, insV] at *; omega)) i_99 rfl rfl) rfl (by kernel_rfl) ?_
           refine Zx 30 rfl rfl rfl rfl (by kernel_rfl) (by kernel_rfl) (by kernel_rfl) (by decide) (fun _ _ => (Ze rfl rfl)) ?_
           refine Zx 31 rfl rfl rfl rfl (by kernel_rfl) (by kernel_rfl) (by kernel_rfl) (by decide) (fun _ _ => (Zb (fo := 4) rfl Try.underlying103 rfl i_101 rfl rfl rfl)) ?_
           refine GP_all [32] (by kernel_rfl) (by decide) ?_
           refine (And.intro ?_ trivial)
           ·
            refine Xf (l1 := [_, _, _, _, _]) (L' := (_ :: _ :: _ :: _ :: _ :: _ :: _ :: _ :: _ :: _)) rfl rfl rfl rfl (Zm rfl rfl rfl (Zf 5 rfl) (by first | exact of_decide_eq_true rfl | omega | (simp [cOp, cWk, cIv, cHr, cLt, cWt, cIt, cFl, cTn, cCl, cPo, cSt, cDt, cDs, Sl.v, zIns, insV]; done) | (simp [cOp, cWk, cIv, cHr, cLt, cWt, cIt, cFl, cTn, cCl, cPo, cSt, cDt, cDs, Sl.v, zIns, insV]; omega) | (simp [cOp, cWk, cIv, cHr, cLt, cWt, cIt, cFl, cTn, cCl, cPo, cSt, cDt, cDs, Sl.v, zIns, insV] at *; omega)) i_101 rfl rfl) rfl (by kernel_rfl) ?_
            refine Zx 33 rfl rfl rfl rfl (by kernel_rfl) (by kernel_rfl) (by kernel_rfl) (by decide) (fun _ _ => (Ze rfl rfl)) ?_
            refine Zx 34 rfl rfl rfl rfl (by kernel_rfl) (by kernel_rfl) (by kernel_rfl) (by decide) (fun _ _ => (Zb (fo := 3) rfl Try.underlying103 rfl i_100 rfl rfl rfl)) ?_
            refine GP_all [35] (by kernel_rfl) (by decide) ?_
            refine (And.intro ?_ trivial)
            ·
             refine Xf (l1 := [_, _, _, _, _]) (L' := (_ :: _ :: _ :: _ :: _ :: _ :: _ :: _ :: _ :: _)) rfl rfl rfl rfl (Zm rfl rfl rfl (Zf 5 rfl) (by first | exact of_decide_eq_true rfl | omega | (simp [cOp, cWk, cIv, cHr, cLt, cWt, cIt, cFl, cTn, cCl, cPo, cSt, cDt, cDs, Sl.v, zIns, insV]; done) | (simp [cOp, cWk, cIv, cHr, cLt, cWt, cIt, cFl, cTn, cCl, cPo, cSt, cDt, cDs, Sl.v, zIns, insV]; omega) | (simp [cOp, cWk, cIv, cHr, cLt, cWt, cIt, cFl, cTn, cCl, cPo, cSt, cDt, cDs, Sl.v, zIns, insV] at *; omega)) i_100 rfl rfl) rfl (by kernel_rfl) ?_
             refine GP_done (by kernel_rfl) ?_
             exact Xj (L1 := [_, _, _, _, _]) (by exact (And.intro rfl (And.intro rfl (And.intro rfl (And.intro rfl (And.intro rfl trivial)))))) [4, 4, 4, 4, 4] (by exact ⟨_, _, rfl, List.perm_append_comm (l₁ := [_, _, _, _])⟩) (jn15 ⟨(w1, w2, w3), by rw [← Yc Cl.v0 i1C hc, ← Yc Cl.g bC hc, ← Yc Cl.s shC hc]; exact ⟨hw1, hw2, hw3⟩⟩)
  refine Yr rfl ?_
  refine G_endT (p1 := [_, _, _, _, _]) (T := _) Try.func104 rfl Zp [0, 0, 0, 0, 0] ⟨_, _, rfl, List.perm_append_comm (l₁ := [])⟩ ?_
  dsimp only [packed]
  obtain rfl : i = s.l.length := by omega
  rw [List.take_length] at h1 h2 h3
  exact ⟨poOf a0 a1 v1 v2 v3 3 4 109 s.l, l3, e3, _, poOf_ok hsl h1 h2 h3 hoks, poOf_k hM, by rw [poOf_v]; exact rdgPP rfl r0 r1 r2, rfl, by rw [poOf_c]; rfl⟩

end
end Go.Proofs.Ytjnaeoelnmhjfaa

set_option linter.unusedSimpArgs false
set_option linter.unusedVariables false
namespace Go.Proofs.Ytjnaeoelnmhjfaa
open Go Go.RowKit

section
theorem i_32 : Try.prog.info? 32 = some Try.t32 := by kernel_rfl
theorem p_32 : placesOf Try.prog (Try.prog.fieldsOf 32) = some [(0, 1), (1, 1), (2, 1), (3, 1), (4, 1), (5, 1), (6, 1), (7, 1), (8, 1), (9, 1), (10, 1), (11, 1), (12, 1), (13, 1), (14, 1)] := by kernel_rfl
theorem p_80 : placesOf Try.prog (Try.prog.fieldsOf 80) = some [(0, 2), (2, 1), (3, 1)] := by kernel_rfl

set_option maxRecDepth 100000 in
set_option maxHeartbeats 2000000 in
theorem cr_listPo (b br : Nat) (l : List UInt8) (e : Nat) (hl : l.length ≤ 140737488350000) (he : e ≤ 1000) (bx k : Nat) (cs : Array Value) (T : TypeId) (hk : cs[k]? = some (.slice none 0 0)) :
    Ct Try.prog 103 [.pointer (some ⟨b, 0, none⟩), .pointer (some ⟨bx, k, none⟩), .func (.func 104) #[.pointer (some ⟨b, 0, none⟩)] #[]] [(some b, .cells #[.pointer none, .slice none 0 0, .pointer (some ⟨br, 0, none⟩), .bool false] 80 (0, 0))] [(some br, .cells #[.string (bs l), .int .i64 ((e : Nat) : Int)] 169 (0, 0)), (some bx, .cells (cs) T (0, 0))] fun v post => ∃ (s : Ins Po) (l1 : List UInt8) (e1 : Nat) (M : List HBk), InsOk 5 cPo s ∧ s.l.length ≤ 1000 ∧ Rdg (encL encPP) (GL GPP) l e (s.l.map vPo) l1 e1 ∧ (∀ m ∈ s.l, OkPo m) ∧ (∀ z ∈ insK s :: s.l.flatMap kPo, z ∈ M) ∧ v = .tuple #[] ∧ post = (some br, .cells #[.string (bs l1), .int .i64 ((e1 : Nat) : Int)] 169 (0, 0)) :: (some bx, .cells (cs.setIfInBounds k (insV s)) T (0, 0)) :: M := by
 obtain ⟨n, l0, e0, h0⟩ : ∃ a_ l_ e_, rdInt 1000 l e = (a_, l_, e_) := ⟨_, _, _, rfl⟩
 obtain ⟨hn, hl0, he0⟩ := rd_n he h0
 have hks := at_lt hk
 have hcs : cs.setIfInBounds k (slNil.v 0) = cs := set_self hk
 refine Yu Try.func103 rfl rfl (fun w0 => ?_)
 show G _ _ [(0, _), (1, _), (2, _)] _ _
 refine Zh ?_
 refine Zh ?_
 refine Zd (l := [0, 1, 2, 3, 4]) rfl ?_
 refine Za rfl rfl rfl rfl (Zc rfl rfl) ?_
 refine Za rfl rfl rfl rfl (Ze rfl rfl) ?_
 refine Za rfl rfl rfl rfl (Zb (fo := 2) rfl Try.underlying80 rfl i_74 rfl rfl rfl) ?_
 refine Za rfl rfl rfl rfl (Zj rfl rfl (Zf 0 rfl) rfl Try.underlying74 rfl) ?_
 refine Za rfl rfl rfl rfl (V_peqlN rfl Try.underlying74 rfl rfl) ?_
 refine Zg ?_
 refine Xu rfl ?_
 refine Zu ?_
 refine Zh ?_
 refine Xq (.cells #[] 103 (0, 0)) ?_
 refine Zd (l := [0, 1, 2, 3, 4, 5]) rfl ?_
 refine Za rfl rfl rfl rfl (Zc rfl rfl) ?_
 refine Za rfl rfl rfl rfl (Ze rfl rfl) ?_
 refine Za rfl rfl rfl rfl (Zb (fo := 2) rfl Try.underlying80 rfl i_74 rfl rfl rfl) ?_
 refine Za rfl rfl rfl rfl (Zj rfl rfl (Zf 0 rfl) rfl Try.underlying74 rfl) ?_
 refine Zq (L2 := [_, _]) rfl rfl rfl rfl rfl rfl Try.call84 ((rd_int br l e 1000 (by omega) (by omega) (by omega)).weaken (fun v post h => by rewrite [h0] at h; exact h)) [1] [] rfl rfl ?_
 rintro v post ⟨rfl, rfl⟩
 show G _ _ _ [_, _, _] _
 refine Za rfl rfl rfl rfl (Zc rfl rfl) ?_
 refine Zg ?_
 refine Zs ?_
 refine Xj (L1 := [_, _, _]) ?he10 [0, 1, 0] ?hl10 (Xb (X := Nat × Sl × List Po × List UInt8 × Nat × List HBk) (fun x_ => match x_ with | ⟨i, u, ms, l1, e1, M⟩ => i ≤ n ∧ ms.length = i ∧ Own 5 u (ms.flatMap cPo) i ∧ RdgL encPP GPP n l0 e0 i (ms.map vPo) l1 e1 ∧ (∀ m ∈ ms, OkPo m) ∧ ∀ z ∈ ms.flatMap kPo, z ∈ M) (fun x_ => match x_ with | ⟨i, u, ms, l1, e1, M⟩ => n - i) (fun x_ => match x_ with | ⟨i, u, ms, l1, e1, M⟩ => [(0, .pointer (some ⟨b, 0, none⟩)), (1, .pointer (some ⟨bx, k, none⟩)), (2, .func (.func 104) #[.pointer (some ⟨b, 0, none⟩)] #[]), (58, .int .i64 (n : Int)), (59, .int .i64 (i : Int))]) (fun x_ => match x_ with | ⟨i, u, ms, l1, e1, M⟩ => ((some br, .cells #[.string (bs l1), .int .i64 ((e1 : Nat) : Int)] 169 (0, 0)) :: (some bx, .cells (cs.setIfInBounds k (u.v i)) T (0, 0)) :: (u.ob, .cells u.cs 103 u.fz) :: M)) ?round10 (0, slNil, [], l0, e0, []) ?h010)
 case he10 => exact (And.intro rfl (And.intro rfl (And.intro rfl (And.intro rfl (And.intro rfl trivial)))))
 case hl10 => exact ⟨_, _, by show tk _ _ = some ([_, (some bx, .cells (cs.setIfInBounds k (slNil.v 0)) T (0, 0)), _], _); rw [hcs]; rfl, .refl _⟩
 case h010 => exact ⟨Nat.zero_le _, rfl, own_nil 5, .zero he0, by simp, by simp⟩
 case round10 =>
  intro x_ hJ ih
  try dsimp only at hJ ih
  obtain ⟨i, u, ms, l1, e1, M⟩ := x_
  try dsimp only at hJ ih
  obtain ⟨hi, hml, hu, hx, hoks, hM⟩ := hJ
  show G _ _ [(0, .pointer (some ⟨b, 0, none⟩)), (1, .pointer (some ⟨bx, k, none⟩)), (2, .func (.func 104) #[.pointer (some ⟨b, 0, none⟩)] #[]), (58, .int .i64 (n : Int)), (59, .int .i64 (i : Int))] ((some br, .cells #[.string (bs l1), .int .i64 ((e1 : Nat) : Int)] 169 (0, 0)) :: (some bx, .cells (cs.setIfInBounds k (u.v i)) T (0, 0)) :: (u.ob, .cells u.cs 103 u.fz) :: M) _
  have hl1 := hx.len
  have he1 := hx.err
  refine Zh ?_
  refine Zd (l := [0]) rfl ?_
  refine Za rfl rfl rfl rfl (Xn rfl rfl rfl) ?_
  refine Zg ?_
  refine Zh ?_
  refine Yk rfl (fun hc1 => ?_) (fun hc1 => ?_)
  ·
   refine Zu ?_
   refine Zh ?_
   refine Zs ?_
   refine Zh ?_
   refine Zh ?_
   refine Zd (l := [0, 1, 2, 3, 4, 5]) rfl ?_
   refine Za rfl rfl rfl rfl (Zc rfl rfl) ?_
   refine Za rfl rfl rfl rfl (Ze rfl rfl) ?_
   refine Za rfl rfl rfl rfl (Zb (fo := 2) rfl Try.underlying80 rfl i_74 rfl rfl rfl) ?_
   refine Za rfl rfl rfl rfl (Zj rfl rfl (Zf 0 rfl) rfl Try.underlying74 rfl) ?_
   refine Zq (L2 := (_ :: _ :: _ :: _)) rfl rfl rfl rfl rfl rfl Try.call86 (rd_err _ _ _) [] [1] rfl rfl ?_
   rintro v post ⟨rfl, rfl⟩
   show G _ _ _ (_ :: _ :: _ :: _) _
   refine Za rfl rfl rfl rfl (V_neq rfl rfl rfl) ?_
   refine Zg ?_
   refine Yk rfl (fun hc2 => ?_) (fun hc2 => ?_)
   ·
    refine G_retT (p1 := [_, _, _]) (T := _) Try.func103 rfl Zp [0, 0, 0] ⟨_, _, rfl, List.perm_append_comm (l₁ := [])⟩ ?_
    dsimp only [packed]
    first
      | exact ⟨insOf u 103 ms, l1, e1, _, Yh (by rw [hml]; exact hu) (by omega), by show ms.length ≤ _; omega, rdg_Lbad he h0 hx (by omega) _, hoks, sub_hd hM, rfl, by (try simp only [Xd, hml]); first | done | rfl⟩
      | (obtain rfl : i = n := by omega
         exact ⟨insOf u 103 ms, l1, e1, _, Yh (by rw [hml]; exact hu) (by omega), by show ms.length ≤ _; omega, rdg_L he h0 hx, hoks, sub_hd hM, rfl, by (try simp only [Xd, hml]); first | done | rfl⟩)
   refine Zu ?_
   refine Zh ?_
   refine Zd (l := [0]) rfl ?_
   refine Yw rfl rfl rfl rfl (Ym rfl i_103 rfl) (fun b8 => ?_)
   refine Zg ?_
   refine Zh ?_
   refine Zd (l := [0, 1]) rfl ?_
   refine Za rfl rfl rfl rfl (Zc rfl rfl) ?_
   refine G_callB (L2 := (_ :: _ :: _)) rfl rfl rfl rfl rfl rfl Try.call104 rfl (cr_pool b br l1 e1 (by omega) (by omega) _ _) [1, 0] [0] rfl rfl ?_
   rintro v post ⟨m, l2, e2, M0, hmo, hM0, hm, rfl, rfl⟩
   refine G_perm (perm_in [_, _] [_, _] _ _) ?_
   show G _ _ _ (_ :: _ :: _ :: _ :: _) _
   refine Zg ?_
   refine Yf (Lq := [_]) (isq := [1]) (m := 9) Yo rfl rfl ?_
   refine Zi 0 rfl rfl rfl rfl (by kernel_rfl) (fun _ _ => Zc rfl rfl) ?_
   refine Zi 1 rfl rfl rfl rfl (by kernel_rfl) (fun _ _ => Zc rfl rfl) ?_
   refine Zi 2 rfl rfl rfl rfl (by kernel_rfl) (fun _ _ => Ze rfl rfl) ?_
   refine Zi 4 rfl rfl rfl rfl (by kernel_rfl) (fun _ _ => V_loadW (s := 5) rfl rfl (Zf 1 rfl) Try.underlying103 rfl i_103 rfl (by rfl)) ?_
   refine GH_all [3, 5] (by kernel_rfl) (by decide) ?_
   refine (And.intro ?_ (And.intro ?_ trivial))
   ·
    refine Xo rfl rfl rfl rfl (Zj rfl rfl (Zf 3 rfl) (Zt (set_at (u.v i) hks)) Try.underlying27 rfl) ?_
    refine GH_all [5] (by kernel_rfl) (by decide) ?_
    refine (And.intro ?_ trivial)
    ·
     refine Yl rfl rfl rfl rfl (Zn (s := 5) (cs := [_, _, _, _, _]) rfl Try.underlying27 i_103 rfl rfl rfl rfl rfl rfl rfl rfl rfl) [2] (fun _ => ⟨_, rfl⟩) (fun b74 => ?_)
     refine GH_all [6] (by kernel_rfl) (by decide) ?_
     refine (And.intro ?_ trivial)
     ·
      refine Yq (l1 := [_, _, _, _]) (s := u) (nn := i) (m := 1) (news := (cPo m)) (bt := 96) rfl rfl rfl rfl Try.underlying27 Try.underlying27 (by first | exact .inl rfl | exact .inr ⟨_, rfl⟩) i_103 rfl rfl rfl rfl rfl rfl hu rfl (Yg (Zf 1 rfl) rfl rfl (by simp [cPo, Value.oneCell'])) (by omega) (by omega) [2] (fun _ => ⟨_, rfl⟩) ?_
      intro u1 hu1 _
      show GH _ _ _ _ _ _ _ (_ :: _ :: _ :: _ :: _ :: _) _
      refine Zi 7 rfl rfl rfl rfl (by kernel_rfl) (fun _ _ => Ze rfl rfl) ?_
      refine GH_all [8] (by kernel_rfl) (by decide) ?_
      refine (And.intro ?_ trivial)
      ·
       refine Xk (l1 := [_, _, _]) (L' := (_ :: _ :: _ :: _ :: _ :: _)) rfl rfl rfl rfl (Zm rfl rfl rfl (Zf 3 rfl) (by first | exact of_decide_eq_true rfl | omega | (simp [cOp, cWk, cIv, cHr, cLt, cWt, cIt, cFl, cTn, cCl, cPo, cSt, cDt, cDs, Sl.v, zIns, insV]; done) | (simp [cOp, cWk, cIv, cHr, cLt, cWt, cIt, cFl, cTn, cCl, cPo, cSt, cDt, cDs, Sl.v, zIns, insV]; omega) | (simp [cOp, cWk, cIv, cHr, cLt, cWt, cIt, cFl, cTn, cCl, cPo, cSt, cDt, cDs, Sl.v, zIns, insV] at *; omega)) i_27 rfl rfl) rfl [2] rfl ?_
       refine Ya (by kernel_rfl) ?_
       refine Zv ?_
       refine Zd (l := [0, 1]) rfl ?_
       refine Za rfl rfl rfl rfl ((Xe rfl rfl rfl).int (Zw (by omega))) ?_
       refine Za rfl rfl rfl rfl (Zc rfl rfl) ?_
       refine Zg ?_
       rw [set_set]
       refine Xj (L1 := [_, _, _]) ?_ [1, 2, 2] ?bhl10 (ih (i + 1, u1, ms ++ [m], l2, e2, ?M1) ?_ ?_)
       case bhl10 => (dsimp only; refine ⟨(_ :: _ :: _), [], rfl, ?_⟩; exact perm_all _)
       · (refine (And.intro ?_ (And.intro ?_ (And.intro ?_ (And.intro ?_ (And.intro ?_ trivial))))) <;> first | rfl | exact Zl (by omega) | exact Zl (by simp))
       · exact ⟨by omega, by simp [hml], by rw [List.flatMap_append, List.flatMap_singleton]; exact hu1, by rw [List.map_append]; exact hx.next hm (by omega), oks_nx hoks hmo, sub_next hM hM0 (fun z hz => by simp [hz]) (fun z hz => by simp [hz])⟩
       · (first | omega | (dsimp only; omega))
   ·
    refine Yl rfl rfl rfl rfl (Zn (s := 5) (cs := [_, _, _, _, _]) rfl Try.underlying27 i_103 rfl rfl rfl rfl rfl rfl rfl rfl rfl) [2] (fun _ => ⟨_, rfl⟩) (fun b74 => ?_)
    refine GH_all [3] (by kernel_rfl) (by decide) ?_
    refine (And.intro ?_ trivial)
    ·
     refine Xo rfl rfl rfl rfl (Zj rfl rfl (Zf 4 rfl) (Zt (set_at (u.v i) hks)) Try.underlying27 rfl) ?_
     refine GH_all [6] (by kernel_rfl) (by decide) ?_
     refine (And.intro ?_ trivial)
     ·
      refine Yq (l1 := [_, _, _, _]) (s := u) (nn := i) (m := 1) (news := (cPo m)) (bt := 96) rfl rfl rfl rfl Try.underlying27 Try.underlying27 (by first | exact .inl rfl | exact .inr ⟨_, rfl⟩) i_103 rfl rfl rfl rfl rfl rfl hu rfl (Yg (Zf 1 rfl) rfl rfl (by simp [cPo, Value.oneCell'])) (by omega) (by omega) [2] (fun _ => ⟨_, rfl⟩) ?_
      intro u1 hu1 _
      show GH _ _ _ _ _ _ _ (_ :: _ :: _ :: _ :: _ :: _) _
      refine Zi 7 rfl rfl rfl rfl (by kernel_rfl) (fun _ _ => Ze rfl rfl) ?_
      refine GH_all [8] (by kernel_rfl) (by decide) ?_
      refine (And.intro ?_ trivial)
      ·
       refine Xk (l1 := [_, _, _]) (L' := (_ :: _ :: _ :: _ :: _ :: _)) rfl rfl rfl rfl (Zm rfl rfl rfl (Zf 3 rfl) (by first | exact of_decide_eq_true rfl | omega | (simp [cOp, cWk, cIv, cHr, cLt, cWt, cIt, cFl, cTn, cCl, cPo, cSt, cDt, cDs, Sl.v, zIns, insV]; done) | (simp [cOp, cWk, cIv, cHr, cLt, cWt, cIt, cFl, cTn, cCl, cPo, cSt, cDt, cDs, Sl.v, zIns, insV]; omega) | (simp [cOp, cWk, cIv, cHr, cLt, cWt, cIt, cFl, cTn, cCl, cPo, cSt, cDt, cDs, Sl.v, zIns, insV] at *; omega)) i_27 rfl rfl) rfl [2] rfl ?_
       refine Ya (by kernel_rfl) ?_
       refine Zv ?_
       refine Zd (l := [0, 1]) rfl ?_
       refine Za rfl rfl rfl rfl ((Xe rfl rfl rfl).int (Zw (by omega))) ?_
       refine Za rfl rfl rfl rfl (Zc rfl rfl) ?_
       refine Zg ?_
       rw [set_set]
       refine Xj (L1 := [_, _, _]) ?_ [1, 2, 2] ?bhl10 (ih (i + 1, u1, ms ++ [m], l2, e2, ?M2) ?_ ?_)
       case bhl10 => (dsimp only; refine ⟨(_ :: _ :: _), [], rfl, ?_⟩; exact perm_all _)
       · (refine (And.intro ?_ (And.intro ?_ (And.intro ?_ (And.intro ?_ (And.intro ?_ trivial))))) <;> first | rfl | exact Zl (by omega) | exact Zl (by simp))
       · exact ⟨by omega, by simp [hml], by rw [List.flatMap_append, List.flatMap_singleton]; exact hu1, by rw [List.map_append]; exact hx.next hm (by omega), oks_nx hoks hmo, sub_next hM hM0 (fun z hz => by simp [hz]) (fun z hz => by simp [hz])⟩
       · (first | omega | (dsimp only; omega))
  refine Yr rfl ?_
  refine G_endT (p1 := [_, _, _]) (T := _) Try.func103 rfl Zp [0, 0, 0] ⟨_, _, rfl, List.perm_append_comm (l₁ := [])⟩ ?_
  dsimp only [packed]
  first
    | exact ⟨insOf u 103 ms, l1, e1, _, Yh (by rw [hml]; exact hu) (by omega), by show ms.length ≤ _; omega, rdg_Lbad he h0 hx (by omega) _, hoks, sub_hd hM, rfl, by (try simp only [Xd, hml]); first | done | rfl⟩
    | (obtain rfl : i = n := by omega
       exact ⟨insOf u 103 ms, l1, e1, _, Yh (by rw [hml]; exact hu) (by omega), by show ms.length ≤ _; omega, rdg_L he h0 hx, hoks, sub_hd hM, rfl, by (try simp only [Xd, hml]); first | done | rfl⟩)


def zSt : St := (⟨0, false, 0, 0, 0, 0, 0, zIns Op, zIns Op, zIns Wk, zIns Iv, zIns Po, zIns Hr, zIns Lt, zIns Wt⟩ : St)
def zPS : PS := ⟨0, false, 0, 0, 0, 0, 0, [], [], [], [], [], [], [], []⟩
theorem cSt_sz (x : St) : (cSt x).toArray.size = 15 := rfl
structure MkSt (x : St) : Prop where
  li : InsOk 18 cOp x.li
  en : InsOk 18 cOp x.en
  wo : InsOk 7 cWk x.wo
  iv : InsOk 5 cIv x.iv
  po : InsOk 5 cPo x.po
  hi : InsOk 17 cHr x.hi
  le : InsOk 6 cLt x.le
  wa : InsOk 2 cWt x.wa
  po2 : ∀ y ∈ x.po.l, OkPo y
theorem okSt_of {x : St} (h : MkSt x) (g : GPS (vSt x)) : OkSt x :=
  ⟨g.2.1, h.li, g.2.2.1, h.en, g.2.2.2.1, h.wo, g.2.2.2.2.1, h.iv, (fun _ _ => trivial), h.po, h.po2, h.hi, (fun _ _ => trivial), h.le, g.2.2.2.2.2, h.wa, (fun _ _ => trivial)⟩
theorem zSt_ok : MkSt zSt := ⟨zIns_ok _ _, zIns_ok _ _, zIns_ok _ _, zIns_ok _ _, zIns_ok _ _, zIns_ok _ _, zIns_ok _ _, zIns_ok _ _, by intro y hy; cases hy⟩
theorem zSt_k : ∀ z ∈ kSt zSt, z ∈ ([(none, .cells #[] 0 (0, 0))] : List HBk) := by
  intro z hz
  simp [kSt, zSt, insK, zIns] at hz
  simp [hz]
theorem st_sub {x : St} {Mp : List HBk} (hM : ∀ z ∈ insK x.po :: x.po.l.flatMap kPo, z ∈ Mp) : ∀ z ∈ kSt x, z ∈ insK x.li :: insK x.en :: insK x.wo :: insK x.iv :: insK x.hi :: insK x.le :: insK x.wa :: Mp := by
  intro z hz
  unfold kSt at hz
  have h1 := hM z
  simp only [List.mem_cons] at hz h1 ⊢
  grind
/-- What is told of the bytes l: the state p, and 0; or that there is none. -/
def DecP (l : List UInt8) (p : PS) (c : Int) : Prop := (c = 0 ∧ GPS p ∧ encPS p = l ∧ ∀ w, GPS w → encPS w = l → w = p) ∨ (c = 3 ∧ p = zPS ∧ ∀ w, GPS w → encPS w ≠ l)
theorem decP_of {l l1 : List UInt8} {e1 : Nat} {p : PS} (h : Rdg encPS GPS l 0 p l1 e1) : (rdEnd l1 e1 = 0 → DecP l p 0) ∧ (rdEnd l1 e1 ≠ 0 → DecP l zPS 3) := by
  obtain ⟨h1, h2⟩ := h.whole
  refine ⟨fun h0 => .inl ⟨rfl, (h1 h0).1, (h1 h0).2, fun w hw hl => (h2 w hw hl).2.symm⟩, fun h0 => .inr ⟨rfl, rfl, fun w hw hl => h0 (h2 w hw hl).1⟩⟩
theorem decP_same {l : List UInt8} {p q : PS} {c d : Int} (h1 : DecP l p c) (h2 : DecP l q d) : c = d ∧ p = q := by
  rcases h1 with ⟨rfl, a1, a2, a3⟩ | ⟨rfl, rfl, a3⟩ <;> rcases h2 with ⟨rfl, b1, b2, b3⟩ | ⟨rfl, rfl, b3⟩
  · exact ⟨rfl, b3 p a1 a2⟩
  · exact absurd a2 (b3 p a1)
  · exact absurd b2 (a3 q b1)
  · exact ⟨rfl, rfl⟩

set_option maxRecDepth 100000 in
set_option maxHeartbeats 4000000 in
theorem cr_state (b br : Nat) (l : List UInt8) (e : Nat) (hl : l.length ≤ 140737488350000) (he : e ≤ 1000) (bx : Nat) (T : TypeId) :
    Ct Try.prog 34 [.pointer (some ⟨b, 0, none⟩), .pointer (some ⟨bx, 0, none⟩)] [(some b, .cells #[.pointer none, .slice none 0 0, .pointer (some ⟨br, 0, none⟩), .bool false] 80 (0, 0))] [(some br, .cells #[.string (bs l), .int .i64 ((e : Nat) : Int)] 169 (0, 0)), (some bx, .cells ((cSt zSt).toArray) T (0, 0))] fun v post => ∃ (m : St) (l1 : List UInt8) (e1 : Nat) (M : List HBk), MkSt m ∧ (∀ z ∈ kSt m, z ∈ M) ∧ Rdg encPS GPS l e (vSt m) l1 e1 ∧ v = .tuple #[] ∧ post = (some br, .cells #[.string (bs l1), .int .i64 ((e1 : Nat) : Int)] 169 (0, 0)) :: (some bx, .cells ((cSt m).toArray) T (0, 0)) :: M := by
 unfold zSt
 refine Yu Try.func34 rfl rfl (fun w0 => ?_)
 show G _ _ [(0, _), (1, _)] _ _
 refine Zh ?_
 refine Zd (l := [0, 1, 2, 3, 4]) rfl ?_
 refine Za rfl rfl rfl rfl (Zc rfl rfl) ?_
 refine Za rfl rfl rfl rfl (Zc rfl rfl) ?_
 refine Za rfl rfl rfl rfl (Ze rfl rfl) ?_
 refine Za rfl rfl rfl rfl (Zb (fo := 0) rfl Try.underlying32 rfl i_23 rfl rfl rfl) ?_
 refine Zq (L2 := []) rfl rfl rfl rfl rfl rfl Try.call94 (cr_num b br l e (by omega) (by omega) bx 0 (cSt (⟨0, false, 0, 0, 0, 0, 0, zIns Op, zIns Op, zIns Wk, zIns Iv, zIns Po, zIns Hr, zIns Lt, zIns Wt⟩ : St)).toArray T (by rw [cSt_sz]; omega)) [0, 0] [0] rfl rfl ?_
 rintro v post ⟨a0, l1, e1, r0, rfl, rfl⟩
 show G _ _ _ [_, _] _
 rw [show ((cSt (⟨0, false, 0, 0, 0, 0, 0, zIns Op, zIns Op, zIns Wk, zIns Iv, zIns Po, zIns Hr, zIns Lt, zIns Wt⟩ : St)).toArray).setIfInBounds 0 (.int .u64 (a0 : Int)) = (cSt (⟨a0, false, 0, 0, 0, 0, 0, zIns Op, zIns Op, zIns Wk, zIns Iv, zIns Po, zIns Hr, zIns Lt, zIns Wt⟩ : St)).toArray from rfl]
 have hl1_ := r0.len
 have he1_ := r0.err
 refine Zg ?_
 refine Zh ?_
 refine Zd (l := [0, 1, 2, 3, 4]) rfl ?_
 refine Za rfl rfl rfl rfl (Zc rfl rfl) ?_
 refine Za rfl rfl rfl rfl (Zc rfl rfl) ?_
 refine Za rfl rfl rfl rfl (Ze rfl rfl) ?_
 refine Za rfl rfl rfl rfl (Zb (fo := 1) rfl Try.underlying32 rfl i_4 rfl rfl rfl) ?_
 refine Zq (L2 := []) rfl rfl rfl rfl rfl rfl Try.call95 (cr_flag b br l1 e1 (by omega) (by omega) bx 1 (cSt (⟨a0, false, 0, 0, 0, 0, 0, zIns Op, zIns Op, zIns Wk, zIns Iv, zIns Po, zIns Hr, zIns Lt, zIns Wt⟩ : St)).toArray T (by rw [cSt_sz]; omega)) [0, 0] [0] rfl rfl ?_
 rintro v post ⟨a1, l2, e2, r1, rfl, rfl⟩
 show G _ _ _ [_, _] _
 rw [show ((cSt (⟨a0, false, 0, 0, 0, 0, 0, zIns Op, zIns Op, zIns Wk, zIns Iv, zIns Po, zIns Hr, zIns Lt, zIns Wt⟩ : St)).toArray).setIfInBounds 1 (.bool a1) = (cSt (⟨a0, a1, 0, 0, 0, 0, 0, zIns Op, zIns Op, zIns Wk, zIns Iv, zIns Po, zIns Hr, zIns Lt, zIns Wt⟩ : St)).toArray from rfl]
 have hl2_ := r1.len
 have he2_ := r1.err
 refine Zg ?_
 refine Zh ?_
 refine Yf (Lq := []) (isq := []) (m := 18) Yo rfl rfl ?_
 refine Zi 0 rfl rfl rfl rfl (by kernel_rfl) (fun _ _ => Zc rfl rfl) ?_
 refine Zi 1 rfl rfl rfl rfl (by kernel_rfl) (fun _ _ => Zc rfl rfl) ?_
 refine Zi 2 rfl rfl rfl rfl (by kernel_rfl) (fun _ _ => Ze rfl rfl) ?_
 refine Zi 3 rfl rfl rfl rfl (by kernel_rfl) (fun _ _ => Zb (fo := 2) rfl Try.underlying32 rfl i_3 rfl rfl rfl) ?_
 refine Zi 4 rfl rfl rfl rfl (by kernel_rfl) (fun _ _ => Zc rfl rfl) ?_
 refine Zi 5 rfl rfl rfl rfl (by kernel_rfl) (fun _ _ => Ze rfl rfl) ?_
 refine Zi 6 rfl rfl rfl rfl (by kernel_rfl) (fun _ _ => Zb (fo := 3) rfl Try.underlying32 rfl i_3 rfl rfl rfl) ?_
 refine Zi 7 rfl rfl rfl rfl (by kernel_rfl) (fun _ _ => Zc rfl rfl) ?_
 refine Zi 8 rfl rfl rfl rfl (by kernel_rfl) (fun _ _ => Ze rfl rfl) ?_
 refine Zi 9 rfl rfl rfl rfl (by kernel_rfl) (fun _ _ => Zb (fo := 4) rfl Try.underlying32 rfl i_3 rfl rfl rfl) ?_
 refine Zi 10 rfl rfl rfl rfl (by kernel_rfl) (fun _ _ => Zc rfl rfl) ?_
 refine Zi 11 rfl rfl rfl rfl (by kernel_rfl) (fun _ _ => Ze rfl rfl) ?_
 refine Zi 12 rfl rfl rfl rfl (by kernel_rfl) (fun _ _ => Zb (fo := 5) rfl Try.underlying32 rfl i_3 rfl rfl rfl) ?_
 refine Zi 13 rfl rfl rfl rfl (by kernel_rfl) (fun _ _ => Zc rfl rfl) ?_
 refine Zi 14 rfl rfl rfl rfl (by kernel_rfl) (fun _ _ => Ze rfl rfl) ?_
 refine Zi 15 rfl rfl rfl rfl (by kernel_rfl) (fun _ _ => Zb (fo := 6) rfl Try.underlying32 rfl i_3 rfl rfl rfl) ?_
 refine GH_all [16] (by kernel_rfl) (by decide) ?_
 refine (And.intro ?_ trivial)
 ·
  refine Yl rfl rfl rfl rfl (Zn (s := 1) (cs := [_, _, _, _, _]) rfl Try.underlying241 i_176 rfl rfl rfl rfl rfl rfl rfl rfl rfl) [] (fun _ => ⟨_, rfl⟩) (fun b30 => ?_)
  refine GH_all [17] (by kernel_rfl) (by decide) ?_
  refine (And.intro ?_ trivial)
  ·
   refine Ye (L2 := [_]) rfl rfl rfl rfl rfl rfl Try.call96 (cr_intsL b br l2 e2 (by omega) (by omega) _ _ bx (cSt (⟨a0, a1, 0, 0, 0, 0, 0, zIns Op, zIns Op, zIns Wk, zIns Iv, zIns Po, zIns Hr, zIns Lt, zIns Wt⟩ : St)).toArray T [2, 3, 4, 5, 6] (by simp) (by intro y hy; simp only [cSt_sz]; simp only [List.mem_cons, List.not_mem_nil, or_false] at hy; omega)) [1, 1] [1, 0] rfl rfl [] (by rintro v post ⟨xs2, l3, e3, hxs, r2, rfl, rfl⟩; exact ⟨_, rfl⟩) ?_
   rintro v post ⟨xs2, l3, e3, hxs, r2, rfl, rfl⟩
   show GH _ _ _ _ _ _ _ [_, _, _] _
   obtain ⟨a2, a3, a4, a5, a6, rfl⟩ := len_5 hxs
   rw [show putAll (fun z : Int => Value.int .i64 z) (cSt (⟨a0, a1, 0, 0, 0, 0, 0, zIns Op, zIns Op, zIns Wk, zIns Iv, zIns Po, zIns Hr, zIns Lt, zIns Wt⟩ : St)).toArray [2, 3, 4, 5, 6] [a2, a3, a4, a5, a6] = (cSt (⟨a0, a1, a2, a3, a4, a5, a6, zIns Op, zIns Op, zIns Wk, zIns Iv, zIns Po, zIns Hr, zIns Lt, zIns Wt⟩ : St)).toArray by unfold cSt; simp only [putAll_cons, putAll_nil, List.set_cons_succ, List.set_cons_zero]]
   have hl3_ := r2.len
   have he3_ := r2.err
   refine Ya (by kernel_rfl) ?_
   refine Zh ?_
   refine Zd (l := [0, 1, 2, 3, 4, 5, 6]) rfl ?_
   refine Za rfl rfl rfl rfl (Zc rfl rfl) ?_
   refine Za rfl rfl rfl rfl (Zc rfl rfl) ?_
   refine Za rfl rfl rfl rfl (Ze rfl rfl) ?_
   refine Za rfl rfl rfl rfl (Zb (fo := 7) rfl Try.underlying32 rfl i_24 rfl rfl rfl) ?_
   refine Za rfl rfl rfl rfl (Zc rfl rfl) ?_
   refine Za rfl rfl rfl rfl (V_func rfl rfl rfl) ?_
   refine Zq (L2 := [_]) rfl rfl rfl rfl rfl rfl Try.call97 (cr_listOp b br l3 e3 (by omega) (by omega) bx 7 (cSt (⟨a0, a1, a2, a3, a4, a5, a6, zIns Op, zIns Op, zIns Wk, zIns Iv, zIns Po, zIns Hr, zIns Lt, zIns Wt⟩ : St)).toArray T rfl) [0, 0] [0] rfl rfl ?_
   rintro v post ⟨sli, l4, e4, hsli, hlli, r3, rfl, rfl⟩
   show G _ _ _ [_, _, _, _] _
   rw [show ((cSt (⟨a0, a1, a2, a3, a4, a5, a6, zIns Op, zIns Op, zIns Wk, zIns Iv, zIns Po, zIns Hr, zIns Lt, zIns Wt⟩ : St)).toArray).setIfInBounds 7 (insV sli) = (cSt (⟨a0, a1, a2, a3, a4, a5, a6, sli, zIns Op, zIns Wk, zIns Iv, zIns Po, zIns Hr, zIns Lt, zIns Wt⟩ : St)).toArray from rfl]
   have hl4_ := r3.len
   have he4_ := r3.err
   refine Zg ?_
   refine Zh ?_
   refine Zd (l := [0, 1, 2, 3, 4, 5, 6]) rfl ?_
   refine Za rfl rfl rfl rfl (Zc rfl rfl) ?_
   refine Za rfl rfl rfl rfl (Zc rfl rfl) ?_
   refine Za rfl rfl rfl rfl (Ze rfl rfl) ?_
   refine Za rfl rfl rfl rfl (Zb (fo := 8) rfl Try.underlying32 rfl i_24 rfl rfl rfl) ?_
   refine Za rfl rfl rfl rfl (Zc rfl rfl) ?_
   refine Za rfl rfl rfl rfl (V_func rfl rfl rfl) ?_
   refine Zq (L2 := [_, _]) rfl rfl rfl rfl rfl rfl Try.call97 (cr_listOp b br l4 e4 (by omega) (by omega) bx 8 (cSt (⟨a0, a1, a2, a3, a4, a5, a6, sli, zIns Op, zIns Wk, zIns Iv, zIns Po, zIns Hr, zIns Lt, zIns Wt⟩ : St)).toArray T rfl) [0, 0] [0] rfl rfl ?_
   rintro v post ⟨sen, l5, e5, hsen, hlen, r4, rfl, rfl⟩
   show G _ _ _ [_, _, _, _, _] _
   rw [show ((cSt (⟨a0, a1, a2, a3, a4, a5, a6, sli, zIns Op, zIns Wk, zIns Iv, zIns Po, zIns Hr, zIns Lt, zIns Wt⟩ : St)).toArray).setIfInBounds 8 (insV sen) = (cSt (⟨a0, a1, a2, a3, a4, a5, a6, sli, sen, zIns Wk, zIns Iv, zIns Po, zIns Hr, zIns Lt, zIns Wt⟩ : St)).toArray from rfl]
   have hl5_ := r4.len
   have he5_ := r4.err
   refine Zg ?_
   refine Zh ?_
   refine Zd (l := [0, 1, 2, 3, 4, 5, 6]) rfl ?_
   refine Za rfl rfl rfl rfl (Zc rfl rfl) ?_
   refine Za rfl rfl rfl rfl (Zc rfl rfl) ?_
   refine Za rfl rfl rfl rfl (Ze rfl rfl) ?_
   refine Za rfl rfl rfl rfl (Zb (fo := 9) rfl Try.underlying32 rfl i_25 rfl rfl rfl) ?_
   refine Za rfl rfl rfl rfl (Zc rfl rfl) ?_
   refine Za rfl rfl rfl rfl (V_func rfl rfl rfl) ?_
   refine Zq (L2 := [_, _, _]) rfl rfl rfl rfl rfl rfl Try.call99 (cr_listWk b br l5 e5 (by omega) (by omega) bx 9 (cSt (⟨a0, a1, a2, a3, a4, a5, a6, sli, sen, zIns Wk, zIns Iv, zIns Po, zIns Hr, zIns Lt, zIns Wt⟩ : St)).toArray T rfl) [0, 0] [0] rfl rfl ?_
   rintro v post ⟨swo, l6, e6, hswo, hlwo, r5, rfl, rfl⟩
   show G _ _ _ [_, _, _, _, _, _] _
   rw [show ((cSt (⟨a0, a1, a2, a3, a4, a5, a6, sli, sen, zIns Wk, zIns Iv, zIns Po, zIns Hr, zIns Lt, zIns Wt⟩ : St)).toArray).setIfInBounds 9 (insV swo) = (cSt (⟨a0, a1, a2, a3, a4, a5, a6, sli, sen, swo, zIns Iv, zIns Po, zIns Hr, zIns Lt, zIns Wt⟩ : St)).toArray from rfl]
   have hl6_ := r5.len
   have he6_ := r5.err
   refine Zg ?_
   refine Zh ?_
   refine Zd (l := [0, 1, 2, 3, 4, 5, 6]) rfl ?_
   refine Za rfl rfl rfl rfl (Zc rfl rfl) ?_
   refine Za rfl rfl rfl rfl (Zc rfl rfl) ?_
   refine Za rfl rfl rfl rfl (Ze rfl rfl) ?_
   refine Za rfl rfl rfl rfl (Zb (fo := 10) rfl Try.underlying32 rfl i_26 rfl rfl rfl) ?_
   refine Za rfl rfl rfl rfl (Zc rfl rfl) ?_
   refine Za rfl rfl rfl rfl (V_func rfl rfl rfl) ?_
   refine Zq (L2 := [_, _, _, _]) rfl rfl rfl rfl rfl rfl Try.call101 (cr_listIv b br l6 e6 (by omega) (by omega) bx 10 (cSt (⟨a0, a1, a2, a3, a4, a5, a6, sli, sen, swo, zIns Iv, zIns Po, zIns Hr, zIns Lt, zIns Wt⟩ : St)).toArray T rfl) [0, 0] [0] rfl rfl ?_
   rintro v post ⟨siv, l7, e7, hsiv, hliv, r6, rfl, rfl⟩
   show G _ _ _ [_, _, _, _, _, _, _] _
   rw [show ((cSt (⟨a0, a1, a2, a3, a4, a5, a6, sli, sen, swo, zIns Iv, zIns Po, zIns Hr, zIns Lt, zIns Wt⟩ : St)).toArray).setIfInBounds 10 (insV siv) = (cSt (⟨a0, a1, a2, a3, a4, a5, a6, sli, sen, swo, siv, zIns Po, zIns Hr, zIns Lt, zIns Wt⟩ : St)).toArray from rfl]
   have hl7_ := r6.len
   have he7_ := r6.err
   refine Zg ?_
   refine Zh ?_
   refine Zd (l := [0, 1, 2, 3, 4, 5, 6]) rfl ?_
   refine Za rfl rfl rfl rfl (Zc rfl rfl) ?_
   refine Za rfl rfl rfl rfl (Zc rfl rfl) ?_
   refine Za rfl rfl rfl rfl (Ze rfl rfl) ?_
   refine Za rfl rfl rfl rfl (Zb (fo := 11) rfl Try.underlying32 rfl i_27 rfl rfl rfl) ?_
   refine Za rfl rfl rfl rfl (Zc rfl rfl) ?_
   refine Za rfl rfl rfl rfl (V_func rfl rfl rfl) ?_
   refine Zq (L2 := [_, _, _, _, _]) rfl rfl rfl rfl rfl rfl Try.call103 (cr_listPo b br l7 e7 (by omega) (by omega) bx 11 (cSt (⟨a0, a1, a2, a3, a4, a5, a6, sli, sen, swo, siv, zIns Po, zIns Hr, zIns Lt, zIns Wt⟩ : St)).toArray T rfl) [0, 0] [0] rfl rfl ?_
   rintro v post ⟨spo, l8, e8, Mp, hspo, hlpo, r7, hoks, hM, rfl, rfl⟩
   refine G_perm (perm_in0 [_, _] [_, _, _, _, _] _) ?_
   show G _ _ _ (_ :: _ :: _ :: _ :: _ :: _ :: _ :: _) _
   rw [show ((cSt (⟨a0, a1, a2, a3, a4, a5, a6, sli, sen, swo, siv, zIns Po, zIns Hr, zIns Lt, zIns Wt⟩ : St)).toArray).setIfInBounds 11 (insV spo) = (cSt (⟨a0, a1, a2, a3, a4, a5, a6, sli, sen, swo, siv, spo, zIns Hr, zIns Lt, zIns Wt⟩ : St)).toArray from rfl]
   have hl8_ := r7.len
   have he8_ := r7.err
   refine Zg ?_
   refine Zh ?_
   refine Zd (l := [0, 1, 2, 3, 4, 5, 6]) rfl ?_
   refine Za rfl rfl rfl rfl (Zc rfl rfl) ?_
   refine Za rfl rfl rfl rfl (Zc rfl rfl) ?_
   refine Za rfl rfl rfl rfl (Ze rfl rfl) ?_
   refine Za rfl rfl rfl rfl (Zb (fo := 12) rfl Try.underlying32 rfl i_28 rfl rfl rfl) ?_
   refine Za rfl rfl rfl rfl (Zc rfl rfl) ?_
   refine Za rfl rfl rfl rfl (V_func rfl rfl rfl) ?_
   refine Zq (L2 := (_ :: _ :: _ :: _ :: _ :: _)) rfl rfl rfl rfl rfl rfl Try.call105 (cr_listHr b br l8 e8 (by omega) (by omega) bx 12 (cSt (⟨a0, a1, a2, a3, a4, a5, a6, sli, sen, swo, siv, spo, zIns Hr, zIns Lt, zIns Wt⟩ : St)).toArray T rfl) [0, 0] [0] rfl rfl ?_
   rintro v post ⟨shi, l9, e9, hshi, hlhi, r8, rfl, rfl⟩
   show G _ _ _ (_ :: _ :: _ :: _ :: _ :: _ :: _ :: _ :: _) _
   rw [show ((cSt (⟨a0, a1, a2, a3, a4, a5, a6, sli, sen, swo, siv, spo, zIns Hr, zIns Lt, zIns Wt⟩ : St)).toArray).setIfInBounds 12 (insV shi) = (cSt (⟨a0, a1, a2, a3, a4, a5, a6, sli, sen, swo, siv, spo, shi, zIns Lt, zIns Wt⟩ : St)).toArray from rfl]
   have hl9_ := r8.len
   have he9_ := r8.err
   refine Zg ?_
   refine Zh ?_
   refine Zd (l := [0, 1, 2, 3, 4, 5, 6]) rfl ?_
   refine Za rfl rfl rfl rfl (Zc rfl rfl) ?_
   refine Za rfl rfl rfl rfl (Zc rfl rfl) ?_
   refine Za rfl rfl rfl rfl (Ze rfl rfl) ?_
   refine Za rfl rfl rfl rfl (Zb (fo := 13) rfl Try.underlying32 rfl i_29 rfl rfl rfl) ?_
   refine Za rfl rfl rfl rfl (Zc rfl rfl) ?_
   refine Za rfl rfl rfl rfl (V_func rfl rfl rfl) ?_
   refine Zq (L2 := (_ :: _ :: _ :: _ :: _ :: _ :: _)) rfl rfl rfl rfl rfl rfl Try.call107 (cr_listLt b br l9 e9 (by omega) (by omega) bx 13 (cSt (⟨a0, a1, a2, a3, a4, a5, a6, sli, sen, swo, siv, spo, shi, zIns Lt, zIns Wt⟩ : St)).toArray T rfl) [0, 0] [0] rfl rfl ?_
   rintro v post ⟨sle, l10, e10, hsle, hlle, r9, rfl, rfl⟩
   show G _ _ _ (_ :: _ :: _ :: _ :: _ :: _ :: _ :: _ :: _ :: _) _
   rw [show ((cSt (⟨a0, a1, a2, a3, a4, a5, a6, sli, sen, swo, siv, spo, shi, zIns Lt, zIns Wt⟩ : St)).toArray).setIfInBounds 13 (insV sle) = (cSt (⟨a0, a1, a2, a3, a4, a5, a6, sli, sen, swo, siv, spo, shi, sle, zIns Wt⟩ : St)).toArray from rfl]
   have hl10_ := r9.len
   have he10_ := r9.err
   refine Zg ?_
   refine Zd (l := [0, 1, 2, 3, 4, 5, 6]) rfl ?_
   refine Za rfl rfl rfl rfl (Zc rfl rfl) ?_
   refine Za rfl rfl rfl rfl (Zc rfl rfl) ?_
   refine Za rfl rfl rfl rfl (Ze rfl rfl) ?_
   refine Za rfl rfl rfl rfl (Zb (fo := 14) rfl Try.underlying32 rfl i_30 rfl rfl rfl) ?_
   refine Za rfl rfl rfl rfl (Zc rfl rfl) ?_
   refine Za rfl rfl rfl rfl (V_func rfl rfl rfl) ?_
   refine Zq (L2 := (_ :: _ :: _ :: _ :: _ :: _ :: _ :: _)) rfl rfl rfl rfl rfl rfl Try.call109 (cr_listWt b br l10 e10 (by omega) (by omega) bx 14 (cSt (⟨a0, a1, a2, a3, a4, a5, a6, sli, sen, swo, siv, spo, shi, sle, zIns Wt⟩ : St)).toArray T rfl) [0, 0] [0] rfl rfl ?_
   rintro v post ⟨swa, l11, e11, hswa, hlwa, r10, rfl, rfl⟩
   show G _ _ _ (_ :: _ :: _ :: _ :: _ :: _ :: _ :: _ :: _ :: _ :: _) _
   rw [show ((cSt (⟨a0, a1, a2, a3, a4, a5, a6, sli, sen, swo, siv, spo, shi, sle, zIns Wt⟩ : St)).toArray).setIfInBounds 14 (insV swa) = (cSt (⟨a0, a1, a2, a3, a4, a5, a6, sli, sen, swo, siv, spo, shi, sle, swa⟩ : St)).toArray from rfl]
   have hl11_ := r10.len
   have he11_ := r10.err
   refine Zg ?_
   refine G_endT (p1 := [_, _, _, _, _, _, _, _, _]) (T := _) Try.func34 rfl Zp [0, 0, 6, 5, 4, 3, 2, 1, 0] ⟨_, _, rfl, List.perm_append_comm (l₁ := [_])⟩ ?_
   dsimp only [packed]
   exact ⟨(⟨a0, a1, a2, a3, a4, a5, a6, sli, sen, swo, siv, spo, shi, sle, swa⟩ : St), l11, e11, _, ⟨hsli, hsen, hswo, hsiv, hspo, hshi, hsle, hswa, hoks⟩, st_sub hM, rdgPS r0 r1 r2 r3 r4 r5 r6 r7 r8 r9 r10, rfl, rfl⟩

set_option maxRecDepth 100000 in
set_option maxHeartbeats 4000000 in
theorem du_decode (l : List UInt8) (hl : l.length ≤ 140737488350000) :
    Ct Try.prog 9 [.string (bs l)] [] [] fun v post => ∃ (x : St) (c : Int) (M : List HBk), MkSt x ∧ (∀ z ∈ kSt x, z ∈ M) ∧ DecP l (vSt x) c ∧ v = .tuple #[.agg (cSt x).toArray, .int .i64 c] ∧ post = M := by
 refine Yu Try.func9 rfl rfl (fun w0 => ?_)
 show G _ _ [(0, _)] _ _
 refine Zh ?_
 refine Zd (l := [0, 1]) rfl ?_
 refine Yw rfl rfl rfl rfl (Ym rfl i_32 rfl) (fun b2 => ?_)
 refine Za rfl rfl rfl rfl (Zk rfl rfl) ?_
 refine Zg ?_
 refine Zh ?_
 refine Zd (l := [0, 1, 2, 3, 4]) rfl ?_
 refine Za rfl rfl rfl rfl (Zc rfl rfl) ?_
 refine Zq (L2 := [_]) rfl rfl rfl rfl rfl rfl Try.call33 (rd_new _) [] [] rfl rfl ?_
 rintro v post ⟨br, rfl, rfl⟩
 show G _ _ _ [_, _] _
 refine Za rfl rfl rfl rfl (Xw (cs := [_, _, _, _]) rfl Try.underlying80 i_80 rfl p_80 rfl rfl rfl) ?_
 refine Yw rfl rfl rfl rfl (Ym rfl i_80 rfl) (fun b4 => ?_)
 refine Yj (l1 := []) (L' := [_, _, _]) rfl rfl rfl rfl (Yv (s := 4) rfl rfl rfl (Zf 0 rfl) (by rfl) i_80 rfl (by rfl) (by simp [Value.oneCell', cOp, cWk, cIv, cHr, cLt, cWt, cIt, cFl, cTn, cCl, cPo, cSt, cDt, cDs, Sl.v, zIns, insV])) rfl ?_
 refine Zg ?_
 refine Zh ?_
 refine Zd (l := [0]) rfl ?_
 refine Yw rfl rfl rfl rfl (Ym rfl i_32 rfl) (fun b5 => ?_)
 refine Zg ?_
 refine Zh ?_
 refine Zd (l := [0]) rfl ?_
 refine Zq (L2 := [_, _]) rfl rfl rfl rfl rfl rfl Try.call34 (cr_state b4 br l 0 hl (by omega) b5 _) [2, 0] [0] rfl rfl ?_
 rintro v post ⟨x, l1, e1, M, hx, hM, hr, rfl, rfl⟩
 refine G_perm (perm_in0 [_, _] [_, _] _) ?_
 show G _ _ _ (_ :: _ :: _ :: _ :: _) _
 obtain ⟨hd0, hd1⟩ := decP_of hr
 refine Zg ?_
 refine Zh ?_
 refine Zh ?_
 refine Zd (l := [0, 1, 2, 3]) rfl ?_
 refine Za rfl rfl rfl rfl (Zb (fo := 2) rfl Try.underlying80 rfl i_74 rfl rfl rfl) ?_
 refine Za rfl rfl rfl rfl (Zj rfl rfl (Zf 2 rfl) rfl Try.underlying74 rfl) ?_
 refine Zq (L2 := (_ :: _ :: _ :: _ :: _)) rfl rfl rfl rfl rfl rfl Try.call35 (rd_end _ _ _) [] [0] rfl rfl ?_
 rintro v post ⟨rfl, rfl⟩
 show G _ _ _ (_ :: _ :: _ :: _ :: _) _
 refine Za rfl rfl rfl rfl (V_neq rfl rfl rfl) ?_
 refine Zg ?_
 refine Yk rfl (fun hc1 => ?_) (fun hc1 => ?_)
 ·
  refine Zh ?_
  refine Xq (.cells #[] 0 (0, 0)) ?_
  refine Zd (l := [0, 1, 2]) rfl ?_
  refine Za rfl rfl rfl rfl (Xw (cs := [_, _, _, _, _, _, _, _, _, _, _, _, _, _, _]) rfl Try.underlying32 i_32 rfl p_32 rfl rfl rfl) ?_
  refine Yj (l1 := [_, _, _, _]) (L' := (_ :: _ :: _ :: _ :: _ :: _)) rfl rfl rfl rfl (Yv (s := 15) rfl rfl rfl (Zf 4 rfl) (by rfl) i_32 rfl (by rfl) (by simp [Value.oneCell', cOp, cWk, cIv, cHr, cLt, cWt, cIt, cFl, cTn, cCl, cPo, cSt, cDt, cDs, Sl.v, zIns, insV])) rfl ?_
  refine Za rfl rfl rfl rfl (Zk rfl rfl) ?_
  refine Zg ?_
  refine G_retT (p1 := [_]) (T := []) Try.func9 rfl (Zy (RV_cell (s := 15) rfl (Zf 4 rfl) Try.underlying32 rfl i_32 rfl (by rfl)) (Zy (Yt rfl) Zp)) [0] ⟨_, _, rfl, .refl _⟩ ?_
  dsimp only [packed]
  first
    | exact ⟨zSt, 3, _, zSt_ok, zSt_k, hd1 (by omega), rfl, rfl⟩
    | exact ⟨x, 0, _, hx, hM, hd0 (by omega), rfl, rfl⟩
 refine Zu ?_
 refine Zh ?_
 refine Zd (l := [0, 1, 2]) rfl ?_
 refine Za rfl rfl rfl rfl (V_loadW (s := 15) rfl rfl (Zf 1 rfl) Try.underlying32 rfl i_32 rfl (by rfl)) ?_
 refine Yj (l1 := [_, _, _]) (L' := (_ :: _ :: _ :: _ :: _)) rfl rfl rfl rfl (Yv (s := 15) rfl rfl rfl (Zf 3 rfl) (by rfl) i_32 rfl (by rfl) (by simp [Value.oneCell', cOp, cWk, cIv, cHr, cLt, cWt, cIt, cFl, cTn, cCl, cPo, cSt, cDt, cDs, Sl.v, zIns, insV])) rfl ?_
 refine Za rfl rfl rfl rfl (Zk rfl rfl) ?_
 refine Zg ?_
 refine G_retT (p1 := []) (T := _) Try.func9 rfl (Zy (RV_cell (s := 15) rfl (Zf 3 rfl) Try.underlying32 rfl i_32 rfl (by rfl)) (Zy (Yt rfl) Zp)) [] ⟨_, _, rfl, List.perm_append_comm (l₁ := [_, _, _, _])⟩ ?_
 dsimp only [packed]
 first
   | exact ⟨zSt, 3, _, zSt_ok, zSt_k, hd1 (by omega), rfl, rfl⟩
   | exact ⟨x, 0, _, hx, hM, hd0 (by omega), rfl, rfl⟩

end
end Go.Proofs.Ytjnaeoelnmhjfaa

set_option linter.unusedSimpArgs false
set_option linter.unusedVariables false
namespace Go.Proofs.Ytjnaeoelnmhjfaa
open Go Go.RowKit

section
def nSt : St := (⟨0, false, 0, 1, 0, 0, 0, zIns Op, zIns Op, zIns Wk, zIns Iv, zIns Po, zIns Hr, zIns Lt, zIns Wt⟩ : St)
theorem nSt_ok : MkSt nSt := ⟨zIns_ok _ _, zIns_ok _ _, zIns_ok _ _, zIns_ok _ _, zIns_ok _ _, zIns_ok _ _, zIns_ok _ _, zIns_ok _ _, by intro y hy; cases hy⟩
theorem nSt_k : ∀ z ∈ kSt nSt, z ∈ ([(none, .cells #[] 0 (0, 0))] : List HBk) := by
  intro z hz
  simp [kSt, nSt, insK, zIns] at hz
  simp [hz]
theorem zPS_good : GPS zPS := ⟨by rfl, by simp [OkPS, zPS]⟩
theorem nSt_good : GPS (vSt nSt) := ⟨by rfl, by simp [OkPS, vSt, nSt, zIns]⟩
theorem c0 : chainI 0 = [0] := chain_small 0 (by omega)
theorem c1 : chainI 1 = [1] := chain_small 1 (by omega)
theorem e0 : encI 0 = [0] := by rw [encI_of (by omega) (by omega)]; exact c0
theorem e1 : encI 1 = [1] := by rw [encI_of (by omega) (by omega)]; exact c1
theorem eL {α : Type} (f : α → List UInt8) : encL f [] = [0] := by unfold encL; exact (by rw [show (([] : List α).length : Int) = 0 from rfl, c0]; rfl)
theorem enc_zPS : (encPS zPS).length = 15 := by
  simp [encPS, zPS, encU, encB, encIs, c0, e0, eL]
theorem enc_nSt : encPS (vSt nSt) = [0, 0, 0, 1, 0, 0, 0, 0, 0, 0, 0, 0, 0, 0, 0] := by
  simp [encPS, vSt, nSt, zIns, encU, encB, encIs, c0, e0, e1, eL]
theorem dec_good {l : List UInt8} {p : PS} {c : Int} (h : DecP l p c) : GPS p := by
  rcases h with ⟨_, h, _⟩ | ⟨_, rfl, _⟩
  · exact h
  · exact zPS_good
theorem dec_len {l : List UInt8} {p : PS} {c : Int} (h : DecP l p c) : (encPS p).length ≤ l.length + 15 := by
  rcases h with ⟨_, _, rfl, _⟩ | ⟨_, rfl, _⟩
  · omega
  · rw [enc_zPS]; omega
theorem even_of {x : St} (h : GPS (vSt x)) : ∀ p ∈ x.po.l, EvenPo p := fun p hp => by
  have h1 := (gPS_iff.1 h).2.2.2.2.2.2.1.2 (vPo p) (List.mem_map.2 ⟨p, hp, rfl⟩)
  exact of_decide_eq_true h1.2
theorem enc_ok {x : St} (h : GPS (vSt x)) : dumpE x = .tuple #[.string (bs (encPS (vSt x))), .int .i64 0] := by rw [dumpE_v, dumpP_ok h.1]
theorem du_enc (x : St) (hx : MkSt x) (hg : GPS (vSt x)) (hl : (encPS (vSt x)).length ≤ 140737488350000) : Ct Try.prog 14 [.agg (cSt x).toArray] (kSt x) [] (fun v post => v = .tuple #[.string (bs (encPS (vSt x))), .int .i64 0] ∧ post = []) :=
  (du_encode x (okSt_of hx hg) (by rw [encSt_v]; exact hl)).weaken (fun v post h => by rw [enc_ok hg] at h; exact h)

set_option maxRecDepth 100000 in
set_option maxHeartbeats 1000000 in
theorem dl_num (n : Int) :
    Ct Try.prog 12 [.int .i64 n] [] [] fun v post => v = .int .i64 n ∧ post = [] := by
 refine Yu Try.func12 rfl rfl (fun w0 => ?_)
 show G _ _ [(0, _)] _ _
 refine Zh ?_
 refine Zd (l := [0]) rfl ?_
 refine Za rfl rfl rfl rfl (Zk rfl rfl) ?_
 refine Zg ?_
 refine Zh ?_
 refine Zd (l := [0, 1]) rfl ?_
 refine Za rfl rfl rfl rfl (Zc rfl rfl) ?_
 refine Za rfl rfl rfl rfl (Zk rfl rfl) ?_
 refine Zg ?_
 refine Yy (post := []) Try.func12 rfl (Zy (Yt rfl) Zp) [] rfl ?_
 dsimp only [packed]
 exact ⟨rfl, rfl⟩

set_option maxRecDepth 100000 in
set_option maxHeartbeats 1000000 in
theorem st_new  :
    Ct Try.prog 32 [] [] [] fun v post => v = .agg (cSt nSt).toArray ∧ post = [] := by
 refine Yu Try.func32 rfl rfl (fun w0 => ?_)
 show G _ _ [] _ _
 refine Zh ?_
 refine Zd (l := [0]) rfl ?_
 refine Yw rfl rfl rfl rfl (Ym rfl i_32 rfl) (fun b0 => ?_)
 refine Zg ?_
 refine Zh ?_
 refine Zd (l := [0, 1]) rfl ?_
 refine Za rfl rfl rfl rfl (Xw (cs := [_, _, _, _, _, _, _, _, _, _, _, _, _, _, _]) rfl Try.underlying32 i_32 rfl p_32 rfl rfl rfl) ?_
 refine Yj (l1 := []) (L' := [_]) rfl rfl rfl rfl (Yv (s := 15) rfl rfl rfl (Zf 0 rfl) (by rfl) i_32 rfl (by rfl) (by simp [Value.oneCell', cOp, cWk, cIv, cHr, cLt, cWt, cIt, cFl, cTn, cCl, cPo, cSt, cDt, cDs, Sl.v, zIns, insV])) rfl ?_
 refine Zg ?_
 refine Yy (post := []) Try.func32 rfl (Zy (RV_cell (s := 15) rfl (Zf 0 rfl) Try.underlying32 rfl i_32 rfl (by rfl)) Zp) [] rfl ?_
 dsimp only [packed]
 exact ⟨rfl, rfl⟩

set_option maxRecDepth 100000 in
set_option maxHeartbeats 1000000 in
theorem dl_live  :
    Ct Try.prog 8 [] [] [] fun v post => v = .bool true ∧ post = [] := by
 refine Yu Try.func8 rfl rfl (fun w0 => ?_)
 show G _ _ [] _ _
 refine Zh ?_
 refine Zd (l := [0]) rfl ?_
 refine Za rfl rfl rfl rfl (Zk rfl rfl) ?_
 refine Zg ?_
 refine Zh ?_
 refine Xq (.cells #[] 0 (0, 0)) ?_
 refine Zd (l := [0, 1, 2, 3, 4, 5, 6]) rfl ?_
 refine Zq (L2 := [_]) rfl rfl rfl rfl rfl rfl Try.call32 (st_new) [] [] rfl rfl ?_
 rintro v post ⟨rfl, rfl⟩
 show G _ _ _ [_] _
 refine Xx (L2 := [_]) rfl rfl rfl rfl rfl rfl Try.call14 ((du_enc nSt nSt_ok nSt_good (by rw [enc_nSt]; decide)).weaken (fun v post h => by rewrite [enc_nSt] at h; exact h)) [] rfl (fun z hz => List.mem_append_right _ (nSt_k z hz)) ?_
 rintro v post ⟨rfl, rfl⟩
 show G _ _ _ [_] _
 refine Za rfl rfl rfl rfl (Zc rfl rfl) ?_
 refine Za rfl rfl rfl rfl (Yd rfl rfl rfl) ?_
 refine Za rfl rfl rfl rfl (Yd rfl rfl rfl) ?_
 refine Za rfl rfl rfl rfl (Zk rfl rfl) ?_
 refine Za rfl rfl rfl rfl (Zk rfl rfl) ?_
 refine Zg ?_
 refine Zh ?_
 refine Zd (l := [0, 1, 2, 3, 4, 5, 6, 7, 8, 9, 10, 11, 12, 13, 14, 15]) rfl ?_
 refine Za rfl rfl rfl rfl (Zc rfl rfl) ?_
 refine Za rfl rfl rfl rfl (V_slen rfl rfl Try.underlying9 rfl) ?_
 refine Za rfl rfl rfl rfl (V_eql rfl rfl rfl) ?_
 refine Za rfl rfl rfl rfl (Zc rfl rfl) ?_
 refine Xa 11 rfl (fun hc1 => ?_) (fun hc1 => ?_)
 rotate_left
 · (first | contradiction | (exact absurd rfl hc1) | (exfalso; omega) | (simp at hc1; done) | (exact absurd hc1 (by decide)) | (exact absurd (by decide) hc1))
 refine Za rfl rfl rfl rfl (Zc rfl rfl) ?_
 refine Yw rfl rfl rfl rfl (N_make (l := 8) (m := 8) rfl Try.underlying73 i_5 rfl rfl rfl rfl rfl rfl rfl (by first | decide | omega) (by first | decide | omega | (show 1 * _ ≤ _; omega)) (by first | decide | omega)) (fun b13 => ?_)
 refine Za rfl rfl rfl rfl (V_bytesS (l := [0, 0, 0, 0, 0, 0, 0, 0]) rfl rfl Try.underlying73 Try.underlying5 Try.underlying9 (Zf 0 rfl) (by first | omega | (simp [cOp, cWk, cIv, cHr, cLt, cWt, cIt, cFl, cTn, cCl, cPo, cSt, cDt, cDs, Sl.v, zIns, insV]; done) | (simp [cOp, cWk, cIv, cHr, cLt, cWt, cIt, cFl, cTn, cCl, cPo, cSt, cDt, cDs, Sl.v, zIns, insV]; omega) | (simp [cOp, cWk, cIv, cHr, cLt, cWt, cIt, cFl, cTn, cCl, cPo, cSt, cDt, cDs, Sl.v, zIns, insV] at *; omega)) rfl) ?_
 refine Za rfl rfl rfl rfl (V_sadd rfl rfl rfl (by first | omega | (simp [cOp, cWk, cIv, cHr, cLt, cWt, cIt, cFl, cTn, cCl, cPo, cSt, cDt, cDs, Sl.v, zIns, insV]; done) | (simp [cOp, cWk, cIv, cHr, cLt, cWt, cIt, cFl, cTn, cCl, cPo, cSt, cDt, cDs, Sl.v, zIns, insV]; omega) | (simp [cOp, cWk, cIv, cHr, cLt, cWt, cIt, cFl, cTn, cCl, cPo, cSt, cDt, cDs, Sl.v, zIns, insV] at *; omega))) ?_
 refine Za rfl rfl rfl rfl (V_seql rfl rfl rfl) ?_
 refine Za rfl rfl rfl rfl (Yz rfl rfl rfl) ?_
 refine Za rfl rfl rfl rfl (Zc rfl rfl) ?_
 refine Xa 18 rfl (fun hc2 => ?_) (fun hc2 => ?_)
 rotate_left
 · (first | contradiction | (exact absurd rfl hc2) | (exfalso; omega) | (simp at hc2; done) | (exact absurd hc2 (by decide)) | (exact absurd (by decide) hc2))
 refine Za rfl rfl rfl rfl (Zc rfl rfl) ?_
 refine Zq (L2 := [_, _]) rfl rfl rfl rfl rfl rfl Try.call12 (dl_num _) [] [] rfl rfl ?_
 rintro v post ⟨rfl, rfl⟩
 show G _ _ _ [_, _] _
 refine Za rfl rfl rfl rfl (V_eql rfl rfl rfl) ?_
 refine Za rfl rfl rfl rfl (Yz rfl rfl rfl) ?_
 refine Za rfl rfl rfl rfl (Zk rfl rfl) ?_
 refine Zg ?_
 refine Yy (post := []) Try.func8 rfl (Zy (Yt rfl) Zp) [] rfl ?_
 dsimp only [packed]
 exact ⟨rfl, rfl⟩

end
end Go.Proofs.Ytjnaeoelnmhjfaa

set_option linter.unusedSimpArgs false
set_option linter.unusedVariables false
namespace Go.Proofs.Ytjnaeoelnmhjfaa
open Go Go.RowKit

def KeyOk (P : Program) (d : Nat) (t : TypeId) (cs : List Value) : Prop := ∃ l, P.keyLits d t cs = some l
theorem mapM_ex {α β : Type} {f : α → Option β} : ∀ {L : List α}, (∀ x ∈ L, ∃ a, f x = some a) → ∃ az, L.mapM f = some az
  | [], _ => ⟨[], rfl⟩
  | x :: L, h => by
    obtain ⟨a, ha⟩ := h x List.mem_cons_self
    obtain ⟨az, haz⟩ := mapM_ex fun y hy => h y (List.mem_cons_of_mem _ hy)
    exact ⟨a :: az, by rw [List.mapM_cons, ha, haz]; rfl⟩
theorem ko_i64 {P : Program} {d : Nat} {t : TypeId} {n : Int} (hu : P.underlying t = some (.int .i64)) (h : 0 ≤ n ∧ n ≤ 1099511627776) : KeyOk P (d + 1) t [.int .i64 n] := by
  have h0 : (-9223372036854775808 : Int) ≤ n := by omega
  have h1 : n ≤ (9223372036854775807 : Int) := by omega
  unfold KeyOk Program.keyLits
  simp only [hu]
  rw [if_pos ⟨trivial, by simp only [Lit.wf, Bool.and_eq_true, decide_eq_true_eq]; exact ⟨h0, h1⟩⟩]
  exact ⟨_, rfl⟩
theorem ko_u64 {P : Program} {d : Nat} {t : TypeId} {n : Nat} (hu : P.underlying t = some (.int .u64)) (h : n < 18446744073709551616) : KeyOk P (d + 1) t [.int .u64 (n : Int)] := by
  have h0 : (0 : Int) ≤ (n : Int) := by omega
  have h1 : (n : Int) ≤ (18446744073709551615 : Int) := by omega
  unfold KeyOk Program.keyLits
  simp only [hu]
  rw [if_pos ⟨trivial, by simp only [Lit.wf, Bool.and_eq_true, decide_eq_true_eq]; exact ⟨h0, h1⟩⟩]
  exact ⟨_, rfl⟩
theorem ko_str {P : Program} {d : Nat} {t : TypeId} {l : List UInt8} (hu : P.underlying t = some .string) (h : l.length ≤ 9223372036854775807) : KeyOk P (d + 1) t [.string (bs l)] := by
  unfold KeyOk Program.keyLits
  simp only [hu]
  rw [if_pos (by rw [bs_size]; unfold maxLen; omega)]
  exact ⟨_, rfl⟩
theorem ko_bool {P : Program} {d : Nat} {t : TypeId} {b : Bool} (hu : P.underlying t = some .bool) : KeyOk P (d + 1) t [.bool b] := by
  unfold KeyOk Program.keyLits
  simp only [hu]
  exact ⟨_, rfl⟩
def AllK (P : Program) (d : Nat) (cs : List Value) : List Field → Prop
  | [] => True
  | f :: r => (∃ s, P.cellsOf f.type = s ∧ KeyOk P d f.type ((cs.drop f.offset).take s)) ∧ AllK P d cs r
theorem allK {P : Program} {d : Nat} {cs : List Value} : ∀ {fs : List Field}, AllK P d cs fs → ∀ f ∈ fs, KeyOk P d f.type ((cs.drop f.offset).take (P.cellsOf f.type))
  | [], _, _, h => by cases h
  | g :: r, h, f, hf => by
    rcases List.mem_cons.1 hf with rfl | hf
    · obtain ⟨s, rfl, hk⟩ := h.1; exact hk
    · exact allK h.2 f hf
theorem ko_struct {P : Program} {d : Nat} {t : TypeId} {fs : Array Field} {cs : List Value} (hu : P.underlying t = some (.struct fs)) (hn : cs.length = P.cellsOf t) (hb : fs.all (·.name != "_") = true) (h : AllK P d cs fs.toList) : KeyOk P (d + 1) t cs := by
  obtain ⟨az, haz⟩ := mapM_ex (f := fun f : Field => P.keyLits d f.type ((cs.drop f.offset).take (P.cellsOf f.type))) (L := fs.toList) (allK h)
  unfold KeyOk Program.keyLits
  simp only [hu]
  rw [if_pos ⟨hn, hb⟩, haz]
  exact ⟨_, rfl⟩
theorem ko_ints {P : Program} {d : Nat} {t e : TypeId} {n : Nat} {xs : List Int} (hu : P.underlying t = some (.array n e)) (he : P.underlying e = some (.int .i64)) (hc : P.cellsOf t = n) (h1 : P.cellsOf e = 1) (hn : xs.length = n) (h : ∀ x ∈ xs, 0 ≤ x ∧ x ≤ 1099511627776) : KeyOk P (d + 2) t (xs.map fun z => Value.int .i64 z) := by
  obtain ⟨az, haz⟩ := mapM_ex (f := fun i : Nat => P.keyLits (d + 1) e (((xs.map fun z => Value.int .i64 z).drop (i * 1)).take 1)) (L := List.range n) (fun i hi => by
    have hi : i < xs.length := by rw [hn]; exact List.mem_range.1 hi
    rw [Nat.mul_one, ← List.map_drop, ← List.map_take, List.drop_eq_getElem_cons hi, List.take_succ_cons, List.take_zero, List.map_singleton]
    exact ko_i64 he (h _ (List.getElem_mem hi)))
  unfold KeyOk Program.keyLits
  simp only [hu]
  rw [if_pos (by rw [List.length_map, hn, hc]), h1, haz]
  exact ⟨_, rfl⟩
end Go.Proofs.Ytjnaeoelnmhjfaa

set_option linter.unusedSimpArgs false
set_option linter.unusedVariables false
namespace Go.Proofs.Ytjnaeoelnmhjfaa
open Go Go.RowKit

section



theorem gi_bd {x : Int} (h : GI x) : 0 ≤ x ∧ x ≤ 1099511627776 := GI_iff.1 h
theorem gt_bd {s : List UInt8} (h : GT s) : s.length ≤ 9223372036854775807 := by have := GT_iff.1 h; omega
theorem key_Op {x : Op} (h : GOp x) : ∃ l, Try.prog.keyLits 4 137 (cOp x).toArray.toList = some l := by
  obtain ⟨⟨b0, b1⟩, ⟨u2, u3, u4⟩⟩ := gOp_iff.1 h
  exact ko_struct Try.underlying137 (by kernel_rfl) (by kernel_rfl) ⟨⟨1, by kernel_rfl, ko_i64 Try.underlying3 (gi_bd (Xi.2 b0 x.v0 (by simp)))⟩, ⟨⟨1, by kernel_rfl, ko_i64 Try.underlying3 (gi_bd (Xi.2 b0 x.v1 (by simp)))⟩, ⟨⟨1, by kernel_rfl, ko_i64 Try.underlying3 (gi_bd (Xi.2 b0 x.v2 (by simp)))⟩, ⟨⟨3, by kernel_rfl, ko_struct Try.underlying135 (by kernel_rfl) (by kernel_rfl) ⟨⟨1, by kernel_rfl, ko_str Try.underlying9 (gt_bd (gts_any.2 b1 x.v3 (by simp)))⟩, ⟨⟨1, by kernel_rfl, ko_str Try.underlying9 (gt_bd (gts_any.2 b1 x.v4 (by simp)))⟩, ⟨⟨1, by kernel_rfl, ko_str Try.underlying9 (gt_bd (gts_any.2 b1 x.v5 (by simp)))⟩, trivial⟩⟩⟩⟩, ⟨⟨1, by kernel_rfl, ko_i64 Try.underlying3 (gi_bd (Xi.2 b0 x.v6 (by simp)))⟩, ⟨⟨1, by kernel_rfl, ko_i64 Try.underlying3 (gi_bd (Xi.2 b0 x.v7 (by simp)))⟩, ⟨⟨1, by kernel_rfl, ko_i64 Try.underlying3 (gi_bd (Xi.2 b0 x.v8 (by simp)))⟩, ⟨⟨1, by kernel_rfl, ko_i64 Try.underlying3 (gi_bd (Xi.2 b0 x.v9 (by simp)))⟩, ⟨⟨1, by kernel_rfl, ko_i64 Try.underlying3 (gi_bd (Xi.2 b0 x.v10 (by simp)))⟩, ⟨⟨1, by kernel_rfl, ko_i64 Try.underlying3 (gi_bd (Xi.2 b0 x.v11 (by simp)))⟩, ⟨⟨1, by kernel_rfl, ko_i64 Try.underlying3 (gi_bd (Xi.2 b0 x.v12 (by simp)))⟩, ⟨⟨1, by kernel_rfl, ko_i64 Try.underlying3 (gi_bd (Xi.2 b0 x.v13 (by simp)))⟩, ⟨⟨1, by kernel_rfl, ko_i64 Try.underlying3 (gi_bd (Xi.2 b0 x.v14 (by simp)))⟩, ⟨⟨1, by kernel_rfl, ko_u64 Try.underlying23 u2⟩, ⟨⟨1, by kernel_rfl, ko_u64 Try.underlying23 u3⟩, ⟨⟨1, by kernel_rfl, ko_u64 Try.underlying23 u4⟩, trivial⟩⟩⟩⟩⟩⟩⟩⟩⟩⟩⟩⟩⟩⟩⟩⟩
theorem key_Wk {x : Wk} (h : GWk x) : ∃ l, Try.prog.keyLits 4 92 (cWk x).toArray.toList = some l := by
  obtain ⟨⟨b0, b1⟩, u3⟩ := gWk_iff.1 h
  exact ko_struct Try.underlying92 (by kernel_rfl) (by kernel_rfl) ⟨⟨1, by kernel_rfl, ko_i64 Try.underlying3 (gi_bd (Xi.2 b0 x.v0 (by simp)))⟩, ⟨⟨1, by kernel_rfl, ko_i64 Try.underlying3 (gi_bd (Xi.2 b0 x.v1 (by simp)))⟩, ⟨⟨1, by kernel_rfl, ko_i64 Try.underlying3 (gi_bd (Xi.2 b0 x.v2 (by simp)))⟩, ⟨⟨1, by kernel_rfl, ko_str Try.underlying9 (gt_bd (gts_any.2 b1 x.v3 (by simp)))⟩, ⟨⟨1, by kernel_rfl, ko_str Try.underlying9 (gt_bd (gts_any.2 b1 x.v4 (by simp)))⟩, ⟨⟨1, by kernel_rfl, ko_bool Try.underlying4⟩, ⟨⟨1, by kernel_rfl, ko_u64 Try.underlying23 u3⟩, trivial⟩⟩⟩⟩⟩⟩⟩
theorem key_Iv {x : Iv} (h : GIv x) : ∃ l, Try.prog.keyLits 4 95 (cIv x).toArray.toList = some l := by
  obtain ⟨⟨b0, b1⟩, _⟩ := gIv_iff.1 h
  exact ko_struct Try.underlying95 (by kernel_rfl) (by kernel_rfl) ⟨⟨1, by kernel_rfl, ko_i64 Try.underlying3 (gi_bd (Xi.2 b0 x.v0 (by simp)))⟩, ⟨⟨1, by kernel_rfl, ko_i64 Try.underlying3 (gi_bd (Xi.2 b0 x.v1 (by simp)))⟩, ⟨⟨1, by kernel_rfl, ko_str Try.underlying9 (gt_bd (gts_any.2 b1 x.v2 (by simp)))⟩, ⟨⟨1, by kernel_rfl, ko_i64 Try.underlying3 (gi_bd (Xi.2 b0 x.v3 (by simp)))⟩, ⟨⟨1, by kernel_rfl, ko_i64 Try.underlying3 (gi_bd (Xi.2 b0 x.v4 (by simp)))⟩, trivial⟩⟩⟩⟩⟩
theorem key_Hr {x : Hr} (h : GHr x) : ∃ l, Try.prog.keyLits 4 141 (cHr x).toArray.toList = some l := by
  obtain ⟨⟨b0, b1⟩, _⟩ := gHr_iff.1 h
  exact ko_struct Try.underlying141 (by kernel_rfl) (by kernel_rfl) ⟨⟨1, by kernel_rfl, ko_str Try.underlying9 (gt_bd (gts_any.2 b0 x.v0 (by simp)))⟩, ⟨⟨16, by kernel_rfl, ko_ints (xs := [x.v1, x.v2, x.v3, x.v4, x.v5, x.v6, x.v7, x.v8, x.v9, x.v10, x.v11, x.v12, x.v13, x.v14, x.v15, x.v16]) Try.underlying139 Try.underlying3 (by kernel_rfl) (by kernel_rfl) rfl (fun y hy => gi_bd (Xi.2 b1 y hy))⟩, trivial⟩⟩
theorem key_Lt {x : Lt} (h : GLt x) : ∃ l, Try.prog.keyLits 4 143 (cLt x).toArray.toList = some l := by
  obtain ⟨⟨b0, b1⟩, u2⟩ := gLt_iff.1 h
  exact ko_struct Try.underlying143 (by kernel_rfl) (by kernel_rfl) ⟨⟨1, by kernel_rfl, ko_i64 Try.underlying3 (gi_bd (Xi.2 b0 x.v0 (by simp)))⟩, ⟨⟨1, by kernel_rfl, ko_i64 Try.underlying3 (gi_bd (Xi.2 b0 x.v1 (by simp)))⟩, ⟨⟨1, by kernel_rfl, ko_i64 Try.underlying3 (gi_bd (Xi.2 b0 x.v2 (by simp)))⟩, ⟨⟨1, by kernel_rfl, ko_i64 Try.underlying3 (gi_bd (Xi.2 b0 x.v3 (by simp)))⟩, ⟨⟨1, by kernel_rfl, ko_str Try.underlying9 (gt_bd (gts_any.2 b1 x.v4 (by simp)))⟩, ⟨⟨1, by kernel_rfl, ko_u64 Try.underlying23 u2⟩, trivial⟩⟩⟩⟩⟩⟩
theorem key_Wt {x : Wt} (h : GWt x) : ∃ l, Try.prog.keyLits 4 145 (cWt x).toArray.toList = some l := by
  obtain ⟨⟨b0, b1⟩, _⟩ := gWt_iff.1 h
  exact ko_struct Try.underlying145 (by kernel_rfl) (by kernel_rfl) ⟨⟨1, by kernel_rfl, ko_str Try.underlying9 (gt_bd (gts_any.2 b0 x.v0 (by simp)))⟩, ⟨⟨1, by kernel_rfl, ko_i64 Try.underlying3 (gi_bd (Xi.2 b1 x.v1 (by simp)))⟩, trivial⟩⟩
theorem key_It {x : It} (h : GIt x) : ∃ l, Try.prog.keyLits 4 262 (cIt x).toArray.toList = some l := by
  obtain ⟨b0, _⟩ := gIt_iff.1 h
  exact ko_struct Try.underlying262 (by kernel_rfl) (by kernel_rfl) ⟨⟨1, by kernel_rfl, ko_i64 Try.underlying3 (gi_bd (Xi.2 b0 x.v0 (by simp)))⟩, ⟨⟨1, by kernel_rfl, ko_i64 Try.underlying3 (gi_bd (Xi.2 b0 x.v1 (by simp)))⟩, trivial⟩⟩

end
end Go.Proofs.Ytjnaeoelnmhjfaa

set_option linter.unusedSimpArgs false
set_option linter.unusedVariables false
namespace Go.Proofs.Ytjnaeoelnmhjfaa
open Go Go.RowKit

section
theorem p_137 : placesOf Try.prog (Try.prog.fieldsOf 137) = some [(0, 1), (1, 1), (2, 1), (3, 3), (6, 1), (7, 1), (8, 1), (9, 1), (10, 1), (11, 1), (12, 1), (13, 1), (14, 1), (15, 1), (16, 1), (17, 1)] := by kernel_rfl


theorem rdg_is1 {l l1 : List UInt8} {e e1 : Nat} {a : Int} (he : e ≤ 1000) (r1 : Rdg encI GI l e a l1 e1) : Rdg encIs (GIs 1) l e [a] l1 e1 := rdg_Is ((RdgL.zero he).next r1 (by omega))
theorem rdg_is2 {l l1 l2 : List UInt8} {e e1 e2 : Nat} {a b : Int} (he : e ≤ 1000) (r1 : Rdg encI GI l e a l1 e1) (r2 : Rdg encI GI l1 e1 b l2 e2) : Rdg encIs (GIs 2) l e [a, b] l2 e2 := rdg_Is (((RdgL.zero he).next r1 (by omega)).next r2 (by omega))
theorem rdg_is3 {l l1 l2 l3 : List UInt8} {e e1 e2 e3 : Nat} {a b c : Int} (he : e ≤ 1000) (r1 : Rdg encI GI l e a l1 e1) (r2 : Rdg encI GI l1 e1 b l2 e2) (r3 : Rdg encI GI l2 e2 c l3 e3) : Rdg encIs (GIs 3) l e [a, b, c] l3 e3 := rdg_Is ((((RdgL.zero he).next r1 (by omega)).next r2 (by omega)).next r3 (by omega))
theorem rdg_is4 {l l1 l2 l3 l4 : List UInt8} {e e1 e2 e3 e4 : Nat} {a b c d : Int} (he : e ≤ 1000) (r1 : Rdg encI GI l e a l1 e1) (r2 : Rdg encI GI l1 e1 b l2 e2) (r3 : Rdg encI GI l2 e2 c l3 e3) (r4 : Rdg encI GI l3 e3 d l4 e4) : Rdg encIs (GIs 4) l e [a, b, c, d] l4 e4 := rdg_Is (((((RdgL.zero he).next r1 (by omega)).next r2 (by omega)).next r3 (by omega)).next r4 (by omega))
theorem rdg_is5 {l l1 l2 l3 l4 l5 : List UInt8} {e e1 e2 e3 e4 e5 : Nat} {a b c d f : Int} (he : e ≤ 1000) (r1 : Rdg encI GI l e a l1 e1) (r2 : Rdg encI GI l1 e1 b l2 e2) (r3 : Rdg encI GI l2 e2 c l3 e3) (r4 : Rdg encI GI l3 e3 d l4 e4) (r5 : Rdg encI GI l4 e4 f l5 e5) : Rdg encIs (GIs 5) l e [a, b, c, d, f] l5 e5 := rdg_Is ((((((RdgL.zero he).next r1 (by omega)).next r2 (by omega)).next r3 (by omega)).next r4 (by omega)).next r5 (by omega))
theorem rdg_ts1 {l l1 : List UInt8} {e e1 : Nat} {a : List UInt8} (he : e ≤ 1000) (r1 : Rdg text GT l e a l1 e1) : Rdg encTs (GTs 1) l e [a] l1 e1 := rdg_Ts ((RdgL.zero he).next r1 (by omega))
theorem rdg_ts2 {l l1 l2 : List UInt8} {e e1 e2 : Nat} {a b : List UInt8} (he : e ≤ 1000) (r1 : Rdg text GT l e a l1 e1) (r2 : Rdg text GT l1 e1 b l2 e2) : Rdg encTs (GTs 2) l e [a, b] l2 e2 := rdg_Ts (((RdgL.zero he).next r1 (by omega)).next r2 (by omega))
theorem rdg_ts3 {l l1 l2 l3 : List UInt8} {e e1 e2 e3 : Nat} {a b c : List UInt8} (he : e ≤ 1000) (r1 : Rdg text GT l e a l1 e1) (r2 : Rdg text GT l1 e1 b l2 e2) (r3 : Rdg text GT l2 e2 c l3 e3) : Rdg encTs (GTs 3) l e [a, b, c] l3 e3 := rdg_Ts ((((RdgL.zero he).next r1 (by omega)).next r2 (by omega)).next r3 (by omega))
theorem rq_N (br : Nat) (l : List UInt8) (e : Nat) (hl : l.length ≤ 140737488350000) (he : e ≤ 1000) : Ct Try.prog 40 [.pointer (some ⟨br, 0, none⟩), .int .i64 1000] [] [(some br, .cells #[.string (bs l), .int .i64 ((e : Nat) : Int)] 86 (0, 0))] (fun v post => ∃ n l1 e1, rdInt 1000 l e = (n, l1, e1) ∧ v = .int .i64 (n : Int) ∧ post = [(some br, .cells #[.string (bs l1), .int .i64 ((e1 : Nat) : Int)] 86 (0, 0))]) :=
  Ct.weaken (rrd_int br l e 1000 (by omega) he (by omega)) (fun v post h => by
    obtain ⟨n, l1, e1, h1⟩ : ∃ n l1 e1, rdInt 1000 l e = (n, l1, e1) := ⟨_, _, _, rfl⟩
    rw [h1] at h
    exact ⟨n, l1, e1, h1, h.1, h.2⟩)
theorem rq_T (br : Nat) (l : List UInt8) (e : Nat) (hl : l.length ≤ 140737488350000) (he : e ≤ 1000) : Ct Try.prog 41 [.pointer (some ⟨br, 0, none⟩), .int .i64 200] [] [(some br, .cells #[.string (bs l), .int .i64 ((e : Nat) : Int)] 86 (0, 0))] (fun v post => ∃ n l1 e1, Rdg text GT l e n l1 e1 ∧ v = .string (bs n) ∧ post = [(some br, .cells #[.string (bs l1), .int .i64 ((e1 : Nat) : Int)] 86 (0, 0))]) :=
  Ct.weaken (rrd_str br l e 200 (by omega) he (by omega)) (fun v post h => by
    obtain ⟨n, l1, e1, h1⟩ : ∃ n l1 e1, rdStr 200 l e = (n, l1, e1) := ⟨_, _, _, rfl⟩
    rw [h1] at h
    exact ⟨n, l1, e1, rdg_T he h1, h.1, h.2⟩)
theorem rq_U (br : Nat) (l : List UInt8) (e : Nat) (hl : l.length ≤ 140737488350000) (he : e ≤ 1000) : Ct Try.prog 36 [.pointer (some ⟨br, 0, none⟩)] [] [(some br, .cells #[.string (bs l), .int .i64 ((e : Nat) : Int)] 86 (0, 0))] (fun v post => ∃ n l1 e1, Rdg encU GU l e n l1 e1 ∧ v = .int .u64 (n : Int) ∧ post = [(some br, .cells #[.string (bs l1), .int .i64 ((e1 : Nat) : Int)] 86 (0, 0))]) :=
  Ct.weaken (rrd_num br l e (by omega) he) (fun v post h => by
    obtain ⟨n, l1, e1, h1⟩ : ∃ n l1 e1, rdNum l e = (n, l1, e1) := ⟨_, _, _, rfl⟩
    rw [h1] at h
    exact ⟨n, l1, e1, rdg_U he h1, h.1, h.2⟩)
theorem rq_B (br : Nat) (l : List UInt8) (e : Nat) (hl : l.length ≤ 140737488350000) (he : e ≤ 1000) : Ct Try.prog 37 [.pointer (some ⟨br, 0, none⟩)] [] [(some br, .cells #[.string (bs l), .int .i64 ((e : Nat) : Int)] 86 (0, 0))] (fun v post => ∃ n l1 e1, Rdg encB (fun _ => True) l e n l1 e1 ∧ v = .bool n ∧ post = [(some br, .cells #[.string (bs l1), .int .i64 ((e1 : Nat) : Int)] 86 (0, 0))]) :=
  Ct.weaken (rrd_flag br l e (by omega) he) (fun v post h => by
    obtain ⟨n, l1, e1, h1⟩ : ∃ n l1 e1, rdFlag l e = (n, l1, e1) := ⟨_, _, _, rfl⟩
    rw [h1] at h
    exact ⟨n, l1, e1, rdg_B he h1, h.1, h.2⟩)

set_option maxRecDepth 100000 in
set_option maxHeartbeats 1000000 in
theorem rq_I (br : Nat) (l : List UInt8) (e : Nat) (hl : l.length ≤ 140737488350000) (he : e ≤ 1000) :
    Ct Try.prog 38 [.pointer (some ⟨br, 0, none⟩)] [] [(some br, .cells #[.string (bs l), .int .i64 ((e : Nat) : Int)] 86 (0, 0))] fun v post => ∃ (n : Nat) (l1 : List UInt8) (e1 : Nat), Rdg encI GI l e (n : Int) l1 e1 ∧ v = .int .i64 (n : Int) ∧ post = [(some br, .cells #[.string (bs l1), .int .i64 ((e1 : Nat) : Int)] 86 (0, 0))] := by
 obtain ⟨n, l1, e1, h1⟩ : ∃ a_ l_ e_, rdInt 1099511627776 l e = (a_, l_, e_) := ⟨_, _, _, rfl⟩
 refine Yu Try.func38 rfl rfl (fun w0 => ?_)
 show G _ _ [(0, _)] _ _
 refine Zh ?_
 refine Zd (l := [0]) rfl ?_
 refine Za rfl rfl rfl rfl (Zk rfl rfl) ?_
 refine Zg ?_
 refine Zh ?_
 refine Zd (l := [0, 1, 2]) rfl ?_
 refine Za rfl rfl rfl rfl (Zc rfl rfl) ?_
 refine Zq (L2 := []) rfl rfl rfl rfl rfl rfl Try.call40 ((rrd_int br l e 1099511627776 (by omega) he (by omega)).weaken (fun v post h => by rewrite [h1] at h; exact h)) [0] [] rfl rfl ?_
 rintro v post ⟨rfl, rfl⟩
 show G _ _ _ [_] _
 refine Za rfl rfl rfl rfl (Zk rfl rfl) ?_
 refine Zg ?_
 refine Yy (post := [_]) Try.func38 rfl (Zy (Yt rfl) Zp) [0] rfl ?_
 dsimp only [packed]
 exact ⟨n, l1, e1, rdg_I he h1, rfl, rfl⟩

set_option maxRecDepth 100000 in
set_option maxHeartbeats 4000000 in
theorem rq_ops (br : Nat) (l : List UInt8) (e : Nat) (hl : l.length ≤ 140737488350000) (he : e ≤ 1000) :
    Ct Try.prog 39 [.pointer (some ⟨br, 0, none⟩)] [] [(some br, .cells #[.string (bs l), .int .i64 ((e : Nat) : Int)] 86 (0, 0))] fun v post => ∃ (s : Ins Op) (l1 : List UInt8) (e1 : Nat), InsOk 18 cOp s ∧ s.l.length ≤ 1000 ∧ Rdg (encL encOp) (GL GOp) l e s.l l1 e1 ∧ v = insV s ∧ post = [(some br, .cells #[.string (bs l1), .int .i64 ((e1 : Nat) : Int)] 86 (0, 0)), insK s] := by
 refine Yu Try.func39 rfl rfl (fun w0 => ?_)
 show G _ _ [(0, _)] _ _
 refine Zh ?_
 refine Zd (l := [0]) rfl ?_
 refine Za rfl rfl rfl rfl (Zk rfl rfl) ?_
 refine Zg ?_
 refine Zh ?_
 refine Zd (l := [0, 1]) rfl ?_
 refine Yw rfl rfl rfl rfl (N_build0 rfl Try.underlying24 i_137) (fun b9 => ?_)
 refine Za rfl rfl rfl rfl (Zk rfl rfl) ?_
 refine Zg ?_
 refine Zh ?_
 refine Zd (l := [0, 1, 2]) rfl ?_
 refine Za rfl rfl rfl rfl (Zc rfl rfl) ?_
 refine Zq (L2 := [_]) rfl rfl rfl rfl rfl rfl Try.call40 (rq_N br l e (by omega) he) [1] [] rfl rfl ?_
 rintro v post ⟨n, l0, e0, h0, rfl, rfl⟩
 show G _ _ _ [_, _] _
 obtain ⟨hn, hl0, he0⟩ := rd_n he h0
 refine Za rfl rfl rfl rfl (Zk rfl rfl) ?_
 refine Zg ?_
 refine Zh ?_
 refine Zh ?_
 refine Zd (l := [0]) rfl ?_
 refine Za rfl rfl rfl rfl (Zk rfl rfl) ?_
 refine Zg ?_
 refine Zs ?_
 refine Yi ?he4 [0, 0] ?hl4 (Xb (X := Nat × Sl × List Op × List UInt8 × Nat) (fun x_ => match x_ with | ⟨i, u, ms, l1, e1⟩ => i ≤ n ∧ ms.length = i ∧ Own 18 u (ms.flatMap cOp) i ∧ RdgL encOp GOp n l0 e0 i ms l1 e1) (fun x_ => match x_ with | ⟨i, u, ms, l1, e1⟩ => n - i) (fun x_ => match x_ with | ⟨i, u, ms, l1, e1⟩ => [(0, .pointer (some ⟨br, 0, none⟩)), (3, u.v i), (4, .int .i64 (n : Int)), (5, .int .i64 (i : Int))]) (fun x_ => match x_ with | ⟨i, u, ms, l1, e1⟩ => [(some br, .cells #[.string (bs l1), .int .i64 ((e1 : Nat) : Int)] 86 (0, 0)), (u.ob, .cells u.cs 137 u.fz)]) ?round4 (0, ⟨some b9, #[], (0, 0), 0⟩, [], l0, e0) ?h04)
 case he4 => exact (And.intro rfl (And.intro rfl (And.intro rfl (And.intro rfl trivial))))
 case hl4 => exact ⟨_, rfl⟩
 case h04 => exact ⟨Nat.zero_le _, rfl, own_empty 18 b9, .zero he0⟩
 case round4 =>
  intro x_ hJ ih
  try dsimp only at hJ ih
  obtain ⟨i, u, ms, l1, e1⟩ := x_
  try dsimp only at hJ ih
  obtain ⟨hi, hml, hu, hx⟩ := hJ
  show G _ _ [(0, .pointer (some ⟨br, 0, none⟩)), (3, u.v i), (4, .int .i64 (n : Int)), (5, .int .i64 (i : Int))] [(some br, .cells #[.string (bs l1), .int .i64 ((e1 : Nat) : Int)] 86 (0, 0)), (u.ob, .cells u.cs 137 u.fz)] _
  have hl1 := hx.len
  have he1 := hx.err
  refine Zh ?_
  refine Zh ?_
  refine Zd (l := [0, 1, 2, 3, 4, 5, 6, 7, 8, 9]) rfl ?_
  refine Za rfl rfl rfl rfl (Zc rfl rfl) ?_
  refine Za rfl rfl rfl rfl (Zc rfl rfl) ?_
  refine Za rfl rfl rfl rfl (Xn rfl rfl rfl) ?_
  refine Za rfl rfl rfl rfl (Zc rfl rfl) ?_
  refine Xa 15 rfl (fun hc1 => ?_) (fun hc1 => ?_)
  ·
   refine Za rfl rfl rfl rfl (Zc rfl rfl) ?_
   refine Za rfl rfl rfl rfl (Ze rfl rfl) ?_
   refine Za rfl rfl rfl rfl (Zb (fo := 1) rfl Try.underlying86 rfl i_3 rfl rfl rfl) ?_
   refine Za rfl rfl rfl rfl (Zj rfl rfl (Zf 0 rfl) rfl Try.underlying3 rfl) ?_
   refine Za rfl rfl rfl rfl (V_eql rfl rfl rfl) ?_
   refine Za rfl rfl rfl rfl (Yz rfl rfl rfl) ?_
   refine Zg ?_
   refine Yk rfl (fun hc2 => ?_) (fun hc2 => ?_)
   ·
    refine Zu ?_
    refine Zh ?_
    refine Zs ?_
    refine Zh ?_
    refine Zd (l := [0, 1]) rfl ?_
    refine Yw rfl rfl rfl rfl (N_build0 rfl Try.underlying99 i_3) (fun b24 => ?_)
    refine Za rfl rfl rfl rfl (Zk rfl rfl) ?_
    refine Zg ?_
    refine Zh ?_
    refine Zh ?_
    refine Zd (l := [0]) rfl ?_
    refine Za rfl rfl rfl rfl (Zk rfl rfl) ?_
    refine Zg ?_
    refine Zs ?_
    refine Yi ?he8 [1, 1, 0] ?hl8 (Xb (X := Nat × Sl × List Int × List UInt8 × Nat) (fun y_ => match y_ with | ⟨k, v, xs, l2, e2⟩ => k ≤ 12 ∧ xs.length = k ∧ Own 1 v (xs.flatMap i1C) k ∧ RdgL encI GI 12 l1 e1 k xs l2 e2) (fun y_ => match y_ with | ⟨k, v, xs, l2, e2⟩ => 12 - k) (fun y_ => match y_ with | ⟨k, v, xs, l2, e2⟩ => [(0, .pointer (some ⟨br, 0, none⟩)), (3, u.v i), (4, .int .i64 (n : Int)), (5, .int .i64 (i : Int)), (6, v.v k), (7, .int .i64 (k : Int))]) (fun y_ => match y_ with | ⟨k, v, xs, l2, e2⟩ => [(some br, .cells #[.string (bs l2), .int .i64 ((e2 : Nat) : Int)] 86 (0, 0)), (u.ob, .cells u.cs 137 u.fz), (v.ob, .cells v.cs 3 v.fz)]) ?round8 (0, ⟨some b24, #[], (0, 0), 0⟩, [], l1, e1) ?h08)
    case he8 => exact (And.intro rfl (And.intro rfl (And.intro rfl (And.intro rfl (And.intro rfl (And.intro rfl trivial))))))
    case hl8 => exact ⟨_, rfl⟩
    case h08 => exact ⟨Nat.zero_le _, rfl, own_empty 1 b24, .zero he1⟩
    case round8 =>
     intro y_ hJ ih2
     try dsimp only at hJ ih2
     obtain ⟨k, v, xs, l2, e2⟩ := y_
     try dsimp only at hJ ih2
     obtain ⟨hk, hxl, hv, hy⟩ := hJ
     show G _ _ [(0, .pointer (some ⟨br, 0, none⟩)), (3, u.v i), (4, .int .i64 (n : Int)), (5, .int .i64 (i : Int)), (6, v.v k), (7, .int .i64 (k : Int))] [(some br, .cells #[.string (bs l2), .int .i64 ((e2 : Nat) : Int)] 86 (0, 0)), (u.ob, .cells u.cs 137 u.fz), (v.ob, .cells v.cs 3 v.fz)] _
     have hl2 := hy.len
     have he2 := hy.err
     refine Zh ?_
     refine Zh ?_
     refine Zd (l := [0, 1]) rfl ?_
     refine Za rfl rfl rfl rfl (Zc rfl rfl) ?_
     refine Za rfl rfl rfl rfl (Xn rfl rfl rfl) ?_
     refine Zg ?_
     refine Yk rfl (fun hc3 => ?_) (fun hc3 => ?_)
     ·
      refine Zu ?_
      refine Zh ?_
      refine Zs ?_
      refine Zd (l := [0, 1, 2, 3, 4, 5]) rfl ?_
      refine Za rfl rfl rfl rfl (Zc rfl rfl) ?_
      refine Za rfl rfl rfl rfl (Zc rfl rfl) ?_
      refine Zq (L2 := [_, _]) rfl rfl rfl rfl rfl rfl Try.call38 (rq_I br l2 e2 (by omega) (by omega)) [0] [] rfl rfl ?_
      rintro v post ⟨y, l3, e3, r3, rfl, rfl⟩
      show G _ _ _ [_, _, _] _
      refine Yw rfl rfl rfl rfl (Zn (s := 1) (cs := [_]) rfl Try.underlying99 i_3 rfl rfl rfl rfl rfl rfl rfl rfl rfl) (fun b32 => ?_)
      refine G_append (l1 := [_, _, _]) (s := v) (nn := k) (m := 1) (news := (i1C (y : Int))) (bt := 8) rfl rfl rfl rfl Try.underlying99 Try.underlying99 (by first | exact .inl rfl | exact .inr ⟨_, rfl⟩) i_3 rfl rfl rfl rfl rfl rfl hv rfl (Yg (Zf 0 rfl) rfl rfl (by simp [i1C, Value.oneCell'])) (by omega) (by omega) ?_
      intro v1 hv1 _
      show G _ _ _ [_, _, _, _] _
      refine Za rfl rfl rfl rfl (Zk rfl rfl) ?_
      refine Zg ?_
      refine Zv ?_
      refine Zd (l := [0, 1, 2]) rfl ?_
      refine Za rfl rfl rfl rfl (Zc rfl rfl) ?_
      refine Za rfl rfl rfl rfl ((Xe rfl rfl rfl).int (Zw (by omega))) ?_
      refine Za rfl rfl rfl rfl (Zk rfl rfl) ?_
      refine Zg ?_
      refine Yi ?_ [1, 1, 1] ?_ (ih2 (k + 1, v1, xs ++ [(y : Int)], l3, e3) ?_ ?_)
      · (refine (And.intro ?_ (And.intro ?_ (And.intro ?_ (And.intro ?_ (And.intro ?_ (And.intro ?_ trivial)))))) <;> first | rfl | exact Zl (by omega) | exact Zl (by simp))
      · exact ⟨_, rfl⟩
      · exact ⟨by omega, by simp [hxl], by rw [List.flatMap_append, List.flatMap_singleton]; exact hv1, hy.next r3 (by omega)⟩
      · (first | omega | (dsimp only; omega))
     refine Yr rfl ?_
     refine Zh ?_
     obtain rfl : k = 12 := by omega
     have r0 := rdg_Is hy
     obtain ⟨a0, a1, a2, a6, a7, a8, a9, a10, a11, a12, a13, a14, rfl⟩ := len_12 hxl
     obtain ⟨bv_, hbv⟩ := hv.isSome (by omega)
     obtain ⟨vob, vcs, vfz, vcap⟩ := v
     simp only at hbv
     subst hbv
     refine Yf (Lq := [_]) (isq := [2]) (m := 39) Yo rfl rfl ?_
     refine Zi 0 rfl rfl rfl rfl (by kernel_rfl) (fun _ _ => Zc rfl rfl) ?_
     refine Zi 1 rfl rfl rfl rfl (by kernel_rfl) (fun _ _ => V_indexAddr (s := 1) rfl Try.underlying99 i_3 rfl rfl rfl (by omega) (by first | omega | (simp [cOp, cWk, cIv, cHr, cLt, cWt, cIt, cFl, cTn, cCl, cPo, cSt, cDt, cDs, Sl.v, zIns, insV]; done) | (simp [cOp, cWk, cIv, cHr, cLt, cWt, cIt, cFl, cTn, cCl, cPo, cSt, cDt, cDs, Sl.v, zIns, insV]; omega) | (simp [cOp, cWk, cIv, cHr, cLt, cWt, cIt, cFl, cTn, cCl, cPo, cSt, cDt, cDs, Sl.v, zIns, insV] at *; omega))) ?_
     refine Zi 2 rfl rfl rfl rfl (by kernel_rfl) (fun _ _ => Zj rfl rfl (Zf 0 rfl) (Zt (hv.nth (i := 0) rfl)) Try.underlying3 rfl) ?_
     refine Zi 3 rfl rfl rfl rfl (by kernel_rfl) (fun _ _ => Zc rfl rfl) ?_
     refine Zi 4 rfl rfl rfl rfl (by kernel_rfl) (fun _ _ => V_indexAddr (s := 1) rfl Try.underlying99 i_3 rfl rfl rfl (by omega) (by first | omega | (simp [cOp, cWk, cIv, cHr, cLt, cWt, cIt, cFl, cTn, cCl, cPo, cSt, cDt, cDs, Sl.v, zIns, insV]; done) | (simp [cOp, cWk, cIv, cHr, cLt, cWt, cIt, cFl, cTn, cCl, cPo, cSt, cDt, cDs, Sl.v, zIns, insV]; omega) | (simp [cOp, cWk, cIv, cHr, cLt, cWt, cIt, cFl, cTn, cCl, cPo, cSt, cDt, cDs, Sl.v, zIns, insV] at *; omega))) ?_
     refine Zi 5 rfl rfl rfl rfl (by kernel_rfl) (fun _ _ => Zj rfl rfl (Zf 0 rfl) (Zt (hv.nth (i := 1) rfl)) Try.underlying3 rfl) ?_
     refine Zi 6 rfl rfl rfl rfl (by kernel_rfl) (fun _ _ => Zc rfl rfl) ?_
     refine Zi 7 rfl rfl rfl rfl (by kernel_rfl) (fun _ _ => V_indexAddr (s := 1) rfl Try.underlying99 i_3 rfl rfl rfl (by omega) (by first | omega | (simp [cOp, cWk, cIv, cHr, cLt, cWt, cIt, cFl, cTn, cCl, cPo, cSt, cDt, cDs, Sl.v, zIns, insV]; done) | (simp [cOp, cWk, cIv, cHr, cLt, cWt, cIt, cFl, cTn, cCl, cPo, cSt, cDt, cDs, Sl.v, zIns, insV]; omega) | (simp [cOp, cWk, cIv, cHr, cLt, cWt, cIt, cFl, cTn, cCl, cPo, cSt, cDt, cDs, Sl.v, zIns, insV] at *; omega))) ?_
     refine Zi 8 rfl rfl rfl rfl (by kernel_rfl) (fun _ _ => Zj rfl rfl (Zf 0 rfl) (Zt (hv.nth (i := 2) rfl)) Try.underlying3 rfl) ?_
     refine Zi 9 rfl rfl rfl rfl (by kernel_rfl) (fun _ _ => Zc rfl rfl) ?_
     refine Zi 10 rfl rfl rfl rfl (by kernel_rfl) (fun _ _ => V_indexAddr (s := 1) rfl Try.underlying99 i_3 rfl rfl rfl (by omega) (by first | omega | (simp [cOp, cWk, cIv, cHr, cLt, cWt, cIt, cFl, cTn, cCl, cPo, cSt, cDt, cDs, Sl.v, zIns, insV]; done) | (simp [cOp, cWk, cIv, cHr, cLt, cWt, cIt, cFl, cTn, cCl, cPo, cSt, cDt, cDs, Sl.v, zIns, insV]; omega) | (simp [cOp, cWk, cIv, cHr, cLt, cWt, cIt, cFl, cTn, cCl, cPo, cSt, cDt, cDs, Sl.v, zIns, insV] at *; omega))) ?_
     refine Zi 11 rfl rfl rfl rfl (by kernel_rfl) (fun _ _ => Zj rfl rfl (Zf 0 rfl) (Zt (hv.nth (i := 3) rfl)) Try.underlying3 rfl) ?_
     refine Zi 12 rfl rfl rfl rfl (by kernel_rfl) (fun _ _ => Zc rfl rfl) ?_
     refine Zi 13 rfl rfl rfl rfl (by kernel_rfl) (fun _ _ => V_indexAddr (s := 1) rfl Try.underlying99 i_3 rfl rfl rfl (by omega) (by first | omega | (simp [cOp, cWk, cIv, cHr, cLt, cWt, cIt, cFl, cTn, cCl, cPo, cSt, cDt, cDs, Sl.v, zIns, insV]; done) | (simp [cOp, cWk, cIv, cHr, cLt, cWt, cIt, cFl, cTn, cCl, cPo, cSt, cDt, cDs, Sl.v, zIns, insV]; omega) | (simp [cOp, cWk, cIv, cHr, cLt, cWt, cIt, cFl, cTn, cCl, cPo, cSt, cDt, cDs, Sl.v, zIns, insV] at *; omega))) ?_
     refine Zi 14 rfl rfl rfl rfl (by kernel_rfl) (fun _ _ => Zj rfl rfl (Zf 0 rfl) (Zt (hv.nth (i := 4) rfl)) Try.underlying3 rfl) ?_
     refine Zi 15 rfl rfl rfl rfl (by kernel_rfl) (fun _ _ => Zc rfl rfl) ?_
     refine Zi 16 rfl rfl rfl rfl (by kernel_rfl) (fun _ _ => V_indexAddr (s := 1) rfl Try.underlying99 i_3 rfl rfl rfl (by omega) (by first | omega | (simp [cOp, cWk, cIv, cHr, cLt, cWt, cIt, cFl, cTn, cCl, cPo, cSt, cDt, cDs, Sl.v, zIns, insV]; done) | (simp [cOp, cWk, cIv, cHr, cLt, cWt, cIt, cFl, cTn, cCl, cPo, cSt, cDt, cDs, Sl.v, zIns, insV]; omega) | (simp [cOp, cWk, cIv, cHr, cLt, cWt, cIt, cFl, cTn, cCl, cPo, cSt, cDt, cDs, Sl.v, zIns, insV] at *; omega))) ?_
     refine Zi 17 rfl rfl rfl rfl (by kernel_rfl) (fun _ _ => Zj rfl rfl (Zf 0 rfl) (Zt (hv.nth (i := 5) rfl)) Try.underlying3 rfl) ?_
     refine Zi 18 rfl rfl rfl rfl (by kernel_rfl) (fun _ _ => Zc rfl rfl) ?_
     refine Zi 19 rfl rfl rfl rfl (by kernel_rfl) (fun _ _ => V_indexAddr (s := 1) rfl Try.underlying99 i_3 rfl rfl rfl (by omega) (by first | omega | (simp [cOp, cWk, cIv, cHr, cLt, cWt, cIt, cFl, cTn, cCl, cPo, cSt, cDt, cDs, Sl.v, zIns, insV]; done) | (simp [cOp, cWk, cIv, cHr, cLt, cWt, cIt, cFl, cTn, cCl, cPo, cSt, cDt, cDs, Sl.v, zIns, insV]; omega) | (simp [cOp, cWk, cIv, cHr, cLt, cWt, cIt, cFl, cTn, cCl, cPo, cSt, cDt, cDs, Sl.v, zIns, insV] at *; omega))) ?_
     refine Zi 20 rfl rfl rfl rfl (by kernel_rfl) (fun _ _ => Zj rfl rfl (Zf 0 rfl) (Zt (hv.nth (i := 6) rfl)) Try.underlying3 rfl) ?_
     refine Zi 21 rfl rfl rfl rfl (by kernel_rfl) (fun _ _ => Zc rfl rfl) ?_
     refine Zi 22 rfl rfl rfl rfl (by kernel_rfl) (fun _ _ => V_indexAddr (s := 1) rfl Try.underlying99 i_3 rfl rfl rfl (by omega) (by first | omega | (simp [cOp, cWk, cIv, cHr, cLt, cWt, cIt, cFl, cTn, cCl, cPo, cSt, cDt, cDs, Sl.v, zIns, insV]; done) | (simp [cOp, cWk, cIv, cHr, cLt, cWt, cIt, cFl, cTn, cCl, cPo, cSt, cDt, cDs, Sl.v, zIns, insV]; omega) | (simp [cOp, cWk, cIv, cHr, cLt, cWt, cIt, cFl, cTn, cCl, cPo, cSt, cDt, cDs, Sl.v, zIns, insV] at *; omega))) ?_
     refine Zi 23 rfl rfl rfl rfl (by kernel_rfl) (fun _ _ => Zj rfl rfl (Zf 0 rfl) (Zt (hv.nth (i := 7) rfl)) Try.underlying3 rfl) ?_
     refine Zi 24 rfl rfl rfl rfl (by kernel_rfl) (fun _ _ => Zc rfl rfl) ?_
     refine Zi 25 rfl rfl rfl rfl (by kernel_rfl) (fun _ _ => V_indexAddr (s := 1) rfl Try.underlying99 i_3 rfl rfl rfl (by omega) (by first | omega | (simp [cOp, cWk, cIv, cHr, cLt, cWt, cIt, cFl, cTn, cCl, cPo, cSt, cDt, cDs, Sl.v, zIns, insV]; done) | (simp [cOp, cWk, cIv, cHr, cLt, cWt, cIt, cFl, cTn, cCl, cPo, cSt, cDt, cDs, Sl.v, zIns, insV]; omega) | (simp [cOp, cWk, cIv, cHr, cLt, cWt, cIt, cFl, cTn, cCl, cPo, cSt, cDt, cDs, Sl.v, zIns, insV] at *; omega))) ?_
     refine Zi 26 rfl rfl rfl rfl (by kernel_rfl) (fun _ _ => Zj rfl rfl (Zf 0 rfl) (Zt (hv.nth (i := 8) rfl)) Try.underlying3 rfl) ?_
     refine Zi 27 rfl rfl rfl rfl (by kernel_rfl) (fun _ _ => Zc rfl rfl) ?_
     refine Zi 28 rfl rfl rfl rfl (by kernel_rfl) (fun _ _ => V_indexAddr (s := 1) rfl Try.underlying99 i_3 rfl rfl rfl (by omega) (by first | omega | (simp [cOp, cWk, cIv, cHr, cLt, cWt, cIt, cFl, cTn, cCl, cPo, cSt, cDt, cDs, Sl.v, zIns, insV]; done) | (simp [cOp, cWk, cIv, cHr, cLt, cWt, cIt, cFl, cTn, cCl, cPo, cSt, cDt, cDs, Sl.v, zIns, insV]; omega) | (simp [cOp, cWk, cIv, cHr, cLt, cWt, cIt, cFl, cTn, cCl, cPo, cSt, cDt, cDs, Sl.v, zIns, insV] at *; omega))) ?_
     refine Zi 29 rfl rfl rfl rfl (by kernel_rfl) (fun _ _ => Zj rfl rfl (Zf 0 rfl) (Zt (hv.nth (i := 9) rfl)) Try.underlying3 rfl) ?_
     refine Zi 30 rfl rfl rfl rfl (by kernel_rfl) (fun _ _ => Zc rfl rfl) ?_
     refine Zi 31 rfl rfl rfl rfl (by kernel_rfl) (fun _ _ => V_indexAddr (s := 1) rfl Try.underlying99 i_3 rfl rfl rfl (by omega) (by first | omega | (simp [cOp, cWk, cIv, cHr, cLt, cWt, cIt, cFl, cTn, cCl, cPo, cSt, cDt, cDs, Sl.v, zIns, insV]; done) | (simp [cOp, cWk, cIv, cHr, cLt, cWt, cIt, cFl, cTn, cCl, cPo, cSt, cDt, cDs, Sl.v, zIns, insV]; omega) | (simp [cOp, cWk, cIv, cHr, cLt, cWt, cIt, cFl, cTn, cCl, cPo, cSt, cDt, cDs, Sl.v, zIns, insV] at *; omega))) ?_
     refine Zi 32 rfl rfl rfl rfl (by kernel_rfl) (fun _ _ => Zj rfl rfl (Zf 0 rfl) (Zt (hv.nth (i := 10) rfl)) Try.underlying3 rfl) ?_
     refine Zi 33 rfl rfl rfl rfl (by kernel_rfl) (fun _ _ => Zc rfl rfl) ?_
     refine Zi 34 rfl rfl rfl rfl (by kernel_rfl) (fun _ _ => V_indexAddr (s := 1) rfl Try.underlying99 i_3 rfl rfl rfl (by omega) (by first | omega | (simp [cOp, cWk, cIv, cHr, cLt, cWt, cIt, cFl, cTn, cCl, cPo, cSt, cDt, cDs, Sl.v, zIns, insV]; done) | (simp [cOp, cWk, cIv, cHr, cLt, cWt, cIt, cFl, cTn, cCl, cPo, cSt, cDt, cDs, Sl.v, zIns, insV]; omega) | (simp [cOp, cWk, cIv, cHr, cLt, cWt, cIt, cFl, cTn, cCl, cPo, cSt, cDt, cDs, Sl.v, zIns, insV] at *; omega))) ?_
     refine Zi 35 rfl rfl rfl rfl (by kernel_rfl) (fun _ _ => Zj rfl rfl (Zf 0 rfl) (Zt (hv.nth (i := 11) rfl)) Try.underlying3 rfl) ?_
     refine Zi 36 rfl rfl rfl rfl (by kernel_rfl) (fun _ _ => Xw (cs := [_, _, _, _, _, _, _, _, _, _, _, _, _, _, _, _, _, _]) rfl Try.underlying137 i_137 rfl p_137 rfl rfl rfl) ?_
     refine GH_all [37] (by kernel_rfl) (by decide) ?_
     refine (And.intro ?_ trivial)
     ·
      refine Yl rfl rfl rfl rfl (Ym rfl i_137 rfl) [3] (fun _ => ⟨_, rfl⟩) (fun b8 => ?_)
      refine GH_all [38] (by kernel_rfl) (by decide) ?_
      refine (And.intro ?_ trivial)
      ·
       refine Xk (l1 := []) (L' := [_, _, _, _]) rfl rfl rfl rfl (Yv (s := 18) rfl rfl rfl (Zf 0 rfl) (by rfl) i_137 rfl (by rfl) (by simp [Value.oneCell', cOp, cWk, cIv, cHr, cLt, cWt, cIt, cFl, cTn, cCl, cPo, cSt, cDt, cDs, Sl.v, zIns, insV])) rfl [3] rfl ?_
       refine Ya (by kernel_rfl) ?_
       refine Zh ?_
       show G _ _ _ [(some b8, .cells ((cOp ⟨a0, a1, a2, [], [], [], a6, a7, a8, a9, a10, a11, a12, a13, a14, 0, 0, 0⟩).toArray) 137 (0, 0)), _, _, _] _
       refine Zd (l := [0, 1, 2, 3, 4]) rfl ?_
       refine Za rfl rfl rfl rfl (Zc rfl rfl) ?_
       refine Zq (L2 := [_, _, _]) rfl rfl rfl rfl rfl rfl Try.call41 (rq_T br l2 e2 (by omega) (by omega)) [1] [] rfl rfl ?_
       rintro v post ⟨a3, l4, e4, r4, rfl, rfl⟩
       show G _ _ _ [_, _, _, _] _
       have hl4_ := r4.len
       have he4_ := r4.err
       refine Za rfl rfl rfl rfl (Zb (fo := 3) rfl Try.underlying137 rfl i_135 rfl rfl rfl) ?_
       refine Za rfl rfl rfl rfl (Zb (fo := 3) rfl Try.underlying135 rfl i_9 rfl rfl rfl) ?_
       refine Yj (l1 := [_]) (L' := [_, _, _, _]) rfl rfl rfl rfl (Zm rfl rfl rfl (Zf 1 rfl) (by first | exact of_decide_eq_true rfl | omega | (simp [cOp, cWk, cIv, cHr, cLt, cWt, cIt, cFl, cTn, cCl, cPo, cSt, cDt, cDs, Sl.v, zIns, insV]; done) | (simp [cOp, cWk, cIv, cHr, cLt, cWt, cIt, cFl, cTn, cCl, cPo, cSt, cDt, cDs, Sl.v, zIns, insV]; omega) | (simp [cOp, cWk, cIv, cHr, cLt, cWt, cIt, cFl, cTn, cCl, cPo, cSt, cDt, cDs, Sl.v, zIns, insV] at *; omega)) i_9 rfl rfl) rfl ?_
       rw [show ((cOp ⟨a0, a1, a2, [], [], [], a6, a7, a8, a9, a10, a11, a12, a13, a14, 0, 0, 0⟩).toArray).setIfInBounds 3 (.string (bs a3)) = (cOp ⟨a0, a1, a2, a3, [], [], a6, a7, a8, a9, a10, a11, a12, a13, a14, 0, 0, 0⟩).toArray from rfl]
       refine Zg ?_
       refine Zh ?_
       refine Zd (l := [0, 1, 2, 3, 4]) rfl ?_
       refine Za rfl rfl rfl rfl (Zc rfl rfl) ?_
       refine Zq (L2 := [_, _, _]) rfl rfl rfl rfl rfl rfl Try.call41 (rq_T br l4 e4 (by omega) (by omega)) [0] [] rfl rfl ?_
       rintro v post ⟨a4, l5, e5, r5, rfl, rfl⟩
       show G _ _ _ [_, _, _, _] _
       have hl5_ := r5.len
       have he5_ := r5.err
       refine Za rfl rfl rfl rfl (Zb (fo := 3) rfl Try.underlying137 rfl i_135 rfl rfl rfl) ?_
       refine Za rfl rfl rfl rfl (Zb (fo := 4) rfl Try.underlying135 rfl i_9 rfl rfl rfl) ?_
       refine Yj (l1 := [_]) (L' := [_, _, _, _]) rfl rfl rfl rfl (Zm rfl rfl rfl (Zf 1 rfl) (by first | exact of_decide_eq_true rfl | omega | (simp [cOp, cWk, cIv, cHr, cLt, cWt, cIt, cFl, cTn, cCl, cPo, cSt, cDt, cDs, Sl.v, zIns, insV]; done) | (simp [cOp, cWk, cIv, cHr, cLt, cWt, cIt, cFl, cTn, cCl, cPo, cSt, cDt, cDs, Sl.v, zIns, insV]; omega) | (simp [cOp, cWk, cIv, cHr, cLt, cWt, cIt, cFl, cTn, cCl, cPo, cSt, cDt, cDs, Sl.v, zIns, insV] at *; omega)) i_9 rfl rfl) rfl ?_
       rw [show ((cOp ⟨a0, a1, a2, a3, [], [], a6, a7, a8, a9, a10, a11, a12, a13, a14, 0, 0, 0⟩).toArray).setIfInBounds 4 (.string (bs a4)) = (cOp ⟨a0, a1, a2, a3, a4, [], a6, a7, a8, a9, a10, a11, a12, a13, a14, 0, 0, 0⟩).toArray from rfl]
       refine Zg ?_
       refine Zh ?_
       refine Zd (l := [0, 1, 2, 3, 4]) rfl ?_
       refine Za rfl rfl rfl rfl (Zc rfl rfl) ?_
       refine Zq (L2 := [_, _, _]) rfl rfl rfl rfl rfl rfl Try.call41 (rq_T br l5 e5 (by omega) (by omega)) [0] [] rfl rfl ?_
       rintro v post ⟨a5, l6, e6, r6, rfl, rfl⟩
       show G _ _ _ [_, _, _, _] _
       have hl6_ := r6.len
       have he6_ := r6.err
       refine Za rfl rfl rfl rfl (Zb (fo := 3) rfl Try.underlying137 rfl i_135 rfl rfl rfl) ?_
       refine Za rfl rfl rfl rfl (Zb (fo := 5) rfl Try.underlying135 rfl i_9 rfl rfl rfl) ?_
       refine Yj (l1 := [_]) (L' := [_, _, _, _]) rfl rfl rfl rfl (Zm rfl rfl rfl (Zf 1 rfl) (by first | exact of_decide_eq_true rfl | omega | (simp [cOp, cWk, cIv, cHr, cLt, cWt, cIt, cFl, cTn, cCl, cPo, cSt, cDt, cDs, Sl.v, zIns, insV]; done) | (simp [cOp, cWk, cIv, cHr, cLt, cWt, cIt, cFl, cTn, cCl, cPo, cSt, cDt, cDs, Sl.v, zIns, insV]; omega) | (simp [cOp, cWk, cIv, cHr, cLt, cWt, cIt, cFl, cTn, cCl, cPo, cSt, cDt, cDs, Sl.v, zIns, insV] at *; omega)) i_9 rfl rfl) rfl ?_
       rw [show ((cOp ⟨a0, a1, a2, a3, a4, [], a6, a7, a8, a9, a10, a11, a12, a13, a14, 0, 0, 0⟩).toArray).setIfInBounds 5 (.string (bs a5)) = (cOp ⟨a0, a1, a2, a3, a4, a5, a6, a7, a8, a9, a10, a11, a12, a13, a14, 0, 0, 0⟩).toArray from rfl]
       refine Zg ?_
       refine Zh ?_
       refine Zd (l := [0, 1, 2, 3]) rfl ?_
       refine Za rfl rfl rfl rfl (Zc rfl rfl) ?_
       refine Zq (L2 := [_, _, _]) rfl rfl rfl rfl rfl rfl Try.call36 (rq_U br l6 e6 (by omega) (by omega)) [0] [] rfl rfl ?_
       rintro v post ⟨a15, l7, e7, r7, rfl, rfl⟩
       show G _ _ _ [_, _, _, _] _
       have hl7_ := r7.len
       have he7_ := r7.err
       refine Za rfl rfl rfl rfl (Zb (fo := 15) rfl Try.underlying137 rfl i_23 rfl rfl rfl) ?_
       refine Yj (l1 := [_]) (L' := [_, _, _, _]) rfl rfl rfl rfl (Zm rfl rfl rfl (Zf 1 rfl) (by first | exact of_decide_eq_true rfl | omega | (simp [cOp, cWk, cIv, cHr, cLt, cWt, cIt, cFl, cTn, cCl, cPo, cSt, cDt, cDs, Sl.v, zIns, insV]; done) | (simp [cOp, cWk, cIv, cHr, cLt, cWt, cIt, cFl, cTn, cCl, cPo, cSt, cDt, cDs, Sl.v, zIns, insV]; omega) | (simp [cOp, cWk, cIv, cHr, cLt, cWt, cIt, cFl, cTn, cCl, cPo, cSt, cDt, cDs, Sl.v, zIns, insV] at *; omega)) i_23 rfl rfl) rfl ?_
       rw [show ((cOp ⟨a0, a1, a2, a3, a4, a5, a6, a7, a8, a9, a10, a11, a12, a13, a14, 0, 0, 0⟩).toArray).setIfInBounds 15 (.int .u64 (a15 : Int)) = (cOp ⟨a0, a1, a2, a3, a4, a5, a6, a7, a8, a9, a10, a11, a12, a13, a14, a15, 0, 0⟩).toArray from rfl]
       refine Zg ?_
       refine Zh ?_
       refine Zd (l := [0, 1, 2, 3]) rfl ?_
       refine Za rfl rfl rfl rfl (Zc rfl rfl) ?_
       refine Zq (L2 := [_, _, _]) rfl rfl rfl rfl rfl rfl Try.call36 (rq_U br l7 e7 (by omega) (by omega)) [0] [] rfl rfl ?_
       rintro v post ⟨a16, l8, e8, r8, rfl, rfl⟩
       show G _ _ _ [_, _, _, _] _
       have hl8_ := r8.len
       have he8_ := r8.err
       refine Za rfl rfl rfl rfl (Zb (fo := 16) rfl Try.underlying137 rfl i_23 rfl rfl rfl) ?_
       refine Yj (l1 := [_]) (L' := [_, _, _, _]) rfl rfl rfl rfl (Zm rfl rfl rfl (Zf 1 rfl) (by first | exact of_decide_eq_true rfl | omega | (simp [cOp, cWk, cIv, cHr, cLt, cWt, cIt, cFl, cTn, cCl, cPo, cSt, cDt, cDs, Sl.v, zIns, insV]; done) | (simp [cOp, cWk, cIv, cHr, cLt, cWt, cIt, cFl, cTn, cCl, cPo, cSt, cDt, cDs, Sl.v, zIns, insV]; omega) | (simp [cOp, cWk, cIv, cHr, cLt, cWt, cIt, cFl, cTn, cCl, cPo, cSt, cDt, cDs, Sl.v, zIns, insV] at *; omega)) i_23 rfl rfl) rfl ?_
       rw [show ((cOp ⟨a0, a1, a2, a3, a4, a5, a6, a7, a8, a9, a10, a11, a12, a13, a14, a15, 0, 0⟩).toArray).setIfInBounds 16 (.int .u64 (a16 : Int)) = (cOp ⟨a0, a1, a2, a3, a4, a5, a6, a7, a8, a9, a10, a11, a12, a13, a14, a15, a16, 0⟩).toArray from rfl]
       refine Zg ?_
       refine Zh ?_
       refine Zd (l := [0, 1, 2, 3]) rfl ?_
       refine Za rfl rfl rfl rfl (Zc rfl rfl) ?_
       refine Zq (L2 := [_, _, _]) rfl rfl rfl rfl rfl rfl Try.call36 (rq_U br l8 e8 (by omega) (by omega)) [0] [] rfl rfl ?_
       rintro v post ⟨a17, l9, e9, r9, rfl, rfl⟩
       show G _ _ _ [_, _, _, _] _
       have hl9_ := r9.len
       have he9_ := r9.err
       refine Za rfl rfl rfl rfl (Zb (fo := 17) rfl Try.underlying137 rfl i_23 rfl rfl rfl) ?_
       refine Yj (l1 := [_]) (L' := [_, _, _, _]) rfl rfl rfl rfl (Zm rfl rfl rfl (Zf 1 rfl) (by first | exact of_decide_eq_true rfl | omega | (simp [cOp, cWk, cIv, cHr, cLt, cWt, cIt, cFl, cTn, cCl, cPo, cSt, cDt, cDs, Sl.v, zIns, insV]; done) | (simp [cOp, cWk, cIv, cHr, cLt, cWt, cIt, cFl, cTn, cCl, cPo, cSt, cDt, cDs, Sl.v, zIns, insV]; omega) | (simp [cOp, cWk, cIv, cHr, cLt, cWt, cIt, cFl, cTn, cCl, cPo, cSt, cDt, cDs, Sl.v, zIns, insV] at *; omega)) i_23 rfl rfl) rfl ?_
       rw [show ((cOp ⟨a0, a1, a2, a3, a4, a5, a6, a7, a8, a9, a10, a11, a12, a13, a14, a15, a16, 0⟩).toArray).setIfInBounds 17 (.int .u64 (a17 : Int)) = (cOp ⟨a0, a1, a2, a3, a4, a5, a6, a7, a8, a9, a10, a11, a12, a13, a14, a15, a16, a17⟩).toArray from rfl]
       refine Zg ?_
       refine Zd (l := [0, 1, 2, 3, 4]) rfl ?_
       refine Za rfl rfl rfl rfl (Zc rfl rfl) ?_
       refine Za rfl rfl rfl rfl (V_loadW (s := 18) rfl rfl (Zf 1 rfl) Try.underlying137 rfl i_137 rfl (by rfl)) ?_
       refine Yw rfl rfl rfl rfl (Zn (s := 18) (cs := [_, _, _, _, _, _, _, _, _, _, _, _, _, _, _, _, _, _]) rfl Try.underlying24 i_137 rfl rfl rfl rfl rfl rfl rfl rfl rfl) (fun b94 => ?_)
       refine G_append (l1 := [_, _, _]) (s := u) (nn := i) (m := 1) (news := (cOp (⟨a0, a1, a2, a3, a4, a5, a6, a7, a8, a9, a10, a11, a12, a13, a14, (a15 : Nat), (a16 : Nat), (a17 : Nat)⟩ : Op))) (bt := 168) rfl rfl rfl rfl Try.underlying24 Try.underlying24 (by first | exact .inl rfl | exact .inr ⟨_, rfl⟩) i_137 rfl rfl rfl rfl rfl rfl hu rfl (Yg (Zf 0 rfl) rfl rfl (by simp [cOp, Value.oneCell'])) (by omega) (by omega) ?_
       intro u1 hu1 _
       show G _ _ _ [_, _, _, _, _] _
       refine Za rfl rfl rfl rfl (Zk rfl rfl) ?_
       refine Zg ?_
       refine Zv ?_
       refine Zd (l := [0, 1, 2]) rfl ?_
       refine Za rfl rfl rfl rfl (Zc rfl rfl) ?_
       refine Za rfl rfl rfl rfl ((Xe rfl rfl rfl).int (Zw (by omega))) ?_
       refine Za rfl rfl rfl rfl (Zk rfl rfl) ?_
       refine Zg ?_
       refine Yi ?_ [1, 2] ?_ (ih (i + 1, u1, ms ++ [(⟨a0, a1, a2, a3, a4, a5, a6, a7, a8, a9, a10, a11, a12, a13, a14, (a15 : Nat), (a16 : Nat), (a17 : Nat)⟩ : Op)], l9, e9) ?_ ?_)
       · (refine (And.intro ?_ (And.intro ?_ (And.intro ?_ (And.intro ?_ trivial)))) <;> first | rfl | exact Zl (by omega) | exact Zl (by simp))
       · exact ⟨_, rfl⟩
       · exact ⟨by omega, by simp [hml], by rw [List.flatMap_append, List.flatMap_singleton]; exact hu1, hx.next (rdgOp r0 (rdg_ts3 (by omega) r4 r5 r6) r7 r8 r9) (by omega)⟩
       · (first | omega | (dsimp only; omega))
   refine Yr rfl ?_
   refine Zh ?_
   refine Zd (l := [0, 1]) rfl ?_
   refine Za rfl rfl rfl rfl (Zc rfl rfl) ?_
   refine Za rfl rfl rfl rfl (Zk rfl rfl) ?_
   refine Zg ?_
   refine Yy (post := [_, _]) Try.func39 rfl (Zy (Yt rfl) Zp) [0, 0] rfl ?_
   dsimp only [packed]
   first
     | exact ⟨insOf u 137 ms, l1, e1, Yh (by rw [hml]; exact hu) (by omega), by show ms.length ≤ _; omega, rdg_Lbad he h0 hx (by omega) _, by rw [Xd, hml], rfl⟩
     | (obtain rfl : i = n := by omega
        exact ⟨insOf u 137 ms, l1, e1, Yh (by rw [hml]; exact hu) (by omega), by show ms.length ≤ _; omega, rdg_L he h0 hx, by rw [Xd, hml], rfl⟩)
  refine Yb rfl rfl rfl rfl ?_
  refine Yb rfl rfl rfl rfl ?_
  refine Yb rfl rfl rfl rfl ?_
  refine Yb rfl rfl rfl rfl ?_
  refine Yb rfl rfl rfl rfl ?_
  refine Za rfl rfl rfl rfl (Xg rfl rfl rfl) ?_
  refine Zg ?_
  refine Xu rfl ?_
  refine Yr rfl ?_
  refine Zh ?_
  refine Zd (l := [0, 1]) rfl ?_
  refine Za rfl rfl rfl rfl (Zc rfl rfl) ?_
  refine Za rfl rfl rfl rfl (Zk rfl rfl) ?_
  refine Zg ?_
  refine Yy (post := [_, _]) Try.func39 rfl (Zy (Yt rfl) Zp) [0, 0] rfl ?_
  dsimp only [packed]
  first
    | exact ⟨insOf u 137 ms, l1, e1, Yh (by rw [hml]; exact hu) (by omega), by show ms.length ≤ _; omega, rdg_Lbad he h0 hx (by omega) _, by rw [Xd, hml], rfl⟩
    | (obtain rfl : i = n := by omega
       exact ⟨insOf u 137 ms, l1, e1, Yh (by rw [hml]; exact hu) (by omega), by show ms.length ≤ _; omega, rdg_L he h0 hx, by rw [Xd, hml], rfl⟩)

end
end Go.Proofs.Ytjnaeoelnmhjfaa
