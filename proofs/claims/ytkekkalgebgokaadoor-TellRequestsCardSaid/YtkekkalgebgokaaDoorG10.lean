/- strings.Builder's text, and operations in drawn regions that write and tell. No program in sight. -/
import Derived.Test.YtkekkalgebgokaaDoorG9
import Derived.Lib.Builder
import Derived.Laws.Externs
set_option linter.unusedSimpArgs false
set_option linter.unusedVariables false
namespace Go.Proofs.YtkekkalgebgokaaDoor
open Go Go.RowKit

section
variable {c : Cx} {n : Nat} {env : List (Nat × Value)} {L : List (Option Nat × Obj)} {k : List Item} {o : Oper}

theorem V_sliceDataN {x : Operand} {d : Option Tmp} {ts : Array TypeId} {ty : TypeId} {ps : String} {es : Array Edge} {gd : Option (Nat × Bool)} {i j : Nat} (hop : o = ⟨d, .call ⟨.builtin .unsafeSliceData, #[x], ts⟩, ty, ps, es, gd⟩) (hx : fev env x = some (.slice none i j)) :
    Val c n env L o (.pointer none) := fun a w hk _ => by
  subst hop
  unfold execOp
  simp only [resolve, invoke, builtin, Sem.run_bind, Sem.run_pure, Result.andThen_ok, List.map_toArray, List.map_cons, List.map_nil, hk.eval hx, Lib.run_unsafeSliceData_nil]
theorem V_sliceDataS {x : Operand} {d : Option Tmp} {ts : Array TypeId} {ty : TypeId} {ps : String} {es : Array Edge} {gd : Option (Nat × Bool)} {b : Addr} {i j : Nat} (hop : o = ⟨d, .call ⟨.builtin .unsafeSliceData, #[x], ts⟩, ty, ps, es, gd⟩) (hx : fev env x = some (.slice (some b) i j)) (hj : 0 < j) :
    Val c n env L o (.pointer (some b)) := fun a w hk _ => by
  subst hop
  unfold execOp
  simp only [resolve, invoke, builtin, Sem.run_bind, Sem.run_pure, Result.andThen_ok, List.map_toArray, List.map_cons, List.map_nil, hk.eval hx, Lib.run_unsafeSliceData_row _ _ _ b i j (by omega)]
theorem V_unsafeString0 {x y : Operand} {d : Option Tmp} {t u : TypeId} {ty : TypeId} {ps : String} {es : Array Edge} {gd : Option (Nat × Bool)} {b : Option Addr} {z : Int} (hop : o = ⟨d, .call ⟨.builtin .unsafeString, #[x, y], #[t, u]⟩, ty, ps, es, gd⟩) (hx : fev env x = some (.pointer b)) (hy : fev env y = some (.int .i64 z)) (hz : z = 0) :
    Val c n env L o (.string (bs [])) := fun a w hk _ => by
  subst hop hz
  unfold execOp
  simp only [resolve, invoke, builtin, Sem.run_bind, Sem.run_pure, Result.andThen_ok, List.map_toArray, List.map_cons, List.map_nil, hk.eval hx, hk.eval hy, Lib.run_unsafeString_none]
  rfl

/-- What is frozen behind a text was told. -/
def frz (fz : Nat × Nat) (k : Nat) : Nat × Nat := if fz.1 == fz.2 then (0, 0 + k) else (min fz.1 0, max fz.2 (0 + k))
def Sl.froze (u : Sl) (k : Nat) : Sl := ⟨u.ob, u.cs, frz u.fz k, u.cap⟩
theorem Own.froze {sz : Nat} {u : Sl} {xs : List Value} {k : Nat} (h : Own sz u xs k) (hs : 0 < sz) : Own sz (u.froze k) xs k := by
  refine ⟨h.len, h.le, h.max, h.size, h.pre, ?_, h.isNil⟩
  have h1 := h.fz
  have : k ≤ k * sz := Nat.le_mul_of_pos_right _ hs
  unfold Sl.froze frz
  simp only
  split <;> simp <;> omega

theorem P_unsafeString {x y : Operand} {d : Option Tmp} {t u e : TypeId} {ty : TypeId} {ps : String} {es : Array Edge} {gd : Option (Nat × Bool)} {g : Nat} {z : Int} {l : List UInt8} {cs : Array Value} {fz : Nat × Nat} (hop : o = ⟨d, .call ⟨.builtin .unsafeString, #[x, y], #[t, u]⟩, ty, ps, es, gd⟩)
    (hp : c.P.underlying t = some (.pointer e)) (hc : c.P.cellsOf e = 1) (hx : fev env x = some (.pointer (some ⟨g, 0, none⟩))) (hy : fev env y = some (.int .i64 z)) (hz : z = (l.length : Int)) (hm : (some g, Obj.cells cs e fz) ∈ L) (hl : l ≠ []) (hn : l.length ≤ cs.size) (h63 : l.length ≤ 9223372036854775807)
    (hcs : cs.toList.take l.length = bcells l) :
    PutV c n env L o g (.cells cs e (frz fz l.length)) (.string (bs l)) := fun a w hk hmm => by
  subst hop hz
  have hw := hmm.lies hm
  have hr := Lib.run_unsafeString_row (P := c.P) w t u ty e hp hc g cs.size (by simp [World.shape?, hw]) l hl hn h63 (fun j x hj => by
    rw [addr_add, cell_of_row w g (0 + j) cs e fz hw]
    have hjl : j < l.length := (List.getElem?_eq_some_iff.1 hj).1
    have h1 : (cs.toList.take l.length)[j]? = some (.int .u8 x.toNat) := by rw [hcs]; simp [bcells, hj]
    rw [List.getElem?_take, if_pos hjl] at h1
    simpa using h1)
  refine ⟨w.freeze ⟨g, 0, none⟩ l.length, ?_, ?_, ?_, ?_, ?_, ?_, fun k hk => ?_⟩
  · unfold execOp
    simp only [resolve, invoke, builtin, Sem.run_bind, Sem.run_pure, Result.andThen_ok, List.map_toArray, List.map_cons, List.map_nil, hk.eval hx, hk.eval hy, hr]
    rfl
  all_goals unfold World.freeze
  all_goals have hl0 : ¬ l.length = 0 := by simpa using hl
  all_goals rw [if_neg hl0]
  · simp
  · obtain ⟨lo, hi⟩ := fz
    simp [Array.getElem?_modify, hw, frz]
  · have : ¬ g = k := fun e => hk e.symm
    simp [Array.getElem?_modify, this]

theorem V_pneqSame {x y : Operand} {t e yt : TypeId} {p : Addr} {j : TypeInfo} (hop : o.op = .binOp .neq t x y yt) (hu : c.P.underlying t = some (.pointer e)) (he : c.P.info? e = some j) (hx : fev env x = some (.pointer (some p))) (hy : fev env y = some (.pointer (some p))) : Val c n env L o (.bool false) := fun a w hk _ => by
  have h := Lib.run_neq_ptr_same (P := c.P) w p hu he
  have hq : c.P.pointee t = e := by simp [Program.pointee, hu]
  simp [execOp, hop, hk.eval hx, hk.eval hy, eqGuard, hu, h]
theorem V_toUnsafe {x : Operand} {t u e T : TypeId} {b off : Nat} {j : TypeInfo} {cs : Array Value} {fr : Nat × Nat} (hop : o.op = .convert t u x) (hx : fev env x = some (.pointer (some ⟨b, off, none⟩))) (ht : c.P.underlying t = some (.pointer e)) (hu : c.P.underlying u = some .unsafePointer) (hi : c.P.info? e = some j) (hj : Nat.beq j.size 0 = false)
    (hm : (some b, Obj.cells cs T fr) ∈ c.A ++ L) (hoff : off < cs.size) : Val c n env L o (.pointer (some ⟨b, off, none⟩)) := fun a w hk hmm => by
  have hj' : j.size ≠ 0 := fun e => by rw [e] at hj; simp at hj
  have h := Lib.run_to_unsafe (P := c.P) w ⟨b, off, none⟩ ht hu hi hj' (e := T) (cells := cs.size) (by simp [World.shape?, hmm.has.both hm]) hoff
  unfold execOp
  simp only [hop, hk.eval hx, Sem.run_bind, h, Result.andThen_ok, Sem.run_pure]
theorem V_fromUnsafe {x : Operand} {t u e T : TypeId} {b off : Nat} {j : TypeInfo} {cs : Array Value} {fr : Nat × Nat} (hop : o.op = .convert u t x) (hx : fev env x = some (.pointer (some ⟨b, off, none⟩))) (ht : c.P.underlying t = some (.pointer e)) (hu : c.P.underlying u = some .unsafePointer) (hi : c.P.info? e = some j)
    (hm : (some b, Obj.cells cs T fr) ∈ c.A ++ L) (hl : liesAt c.P c.P.depth T (cs.size / c.P.cellsOf T) off e 1 = true) : Val c n env L o (.pointer (some ⟨b, off, none⟩)) := fun a w hk hmm => by
  have h := Lib.run_from_unsafe (P := c.P) w ⟨b, off, none⟩ hu ht hi (e := T) (cells := cs.size) (by simp [World.shape?, hmm.has.both hm]) hl
  unfold execOp
  simp only [hop, hk.eval hx, Sem.run_bind, h, Result.andThen_ok, Sem.run_pure]
/-- A call of a function of the model's own that only tells a value. -/
theorem V_extern {f : FuncId} {fn : Func} {ev : Array Value → Sem Value} {xs : Array Operand} {ts : Array TypeId} {args : List Value} {v : Value} (hop : o.op = .call ⟨.value (.func f), xs, ts⟩) (hxs : fevs env xs.toList = some args) (hf : c.P.funcs[f]? = some fn) (hname : (fn.name == "runtime.NumGoroutine") = false)
    (hb : fn.body.isNone = true) (hn : Extern.findNext fn = none) (he : Extern.find fn = some ev) (hv : ∀ w, (ev args.toArray).run c.P w = .ok v w) : Val c n env L o v := fun a w hk _ => by
  have hx : xs.map a.eval = args.toArray := by
    apply Array.toList_inj.1
    simpa using hk.evals hxs
  have hr := run_callFunc_extern hf hname hb hn he args.toArray w
  rw [hv w] at hr
  unfold execOp
  simp [hop, resolve, Act.eval, Deferred.ofValue, hx, invoke, hr]

variable {ops : Array Oper} {Lq : List (Option Nat × Obj)} {fuel : Nat} {listed : Array Bool}
theorem GHop_putV {i b d : Nat} {old ob : Obj} {v : Value} {l1 l2 L' M : List (Option Nat × Obj)} (ho : ops[i]? = some o) (hd : o.dst = some d) (hn : Nat.blt d n = true) (hg : fguard ops env o = some true)
    (hL : L = l1 ++ (some b, old) :: l2) (hv : PutV c n env L o b ob v) (hL' : l1 ++ (some b, ob) :: l2 = L') (isq : List Nat) (hq : tk isq L' = some (Lq, M)) (h : GH c n ops Lq fuel (listed.setIfInBounds i true) ((d, v) :: env) L' k) : GHop c n ops Lq fuel listed env L k i := by
  intro a w hk hm hw
  obtain ⟨w', hr, h1, h2, h3, h4, h5, h6⟩ := hv a w hk hm
  refine ghop_of ho (wanted_of hk hg) ?_
  rw [hr, Oper.upon_value, hd]
  subst hL'
  have hm' := hm.put hL h1 h2 h3 h4 h5 h6
  exact ⟨hs_of hm' hq, h _ w' (hk.put hn v) hm' (hs_of hm' hq)⟩
theorem GHop_callC {i d : Nat} {g : FuncId} {x : Operand} {xs : Array Operand} {ts : Array TypeId} {args vs : List Value} {A' L' L2 : List (Option Nat × Obj)} {R' : Value → List (Option Nat × Obj) → Prop}
    (ho : ops[i]? = some o) (hd : o.dst = some d) (hn : Nat.blt d n = true) (hg : fguard ops env o = some true) (hop : o.op = .call ⟨.value x, xs, ts⟩) (hxs : fevs env xs.toList = some args)
    (hcf : ∀ (az : Array Value) w, (callFunc g az).run c.P w = .ok (.enter g az) w) (hfn : fev env x = some (.func (.func g) #[] vs.toArray)) (hct : Ct c.P g (args ++ vs) A' L' R') (is js : List Nat) (hL : tk is L = some (L', L2)) (hA : pk js (c.A ++ L2) = some A')
    (isq : List Nat) (hq : ∀ v post, R' v post → ∃ M, tk isq (post ++ L2) = some (Lq, M)) (K : ∀ v post, R' v post → GH c n ops Lq fuel (listed.setIfInBounds i true) ((d, v) :: env) (post ++ L2) k) : GHop c n ops Lq fuel listed env L k i := by
  intro a w hk hm hw
  refine ghop_of ho (wanted_of hk hg) ?_
  have hx : xs.map a.eval = args.toArray := by
    apply Array.toList_inj.1
    simpa using hk.evals hxs
  have hr : (execOp a.eval o).run c.P w = .ok (.enter g (args ++ vs).toArray) w := by
    unfold execOp
    simp only [hop, resolve, hk.eval hfn, hx]
    simp [Deferred.ofValue, invoke, hcf]
  rw [hr, Oper.upon_enter]
  refine (hct w (hm.has_call hL hA)).mono fun e w' ⟨v, post, he, hR, hp⟩ => ?_
  subst he
  simp only [hd]
  have hm' := hm.call hL hA hp
  obtain ⟨M', hM⟩ := hq v post hR
  exact ⟨hs_of hm' hM, K v post hR _ w' (hk.put hn v) hm' (hs_of hm' hM)⟩
end
end Go.Proofs.YtkekkalgebgokaaDoor
