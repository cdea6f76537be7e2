/- Blocks of unknown number that a call owns. No program in sight. -/
import Derived.Test.YtkekkalgebgokaaDoorG17
import Derived.Lib.Bytealg
set_option linter.unusedSimpArgs false
set_option linter.unusedVariables false
namespace Go.Proofs.YtkekkalgebgokaaDoor
open Go Go.RowKit

section
variable {c : Cx} {n : Nat} {env : List (Nat × Value)} {L : List (Option Nat × Obj)} {k : List Item}
theorem G_perm {todo : List Item} {L' : List (Option Nat × Obj)} (hp : L.Perm L') (h : G c n env L' todo) : G c n env L todo :=
  fun a w hk hm => h a w hk (hm.sub (L' := L') (R := []) (by simpa using hp))
/-- What is kept: some blocks by their places, and of the others those of a list. -/
theorem G_subT {todo : List Item} {e : List (Nat × Value)} {L1 T : List (Option Nat × Obj)} (he : FSub e env) (is : List Nat) (hl : ∃ M R, tk is L = some (L1, M) ∧ M.Perm (T ++ R)) (h : G c n e (L1 ++ T) todo) : G c n env L todo :=
  let ⟨_, _, hl, hp⟩ := hl
  fun a w hk hm => h a w (hk.sub he) (hm.sub (R := _) ((tk_perm hl).trans (by
    rw [List.append_assoc]
    exact hp.append_left _)))
theorem G_loop1 {body : Code} (h : G c n env L (.code body :: .inLoop body :: k)) : G c n env L (.code (.loop body) :: k) := fun a w hk hm => goes_of (fun _ _ => step_loop) (h a w hk hm)
theorem G_again {body : Code} (h : G c n env L (.code body :: .inLoop body :: k)) : G c n env L (.inLoop body :: k) := fun a w hk hm => goes_of (fun _ _ => step_inLoop) (h a w hk hm)
theorem G_retT {fn : Func} {rs : List ResultVar} {vs : List Value} {p1 T : List (Option Nat × Obj)} (hf : c.P.funcs[c.f]? = some fn) (hr : fn.results = rs.toArray)
    (hv : RVs c n env L rs vs) (is : List Nat) (hl : ∃ M R, tk is L = some (p1, M) ∧ M.Perm (T ++ R)) (hR : c.R (packed vs) (p1 ++ T)) (hds : c.ds = [] := by rfl) : G c n env L (.code .ret :: k) := by
  obtain ⟨M, R, hl, hp⟩ := hl
  intro a w hk hm b hb hkind cs
  have h3 := goes_ret (post := p1 ++ T) hr hv hk hm
  have hm' : Mem c.w0 c.A c.S (p1 ++ T) w := hm.sub (R := R) ((tk_perm hl).trans (by rw [List.append_assoc]; exact hp.append_left _))
  exact ⟨packed vs, p1 ++ T, w, _, hR, hm'.dropA, .one step_ret, hb, rfl, hk.defers.trans hds, hkind, fn, by rw [← hf, ← hb]; rfl, h3⟩
theorem G_callMC {ops : Array Oper} {i : Nat} {rest : List Nat} {o : Oper} {d : Nat} {g : FuncId} {x : Operand} {xs : Array Operand} {ts : Array TypeId} {args vs : List Value} {A' L' L2 : List (Option Nat × Obj)} {R' : Value → List (Option Nat × Obj) → Prop}
    (ho : ops[i]? = some o) (hd : o.dst = some d) (hn : Nat.blt d n = true) (hg : fguard ops env o = some true) (hop : o.op = .call ⟨.value x, xs, ts⟩) (hxs : fevs env xs.toList = some args)
    (hcf : ∀ (az : Array Value) w, (callFunc g az).run c.P w = .ok (.enter g az) w) (hfn : fev env x = some (.func (.func g) #[] vs.toArray)) (hct : Ct c.P g (args ++ vs) A' L' R') (is : List Nat) (hL : tk is L = some (L', L2)) (hA : ∀ x ∈ A', x ∈ c.A ++ L2)
    (K : ∀ v post, R' v post → G c n ((d, v) :: env) (post ++ L2) (.inRegion ops rest :: k)) : G c n env L (.inRegion ops (i :: rest) :: k) := by
  intro a w hk hm
  refine goes_op ho (wanted_of hk hg) ?_
  have hx : xs.map a.eval = args.toArray := by
    apply Array.toList_inj.1
    simpa using hk.evals hxs
  have hr : (execOp a.eval o).run c.P w = .ok (.enter g (args ++ vs).toArray) w := by
    unfold execOp
    simp only [hop, resolve, hk.eval hfn, hx]
    simp [Deferred.ofValue, invoke, hcf]
  rw [hr, Oper.upon_enter]
  refine (hct w (hm.has_callP (tk_perm hL) hA)).mono fun e w' ⟨v, post, he, hR, hp⟩ => ?_
  subst he
  simp only [hd]
  exact K v post hR _ w' (hk.put hn v) (hm.callP (tk_perm hL) hp)
theorem GHop_callM {ops : Array Oper} {Lq : List (Option Nat × Obj)} {fuel : Nat} {listed : Array Bool} {o : Oper} {i d : Nat} {g : FuncId} {xs : Array Operand} {ts : Array TypeId} {args : List Value} {A' L' L2 : List (Option Nat × Obj)} {R' : Value → List (Option Nat × Obj) → Prop}
    (ho : ops[i]? = some o) (hd : o.dst = some d) (hn : Nat.blt d n = true) (hg : fguard ops env o = some true) (hop : o.op = .call ⟨.value (.func g), xs, ts⟩) (hxs : fevs env xs.toList = some args)
    (hcf : ∀ (az : Array Value) w, (callFunc g az).run c.P w = .ok (.enter g az) w) (hct : Ct c.P g args A' L' R') (is : List Nat) (hL : tk is L = some (L', L2)) (hA : ∀ x ∈ A', x ∈ c.A ++ L2)
    (isq : List Nat) (hq : ∀ v post, R' v post → ∃ M, tk isq (post ++ L2) = some (Lq, M)) (K : ∀ v post, R' v post → GH c n ops Lq fuel (listed.setIfInBounds i true) ((d, v) :: env) (post ++ L2) k) : GHop c n ops Lq fuel listed env L k i := by
  intro a w hk hm hw
  refine ghop_of ho (wanted_of hk hg) ?_
  have hx : xs.map a.eval = args.toArray := by
    apply Array.toList_inj.1
    simpa using hk.evals hxs
  have hr : (execOp a.eval o).run c.P w = .ok (.enter g args.toArray) w := by
    unfold execOp
    simp [hop, resolve, Act.eval, Deferred.ofValue, hx, invoke, hcf]
  rw [hr, Oper.upon_enter]
  refine (hct w (hm.has_callP (tk_perm hL) hA)).mono fun e w' ⟨v, post, he, hR, hp⟩ => ?_
  subst he
  simp only [hd]
  have hm' := hm.callP (tk_perm hL) hp
  obtain ⟨M', hM⟩ := hq v post hR
  exact ⟨hs_of hm' hM, K v post hR _ w' (hk.put hn v) hm' (hs_of hm' hM)⟩
theorem GQ_callM {ops : Array Oper} {i : Nat} {o : Oper} {d : Nat} {g : FuncId} {xs : Array Operand} {ts : Array TypeId} {args : List Value} {A' : List (Option Nat × Obj)} {R' : Value → List (Option Nat × Obj) → Prop} {v0 : Value}
    (ho : ops[i]? = some o) (hd : o.dst = some d) (hn : Nat.blt d n = true) (hg : fguard ops env o = some true) (hop : o.op = .call ⟨.value (.func g), xs, ts⟩) (hxs : fevs env xs.toList = some args)
    (hcf : ∀ (az : Array Value) w, (callFunc g az).run c.P w = .ok (.enter g az) w) (hct : Ct c.P g args A' [] R') (hA : ∀ x ∈ A', x ∈ c.A ++ L) (hv : ∀ v post, R' v post → v = v0)
    (h : GQ c n ops ((d, v0) :: env) L (i + 1) k) : GQ c n ops env L i k := by
  intro a hk
  rw [drop_at ho]
  simp only [wpQuiet]
  rw [if_pos (wanted_of hk hg)]
  refine ⟨v0, fun w hm => ?_, ?_⟩
  · have hx : xs.map a.eval = args.toArray := by
      apply Array.toList_inj.1
      simpa using hk.evals hxs
    have hr : (execOp a.eval o).run c.P w = .ok (.enter g args.toArray) w := by
      unfold execOp
      simp [hop, resolve, Act.eval, Deferred.ofValue, hx, invoke, hcf]
    unfold Oper.quietAt
    rw [hr]
    have hL : tk [] L = some ([], L) := rfl
    refine ⟨rfl, (hct w (hm.has_callP (tk_perm hL) hA)).mono fun e w' ⟨v, post, he, hR, hp⟩ => ?_⟩
    have := hv v post hR
    subst this
    exact ⟨he, (hm.callP (tk_perm hL) hp).sub (L' := L) List.perm_append_comm⟩
  · rw [hd]
    exact h _ (hk.put hn v0)
end
theorem ext_indexByte {P : Program} (l : List UInt8) (x : UInt8) (w : World) : (Extern.BytealgIndexByte.indexByte #[.string (bs l), .int .u8 (x.toNat : Int)]).run P w = .ok (.int .i64 (Lib.indexByte l x)) w := by
  rw [Lib.run_indexByteString]
  simp [bs]
theorem perm_in {α : Type} (P F T T' : List α) : ((P ++ T') ++ (F ++ T)).Perm (P ++ F ++ (T' ++ T)) := by
  rw [List.append_assoc, List.append_assoc]
  refine List.Perm.append_left P ?_
  rw [← List.append_assoc, ← List.append_assoc]
  exact List.Perm.append_right T List.perm_append_comm
theorem perm_in0 {α : Type} (P F T' : List α) : ((P ++ T') ++ F).Perm (P ++ F ++ T') := by
  rw [List.append_assoc, List.append_assoc]
  exact List.Perm.append_left P List.perm_append_comm
theorem perm_bk {α β : Type} (f : β → α) (ms : List β) (m : β) (J1 J2 : List α) : (J1 ++ (f m :: (J2 ++ ms.map f))).Perm ((ms ++ [m]).map f ++ (J1 ++ J2)) := by
  rw [List.map_append, List.map_singleton]
  have h1 : (J1 ++ (f m :: (J2 ++ ms.map f))).Perm (f m :: (J1 ++ (J2 ++ ms.map f))) := List.perm_middle
  have h2 : (J1 ++ (J2 ++ ms.map f)).Perm (ms.map f ++ (J1 ++ J2)) := by rw [← List.append_assoc]; exact List.perm_append_comm
  refine h1.trans ((List.Perm.cons _ h2).trans ?_)
  rw [List.append_assoc]
  exact List.perm_middle.symm
end Go.Proofs.YtkekkalgebgokaaDoor
