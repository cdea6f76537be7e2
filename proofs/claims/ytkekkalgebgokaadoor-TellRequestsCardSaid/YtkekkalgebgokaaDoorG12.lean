/- More operations: an empty slice that is not nil. No program in sight. -/
import Derived.Test.YtkekkalgebgokaaDoorG11
import Derived.Lib.MakeNoZero
set_option linter.unusedSimpArgs false
set_option linter.unusedVariables false
namespace Go.Proofs.YtkekkalgebgokaaDoor
open Go Go.RowKit

section
variable {c : Cx} {n : Nat} {env : List (Nat × Value)} {L : List (Option Nat × Obj)} {k : List Item} {o : Oper}
theorem N_build0 {t e : TypeId} {ti : TypeInfo} (hop : o.op = .buildSlice t 0 #[]) (hu : c.P.underlying t = some (.slice e)) (hi : c.P.info? e = some ti) :
    New c n env L o (fun b => .slice (some ⟨b, 0, none⟩) 0 0) (.cells #[] e (0, 0)) := fun a w hk _ => by
  simp only [execOp, hop]
  simp [Instr.buildSlice, run_underlying hu, sizeOf, typeInfo, hi, newRow, Instr.fill]
  exact congrArg (fun x => w.alloc (Obj.cells x e)) (by simp)
/-- A call of a function value that has its first arguments. -/
theorem G_callB {ops : Array Oper} {i : Nat} {rest : List Nat} {d : Nat} {g : FuncId} {x : Operand} {xs : Array Operand} {ts : Array TypeId} {us args vs : List Value} {A' L' L2 : List (Option Nat × Obj)} {R' : Value → List (Option Nat × Obj) → Prop}
    (ho : ops[i]? = some o) (hd : o.dst = some d) (hn : Nat.blt d n = true) (hg : fguard ops env o = some true) (hop : o.op = .call ⟨.value x, xs, ts⟩) (hxs : fevs env xs.toList = some args)
    (hcf : ∀ (az : Array Value) w, (callFunc g az).run c.P w = .ok (.enter g az) w) (hfn : fev env x = some (.func (.func g) us.toArray vs.toArray)) (hct : Ct c.P g (us ++ args ++ vs) A' L' R') (is js : List Nat) (hL : tk is L = some (L', L2)) (hA : pk js (c.A ++ L2) = some A')
    (K : ∀ v post, R' v post → G c n ((d, v) :: env) (post ++ L2) (.inRegion ops rest :: k)) : G c n env L (.inRegion ops (i :: rest) :: k) := by
  intro a w hk hm
  refine goes_op ho (wanted_of hk hg) ?_
  have hx : xs.map a.eval = args.toArray := by
    apply Array.toList_inj.1
    simpa using hk.evals hxs
  have hr : (execOp a.eval o).run c.P w = .ok (.enter g (us ++ args ++ vs).toArray) w := by
    unfold execOp
    simp only [hop, resolve, hk.eval hfn, hx]
    simp [Deferred.ofValue, invoke, hcf]
  rw [hr, Oper.upon_enter]
  refine (hct w (hm.has_call hL hA)).mono fun e w' ⟨v, post, he, hR, hp⟩ => ?_
  subst he
  simp only [hd]
  exact K v post hR _ w' (hk.put hn v) (hm.call hL hA hp)

theorem V_cap {x : Operand} {t e : TypeId} {ts : Array TypeId} {ty : TypeId} {p : String} {es : Array Edge} {gd : Option (Nat × Bool)} {d : Option Tmp} {b : Option Addr} {i j : Nat} (hop : o = ⟨d, .call ⟨.builtin .cap, #[x], ts⟩, ty, p, es, gd⟩) (ht : ts[0]? = some t) (hu : c.P.underlying t = some (.slice e)) (hx : fev env x = some (.slice b i j)) : Val c n env L o (.int .i64 (j : Int)) := fun a w hk _ => by
  subst hop
  have h1 := hk.eval hx
  simp [execOp, h1, resolve, invoke, builtin, Builtin.cap_, ht, run_underlying hu, goInt]
theorem V_copy0 {x y : Operand} {t e off b dc sc : Nat} {ts : Array TypeId} {ty : TypeId} {p : String} {es : Array Edge} {gd : Option (Nat × Bool)} {d : Option Tmp} {ti : TypeInfo}
    (hop : o = ⟨d, .call ⟨.builtin .copy, #[x, y], ts⟩, ty, p, es, gd⟩) (ht : ts[0]? = some t) (hu : c.P.underlying t = some (.slice e)) (hs : c.P.info? e = some ti) (hx : fev env x = some (.slice (some ⟨b, off, none⟩) 0 dc)) (hy : fev env y = some (.slice none 0 sc)) : Val c n env L o (.int .i64 0) := fun a w hk _ => by
  subst hop
  have h0 := run_firstCells_none (P := c.P) w ti.size 0 0 sc
  simp [execOp, hk.eval hx, hk.eval hy, resolve, invoke, builtin, Builtin.copy_, ht, run_underlying hu, Builtin.lenOf, sizeOf, typeInfo, hs, goInt, h0]
  rfl
theorem V_min3 {x y z : Operand} {q : IntKind} {p r s : Int} {xs : Array TypeId} {ty : TypeId} {ps : String} {es : Array Edge} {gd : Option (Nat × Bool)} {d : Option Tmp} (hop : o = ⟨d, .call ⟨.builtin .min, #[x, y, z], xs⟩, ty, ps, es, gd⟩) (hx : fev env x = some (.int q p)) (hy : fev env y = some (.int q r)) (hz : fev env z = some (.int q s)) : Val c n env L o (.int q (min (min p r) s)) := fun a w hk _ => by
  subst hop
  simp only [execOp, resolve, invoke, builtin, Sem.run_bind, Sem.run_pure, Result.andThen_ok, List.map_toArray, List.map_cons, List.map_nil, hk.eval hx, hk.eval hy, hk.eval hz]
  have e : ∀ a b : Int, (if b < a then b else a) = min a b := fun a b => by split <;> omega
  simp [Builtin.min_, Builtin.min2, e]

-- maps
theorem run_getObj1 {P : Program} {w : World} {r : Nat} {es : Array MapEntry} {ck : Nat} (h : w.heap[r]? = some (.map es ck)) : (getObj r).run P w = .ok (.map es ck) w := by
  unfold getObj
  simp only [Sem.run, h]
theorem run_setObj1 {P : Program} {w : World} {r : Nat} {es : Array MapEntry} {ck : Nat} {ob' : Obj} (h : w.heap[r]? = some (.map es ck)) : (setObj r ob').run P w = .ok () { w with heap := w.heap.setIfInBounds r ob' } := by
  unfold setObj
  simp only [Sem.run, h]
/-- A map is made. -/
theorem N_map {t : TypeId} (hop : o.op = .makeMap t none) : New c n env L o (fun b => .map (some b)) (.map #[] 0) := fun a w hk _ => by
  simp only [execOp, hop]
  simp [Instr.makeMap, newObj]
  rfl
def plainKey : TypeDesc → Bool
  | .interface _ | .array _ _ | .struct _ => false
  | _ => true
theorem run_checkKey {P : Program} {w : World} {b : Bool} {t : TypeId} {d : TypeDesc} {v : Value} (ht : P.underlying t = some d) (hp : plainKey d = true) : (Instr.checkKey b 10000 t v).run P w = .ok () w := by
  unfold Instr.checkKey
  cases d <;> first | (cases hp; done) | simp [run_underlying ht]
theorem P_insert {x y z : Operand} {t kt et : TypeId} {kd : TypeDesc} {b clock : Nat} {es : List MapEntry} {kv v : Value} (hop : o.op = .insert t x y z) (ht : c.P.underlying t = some (.map kt et)) (hkt : c.P.underlying kt = some kd) (hp : plainKey kd = true)
    (hx : fev env x = some (.map (some b))) (hy : fev env y = some kv) (hz : fev env z = some v) (hm : (some b, Obj.map es.toArray clock) ∈ L) (hf : Instr.findNow kd kv es 0 = some none) :
    Put c n env L o b (.map (es ++ [(⟨kv, v, clock⟩ : MapEntry)]).toArray (clock + 1)) := fun a w hk hmm => by
  have h1 := hmm.lies hm
  refine ⟨{ w with heap := w.heap.setIfInBounds b (.map (es ++ [(⟨kv, v, clock⟩ : MapEntry)]).toArray (clock + 1)) }, ?_, rfl, rfl, rfl, by simp, ?_, fun k hk => ?_⟩
  · simp only [execOp, hop, hk.eval hx, hk.eval hy, hk.eval hz]
    simp [Instr.mapUpdate, run_underlying ht, run_getObj1 h1, run_setObj1 h1, run_checkKey hkt hp, Instr.findKey, run_underlying hkt, hf]
  · have := lt_of_lies h1
    simp [this]
  · simp only [Array.getElem?_setIfInBounds]
    rw [if_neg (fun e => hk e.symm)]
theorem V_lookup {x y : Operand} {t kt et : TypeId} {kd : TypeDesc} {b clock : Nat} {es : List MapEntry} {kv v : Value} {j : Nat} (hop : o.op = .lookup t x y false) (ht : c.P.underlying t = some (.map kt et)) (hkt : c.P.underlying kt = some kd) (hp : plainKey kd = true)
    (hx : fev env x = some (.map (some b))) (hy : fev env y = some kv) (hm : (some b, Obj.map es.toArray clock) ∈ c.A ++ L) (hf : Instr.findNow kd kv es 0 = some (some (j, v))) : Val c n env L o v := fun a w hk hmm => by
  have h1 := hmm.has.both hm
  simp only [execOp, hop, hk.eval hx, hk.eval hy]
  simp [Instr.lookup, run_underlying ht, run_getObj1 h1, run_checkKey hkt hp, Instr.findKey, run_underlying hkt, hf]
theorem V_lookupN {x y : Operand} {t kt et : TypeId} {kd : TypeDesc} {b clock : Nat} {es : List MapEntry} {kv zv : Value} {ti : TypeInfo} (hop : o.op = .lookup t x y false) (ht : c.P.underlying t = some (.map kt et)) (hkt : c.P.underlying kt = some kd) (hp : plainKey kd = true)
    (hi : c.P.info? et = some ti) (hzv : ti.zero = some zv)
    (hx : fev env x = some (.map (some b))) (hy : fev env y = some kv) (hm : (some b, Obj.map es.toArray clock) ∈ c.A ++ L) (hf : Instr.findNow kd kv es 0 = some none) : Val c n env L o zv := fun a w hk hmm => by
  have h1 := hmm.has.both hm
  simp only [execOp, hop, hk.eval hx, hk.eval hy]
  simp [Instr.lookup, run_underlying ht, run_getObj1 h1, run_checkKey hkt hp, Instr.findKey, run_underlying hkt, hf, zeroValue, typeInfo, hi, hzv]
/-- A map's entries, as they were laid. -/
def entries (q : IntKind) : List (Int × Value) → Nat → List MapEntry
  | [], _ => []
  | (k, v) :: r, i => ⟨.int q k, v, i⟩ :: entries q r (i + 1)
theorem entries_snoc (q : IntKind) (k : Int) (v : Value) : ∀ (d : List (Int × Value)) (i : Nat), entries q (d ++ [(k, v)]) i = entries q d i ++ [(⟨.int q k, v, i + d.length⟩ : MapEntry)]
  | [], i => rfl
  | p :: d, i => by
    simp only [List.cons_append, entries, entries_snoc q k v d (i + 1), List.length_cons]
    rw [show i + 1 + d.length = i + (d.length + 1) by omega]
theorem find_none {q q' : IntKind} {k : Int} : ∀ (d : List (Int × Value)) (i j : Nat), (∀ p ∈ d, p.1 ≠ k) → Instr.findNow (.int q') (.int q k) (entries q d i) j = some none
  | [], i, j, _ => rfl
  | p :: d, i, j, h => by
    have h1 : ¬ k = p.1 := fun e => h p (by simp) e.symm
    simp only [entries, Instr.findNow, Instr.sameNow, if_true]
    have h2 : (k == p.1) = false := by simpa using h1
    rw [h2]
    exact find_none d (i + 1) (j + 1) (fun x hx => h x (by simp [hx]))
theorem find_some {q q' : IntKind} {k : Int} {v : Value} : ∀ (d : List (Int × Value)) (i j : Nat), (d.map (·.1)).Nodup → (k, v) ∈ d → ∃ m, Instr.findNow (.int q') (.int q k) (entries q d i) j = some (some (m, v))
  | [], _, _, _, h => by cases h
  | p :: d, i, j, hn, h => by
    simp only [List.map_cons, List.nodup_cons] at hn
    simp only [entries, Instr.findNow, Instr.sameNow, if_true]
    rcases List.mem_cons.1 h with rfl | h
    · simp
    · have h1 : ¬ k = p.1 := fun e => hn.1 (by rw [← e]; exact List.mem_map.2 ⟨_, h, rfl⟩)
      have h2 : (k == p.1) = false := by simpa using h1
      rw [h2]
      exact find_some d (i + 1) (j + 1) hn.2 h
theorem find_perm {q q' : IntKind} {k : Int} {v : Value} {d l : List (Int × Value)} (hd : d.Perm l) (hn : (l.map (·.1)).Nodup) (h : (k, v) ∈ l) : ∃ m, Instr.findNow (.int q') (.int q k) (entries q d 0) 0 = some (some (m, v)) :=
  find_some d 0 0 ((hd.map _).nodup_iff.2 hn) (hd.mem_iff.2 h)
theorem find_permN {q q' : IntKind} {k : Int} {d l : List (Int × Value)} (hd : d.Perm l) (h : ∀ p ∈ l, p.1 ≠ k) : Instr.findNow (.int q') (.int q k) (entries q d 0) 0 = some none :=
  find_none d 0 0 (fun p hp => h p (hd.mem_iff.1 hp))

/-- Operations that lay entries into one map. -/
def InsAll (ops : Array Oper) (env : List (Nat × Value)) (t : TypeId) (b : Nat) (q : IntKind) : List (Nat × Int × Value) → Prop
  | [] => True
  | (i, k, v) :: r => (∃ (o : Oper) (x y z : Operand), ops[i]? = some o ∧ o.dst = none ∧ fguard ops env o = some true ∧ o.op = .insert t x y z ∧ fev env x = some (.map (some b)) ∧ fev env y = some (.int q k) ∧ fev env z = some v) ∧ InsAll ops env t b q r
theorem InsAll_nil {ops : Array Oper} {env : List (Nat × Value)} {t : TypeId} {b : Nat} {q : IntKind} : InsAll ops env t b q [] := trivial
theorem InsAll_cons {ops : Array Oper} {env : List (Nat × Value)} {t : TypeId} {b : Nat} {q : IntKind} (i : Nat) {k : Int} {v : Value} {r : List (Nat × Int × Value)} {o : Oper} {x y z : Operand} (ho : ops[i]? = some o) (hd : o.dst = none) (hg : fguard ops env o = some true) (hop : o.op = .insert t x y z)
    (hx : fev env x = some (.map (some b))) (hy : fev env y = some (.int q k)) (hz : fev env z = some v) (h : InsAll ops env t b q r) : InsAll ops env t b q ((i, k, v) :: r) := ⟨⟨o, x, y, z, ho, hd, hg, hop, hx, hy, hz⟩, h⟩
theorem InsAll.mem {ops : Array Oper} {env : List (Nat × Value)} {t : TypeId} {b : Nat} {q : IntKind} : ∀ {l : List (Nat × Int × Value)}, InsAll ops env t b q l → ∀ p ∈ l, ∃ (o : Oper) (x y z : Operand), ops[p.1]? = some o ∧ o.dst = none ∧ fguard ops env o = some true ∧ o.op = .insert t x y z ∧ fev env x = some (.map (some b)) ∧ fev env y = some (.int q p.2.1) ∧ fev env z = some p.2.2
  | [], _, p, hp => by cases hp
  | (i, k, v) :: r, h, p, hp => by
    rcases List.mem_cons.1 hp with rfl | hp
    · exact h.1
    · exact InsAll.mem h.2 p hp
def insCheck (ops : Array Oper) (listed F : Array Bool) (is : List Nat) : Bool :=
  listed.size == F.size && is.all (fun i => (Region.ready .any ops listed).contains i) &&
  (List.range F.size).all (fun j => is.contains j || listed.getD j true == F.getD j true) && is.all (fun i => F.getD i false) &&
  (List.range F.size).all (fun j => listed.getD j true || is.contains j || is.all fun i => ((ops[j]?).map fun o => o.after.any fun e => Region.binds .any e && e.on == i).getD false)
theorem own_empty (sz b : Nat) : Own sz ⟨some b, #[], (0, 0), 0⟩ [] 0 := ⟨by simp, Nat.le_refl _, by simp, by simp, by simp, by simp, fun h => by cases h⟩

variable {ops : Array Oper} {Lq : List (Option Nat × Obj)} {fuel : Nat} {listed : Array Bool}
theorem GH_inserts_aux {t kt et : TypeId} {q : IntKind} {b : Nat} {l1 l2 : List (Option Nat × Obj)} {F listed0 : Array Bool} {fuel : Nat} {ins : List (Nat × Int × Value)}
    (ht : c.P.underlying t = some (.map kt et)) (hkt : c.P.underlying kt = some (.int q)) (hin : InsAll ops env t b q ins) (hnd : (ins.map (·.2.1)).Nodup)
    (hT : ∀ j, listed0.getD j true = false → j ∉ ins.map (·.1) → ∀ i ∈ ins.map (·.1), ∃ o, ops[j]? = some o ∧ ∃ e ∈ o.after, Region.binds .any e = true ∧ e.on = i)
    (hF : ∀ i ∈ ins.map (·.1), F.getD i true = true) (hF0 : ∀ j, j ∉ ins.map (·.1) → listed0.getD j true = F.getD j true)
    (h : ∀ done : List (Int × Value), done.Perm (ins.map (·.2)) → GH c n ops [] fuel F env (l1 ++ (some b, .map (entries q done 0).toArray done.length) :: l2) k) :
    ∀ (m : Nat) (R : List (Nat × Int × Value)) (D : List (Nat × Int × Value)) (listed : Array Bool), R.length = m → (D ++ R).Perm ins → (∀ i ∈ R.map (·.1), i ∈ Region.ready .any ops listed) → listed.size = F.size →
      (∀ j, j ∉ R.map (·.1) → listed.getD j true = F.getD j true) → (ins.map (·.1)).Nodup →
      GH c n ops [] (fuel + m) listed env (l1 ++ (some b, .map (entries q (D.map (·.2)) 0).toArray D.length) :: l2) k
  | 0, R, D, listed, hm, hp, _, hs, hl, _ => by
    have hR : R = [] := List.eq_nil_of_length_eq_zero hm
    subst hR
    rw [List.append_nil] at hp
    have e : listed = F := by
      apply Array.ext hs
      intro j h1 h2
      have := hl j (by simp)
      simpa [h1, h2] using this
    subst e
    have := h (D.map (·.2)) (hp.map _)
    rw [List.length_map] at this
    exact this
  | m + 1, R, D, listed, hm, hp, hr, hs, hl, hni => by
    intro a w hk hmm hw
    have hRne : R ≠ [] := fun e => by rw [e] at hm; cases hm
    obtain ⟨r0, R0, hR0⟩ := List.exists_cons_of_ne_nil hRne
    refine ⟨fun h0 => ?_, fun i hi => ?_⟩
    · have := hr r0.1 (by rw [hR0]; simp)
      rw [h0] at this
      cases this
    · have hiR : i ∈ R.map (·.1) := by
        refine Classical.byContradiction fun hn => ?_
        obtain ⟨hun, o, ho, hall⟩ := mem_ready.1 hi
        have hun' : F.getD i true = false := by rw [← hl i hn]; exact hun
        have hni' : i ∉ ins.map (·.1) := fun hm => by rw [hF i hm] at hun'; cases hun'
        have hr0 : r0.1 ∈ ins.map (·.1) := (hp.map (·.1)).mem_iff.1 (by rw [hR0]; simp)
        obtain ⟨o', ho', e, he, hb, hon⟩ := hT i (by rw [hF0 i hni']; exact hun') hni' r0.1 hr0
        rw [ho] at ho'
        cases ho'
        have h1 := hall e he hb
        rw [hon] at h1
        obtain ⟨h2, _⟩ := mem_ready.1 (hr r0.1 (by rw [hR0]; simp))
        rcases hx : listed[r0.1]? with _ | x
        · simp [hx] at h2
        · simp [hx] at h1 h2
          rw [h1] at h2
          cases h2
      obtain ⟨p, hpR, rfl⟩ := List.mem_map.1 hiR
      obtain ⟨R1, R2, rfl⟩ := List.append_of_mem hpR
      have hpin : p ∈ ins := hp.mem_iff.1 (by simp)
      obtain ⟨o, x, y, z, ho, hd, hg, hop, hx, hy, hz⟩ := hin.mem p hpin
      have hnR : ((D ++ (R1 ++ p :: R2)).map (·.1)).Nodup := (hp.map _).nodup_iff.2 hni
      have hnK : ((D ++ (R1 ++ p :: R2)).map (·.2.1)).Nodup := (hp.map _).nodup_iff.2 hnd
      have hkD : ∀ s ∈ D.map (·.2), s.1 ≠ p.2.1 := by
        intro s hs e
        obtain ⟨d, hd, rfl⟩ := List.mem_map.1 hs
        rw [List.map_append, List.nodup_append] at hnK
        exact hnK.2.2 d.2.1 (List.mem_map.2 ⟨d, hd, rfl⟩) p.2.1 (List.mem_map.2 ⟨p, by simp, rfl⟩) e
      have hpR12 : p.1 ∉ (R1 ++ R2).map (·.1) := by
        rw [List.map_append, List.nodup_append] at hnR
        have h2 := hnR.2.1
        rw [List.map_append, List.map_cons, List.nodup_append] at h2
        obtain ⟨_, h3, h4⟩ := h2
        intro hm
        rw [List.map_append, List.mem_append] at hm
        rcases hm with hm | hm
        · exact h4 _ hm _ (by simp) rfl
        · exact (List.nodup_cons.1 h3).1 hm
      have hput : Put c n env (l1 ++ (some b, .map (entries q (D.map (·.2)) 0).toArray D.length) :: l2) o b (.map (entries q (D.map (·.2)) 0 ++ [(⟨.int q p.2.1, p.2.2, D.length⟩ : MapEntry)]).toArray (D.length + 1)) :=
        P_insert hop ht hkt rfl hx hy hz (by simp) (find_none _ 0 0 hkD)
      refine GHop_put (l1 := l1) (l2 := l2) (M := l1 ++ (some b, .map (entries q (D.map (·.2)) 0 ++ [(⟨.int q p.2.1, p.2.2, D.length⟩ : MapEntry)]).toArray (D.length + 1)) :: l2) ho hd hg rfl hput rfl [] rfl ?_ a w hk hmm hw
      have ih := GH_inserts_aux ht hkt hin hnd hT hF hF0 h m (R1 ++ R2) (D ++ [p]) (listed.setIfInBounds p.1 true) (by simp at hm ⊢; omega)
        (List.Perm.trans (by simp [List.append_assoc]; exact List.Perm.append_left _ List.perm_middle.symm) hp)
        (fun j hj => ready_mono (hr j (by
          rw [List.map_append, List.mem_append] at hj
          rw [List.map_append, List.map_cons, List.mem_append, List.mem_cons]
          rcases hj with hj | hj
          · exact .inl hj
          · exact .inr (.inr hj))) (fun e => hpR12 (e ▸ hj)))
        (by simpa using hs)
        (fun j hj => by
          by_cases e : p.1 = j
          · subst e
            rw [hF p.1 ((hp.map (·.1)).mem_iff.1 (by simp))]
            rcases Nat.lt_or_ge p.1 listed.size with hlt | hge
            · simp [hlt]
            · simp [hge]
          · rw [getD_set_ne true e]
            apply hl
            rw [List.map_append, List.map_cons, List.mem_append, List.mem_cons]
            rw [List.map_append, List.mem_append] at hj
            rintro (h1 | h1 | h1)
            · exact hj (.inl h1)
            · exact e h1.symm
            · exact hj (.inr h1)) hni
      rw [List.map_append, List.length_append] at ih
      have e : entries q (D.map (·.2) ++ [p].map (·.2)) 0 = entries q (D.map (·.2)) 0 ++ [(⟨.int q p.2.1, p.2.2, D.length⟩ : MapEntry)] := by
        have := entries_snoc q p.2.1 p.2.2 (D.map (·.2)) 0
        rw [List.length_map, Nat.zero_add] at this
        exact this
      rw [e] at ih
      exact ih
theorem GH_inserts {t kt et : TypeId} {q : IntKind} {b : Nat} {l1 l2 : List (Option Nat × Obj)} {F : Array Bool} {fuel m : Nat} {ins : List (Nat × Int × Value)}
    (ht : c.P.underlying t = some (.map kt et)) (hkt : c.P.underlying kt = some (.int q)) (hin : InsAll ops env t b q ins) (hm : ins.length = m) (hnd : (ins.map (·.2.1)).Nodup) (hni : (ins.map (·.1)).Nodup) (hc : insCheck ops listed F (ins.map (·.1)) = true)
    (h : ∀ done : List (Int × Value), done.Perm (ins.map (·.2)) → GH c n ops [] fuel F env (l1 ++ (some b, .map (entries q done 0).toArray done.length) :: l2) k) :
    GH c n ops [] (fuel + m) listed env (l1 ++ (some b, .map #[] 0) :: l2) k := by
  unfold insCheck at hc
  simp only [Bool.and_eq_true, List.all_eq_true, List.mem_range, beq_iff_eq, Bool.or_eq_true, List.contains_iff_mem] at hc
  obtain ⟨⟨⟨⟨c1, c2⟩, c3⟩, c4⟩, c5⟩ := hc
  have hout : ∀ (A : Array Bool) j, ¬ j < A.size → A.getD j true = true := fun A j hj => by simp [Nat.le_of_not_lt hj]
  refine GH_inserts_aux (listed0 := listed) ht hkt hin hnd ?_ ?_ ?_ h m ins [] listed hm (by simp) (fun i hi => c2 i hi) c1 ?_ hni
  · intro j hj hn i hi
    have hlt : j < F.size := Classical.byContradiction fun hge => by rw [hout listed j (by omega)] at hj; cases hj
    rcases c5 j hlt with (h1 | h1) | h1
    · rw [hj] at h1; cases h1
    · exact absurd h1 hn
    · have := h1 i hi
      rcases ho : ops[j]? with _ | o
      · rw [ho] at this; cases this
      · rw [ho] at this
        simp only [Option.map_some, Option.getD_some, Array.any_eq_true'] at this
        obtain ⟨e, he, h2⟩ := this
        simp only [Bool.and_eq_true, beq_iff_eq] at h2
        exact ⟨o, rfl, e, he, h2.1, h2.2⟩
  · intro i hi
    have := c4 i hi
    rcases hx : F[i]? with _ | x
    · simp [hx]
    · simpa [hx] using this
  · intro j hj
    by_cases hlt : j < F.size
    · rcases c3 j hlt with h1 | h1
      · exact absurd h1 hj
      · exact h1
    · rw [hout F j hlt, hout listed j (by omega)]
  · intro j hj
    by_cases hlt : j < F.size
    · rcases c3 j hlt with h1 | h1
      · exact absurd h1 hj
      · exact h1
    · rw [hout F j hlt, hout listed j (by omega)]
theorem GHop_mnz {i d m : Nat} {f : FuncId} {fn : Func} {xs : Array Operand} {ts ps : Array TypeId} {t e : TypeId} (ho : ops[i]? = some o) (hd : o.dst = some d) (hn : Nat.blt d n = true) (hg : fguard ops env o = some true) (hop : o.op = .call ⟨.value (.func f), xs, ts⟩) (hxs : fevs env xs.toList = some [.int .i64 (m : Int)])
    (hf : c.P.funcs[f]? = some fn) (hname : (fn.name == "runtime.NumGoroutine") = false) (hb : fn.body.isNone = true) (hne : Extern.findNext fn = none) (he : Extern.find fn = some (Extern.BytealgMakeNoZero.makeNoZero ps #[t])) (ht : c.P.underlying t = some (.slice e)) (hm : m ≤ 281474976710656)
    (isq : List Nat) (hq : ∀ b (cs : Array Value), ∃ M, tk isq ((some b, Obj.cells cs e (0, 0)) :: L) = some (Lq, M))
    (h : ∀ b (cs : Array Value), m ≤ cs.size → cs.size ≤ 9223372036854775807 → GH c n ops Lq fuel (listed.setIfInBounds i true) ((d, .slice (some ⟨b, 0, none⟩) m cs.size) :: env) ((some b, .cells cs e (0, 0)) :: L) k) : GHop c n ops Lq fuel listed env L k i := by
  intro a w hk hmm hw
  refine ghop_of ho (wanted_of hk hg) ?_
  obtain ⟨cs, hr, h1, h2⟩ := Lib.run_makeNoZero (P := c.P) w ps t e ht m hm
  have hx : xs.map a.eval = #[.int .i64 (m : Int)] := by
    apply Array.toList_inj.1
    simpa using hk.evals hxs
  have hrun : (execOp a.eval o).run c.P w = .ok (.value (.slice (some ⟨w.heap.size, 0, none⟩) m cs.size)) (w.drew.drew.alloc (.cells cs e)) := by
    have hr' := run_callFunc_extern hf hname hb hne he #[.int .i64 (m : Int)] w
    rw [hr] at hr'
    unfold execOp
    simp [hop, resolve, Act.eval, Deferred.ofValue, hx, invoke, hr']
  rw [hrun, Oper.upon_value, hd]
  have hm' := ((hmm.drew (w.drawn + 1)).drew (w.drawn + 1 + 1)).alloc (.cells cs e)
  obtain ⟨M, hM⟩ := hq w.heap.size cs
  have hs := hs_of hm' hM
  exact ⟨hs, h w.heap.size cs h1 (by have := h2 (by unfold maxLen; omega); unfold maxLen at this; omega) _ _ (hk.put hn _) hm' hs⟩
theorem GHop_append {i : Nat} {d m nn sz bt : Nat} {x y : Operand} {t u e ty : TypeId} {ds : TypeDesc} {ps : String} {es : Array Edge} {gd : Option (Nat × Bool)} {ti : TypeInfo} {z xv : Value} {s : Sl} {xs news : List Value} {l1 l2 : List (Option Nat × Obj)}
    (ho : ops[i]? = some o) (hop : o = ⟨some d, .call ⟨.builtin .append, #[x, y], #[t, u]⟩, ty, ps, es, gd⟩) (hn : Nat.blt d n = true) (hg : fguard ops env o = some true)
    (ht : c.P.underlying t = some (.slice e)) (hu : c.P.underlying u = some ds) (hds : ds = .string ∨ ∃ e', ds = .slice e') (hi : c.P.info? e = some ti) (hz : ti.zero = some z) (hsz : ti.size = sz) (hzs : z.cells.size = sz) (hbt : ti.bytes = bt)
    (hx : fev env x = some (s.v nn)) (hy : fev env y = some xv) (hown : Own sz s xs nn) (hL : L = l1 ++ (s.ob, .cells s.cs e s.fz) :: l2) (hS : ∀ w, Has w c.A L → Src c.P w sz xv m news)
    (h63 : nn + m ≤ 9223372036854775807) (hbytes : (nn + m) * bt ≤ 140737488355328)
    (isq : List Nat) (hq : ∀ s' : Sl, ∃ M, tk isq (l1 ++ (s'.ob, .cells s'.cs e s'.fz) :: l2) = some (Lq, M))
    (h : ∀ s' : Sl, Own sz s' (xs ++ news) (nn + m) → More s s' → GH c n ops Lq fuel (listed.setIfInBounds i true) ((d, s'.v (nn + m)) :: env) (l1 ++ (s'.ob, .cells s'.cs e s'.fz) :: l2) k) : GHop c n ops Lq fuel listed env L k i := by
  intro a w hk hm hw
  subst hop
  refine ghop_of ho (wanted_of hk hg) ?_
  obtain ⟨s', w', hr, h1, h2, h3, h4, h5⟩ := run_append_any (P := c.P) w t u ty e ds ti z sz ht hu hds hi hz hsz hzs s xs nn hown (fun b hb => hm.lies (by rw [hL, ← hb]; simp)) xv m news (hS w hm.has) h63 (by rw [hbt]; exact hbytes)
  have hrun : (execOp a.eval ⟨some d, .call ⟨.builtin .append, #[x, y], #[t, u]⟩, ty, ps, es, gd⟩).run c.P w = .ok (.value (s'.v (nn + m))) w' := by
    unfold execOp
    simp only [resolve, invoke, builtin, Sem.run_bind, Sem.run_pure, Result.andThen_ok, List.map_toArray, List.map_cons, List.map_nil, hk.eval hx, hk.eval hy, hr]
  rw [hrun, Oper.upon_value]
  subst hL
  have hm' := hm.grown h2 h3 h4
  obtain ⟨M', hM⟩ := hq s'
  exact ⟨hs_of hm' hM, h s' h1 h5 _ w' (hk.put hn _) hm' (hs_of hm' hM)⟩
end

-- lists of texts
def strC (l : List UInt8) : Value := .string (bs l)
theorem sees_strs (b n : Nat) (ls : List (List UInt8)) (hn : ls.length = n) (h : n < 1000) : Sees 1 (some b) 0 n (ls.map strC).toArray (ls.map strC) ls.length :=
  ⟨by simp, by omega, by omega, by rw [List.drop_zero, List.take_of_length_le (by simp)], fun h => by cases h⟩
theorem cell_at {α : Type} {f : α → List Value} {sz : Nat} {ob : Option Nat} {off cap : Nat} {cs : Array Value} {l : List α} (h : Sees sz ob off cap cs (l.flatMap f) l.length) (hf : ∀ a, (f a).length = sz) {i : Nat} {a : α} (ha : l[i]? = some a) (k : Nat) (hk : k < sz) {v : Value} (hv : (f a)[k]? = some v) :
    cs[off + i * sz + k]? = some v := by
  have h1 := flat_part f hf l ha k
  rw [if_pos hk, hv] at h1
  have h2 := h.at h1
  rwa [← Nat.add_assoc] at h2
end Go.Proofs.YtkekkalgebgokaaDoor
