/- More steps: decided truths, drawn regions that only read, closures, further operations. No program in sight. -/
import Derived.Test.YtkekkalgebgokaaDoorG3
set_option linter.unusedSimpArgs false
set_option linter.unusedVariables false
namespace Go.Proofs.YtkekkalgebgokaaDoor
open Go Go.RowKit

theorem mem_at {L : List (Option Nat × Obj)} {x : Option Nat × Obj} (k : Nat) (h : L[k]? = some x) : x ∈ L := List.mem_of_getElem? h
theorem slot_int {q : IntKind} {a b : Int} (h : a = b) : some (Value.int q a) = some (Value.int q b) := by rw [h]
theorem slot_str {a b : List UInt8} (h : a = b) : some (Value.string (bs a)) = some (Value.string (bs b)) := by rw [h]
theorem int_eq {q : IntKind} {a b : Int} (h : a = b) : Value.int q a = Value.int q b := by rw [h]
theorem str_eq {a b : List UInt8} (h : a = b) : Value.string (bs a) = Value.string (bs b) := by rw [h]
theorem bool_eq {a b : Bool} (h : a = b) : Value.bool a = Value.bool b := by rw [h]

section
variable {c : Cx} {n : Nat} {env : List (Nat × Value)} {L : List (Option Nat × Obj)} {k : List Item} {o : Oper}

theorem G_ifD {x : Operand} {p q : Code} {t : Prop} {inst : Decidable t} (hx : fev env x = some (.bool (decide t))) (hT : t → G c n env L (.code p :: k)) (hF : ¬ t → G c n env L (.code q :: k)) : G c n env L (.code (.cond x p q) :: k) := by
  by_cases h : t
  · exact G_then (by rw [hx]; simp [h]) (hT h)
  · exact G_else (by rw [hx]; simp [h]) (hF h)
theorem G_splitD {todo : List Item} (d : Nat) {t : Prop} {inst : Decidable t} (hx : fget env d = some (.bool (decide t))) (hT : t → G c n ((d, .bool true) :: env) L todo) (hF : ¬ t → G c n ((d, .bool false) :: env) L todo) : G c n env L todo :=
  G_split d hx (fun h => hT (of_decide_eq_true h)) (fun h => hF (of_decide_eq_false h))

theorem goes_of_wp {code : Code} {a : Act} {w : World} (h : code.wp c.P (fun e a' w' => e = .normal ∧ GoesTo c k a' w') a w) : GoesTo c (.code code :: k) a w := by
  intro b hb hk cs
  obtain ⟨e, a', w', ⟨rfl, hg⟩, harr⟩ := h b k cs
  obtain ⟨v, p, w2, fr, hR, hm, hst, e⟩ := hg b hb hk cs
  exact ⟨v, p, w2, fr, hR, hm, Steps.trans harr hst, e⟩

/-- The rest of a drawn region, in the order of the text, each operation quiet. -/
def GQ (c : Cx) (n : Nat) (ops : Array Oper) (env : List (Nat × Value)) (L : List (Option Nat × Obj)) (i : Nat) (k : List Item) : Prop :=
  ∀ a, Knows c.ds n env a → wpQuiet c.P ops (fun w => Mem c.w0 c.A c.S L w) (fun a' => ∀ w', Mem c.w0 c.A c.S L w' → GoesTo c k a' w') (ops.toList.drop i) a

theorem G_draw {id : Nat} {ops : Array Oper} (hm : c.P.follows .mixedOrders = true) (hB : Region.lexB .any ops = true) (h : GQ c n ops env L 0 k) : G c n env L (.code (.region id ops true) :: k) := by
  intro a w hk hmm
  refine goes_of_wp (wp_region_quiet (C := fun w => Mem c.w0 c.A c.S L w) hm hB (hmm.drew _) ?_)
  have h1 := h a hk
  rw [List.drop_zero] at h1
  have conv : ∀ (l : List Oper) (a : Act), wpQuiet c.P ops (fun w => Mem c.w0 c.A c.S L w) (fun a' => ∀ w', Mem c.w0 c.A c.S L w' → GoesTo c k a' w') l a →
      wpQuiet c.P ops (fun w => Mem c.w0 c.A c.S L w) (fun a' => ∀ w', Mem c.w0 c.A c.S L w' → (Exit.normal = .normal ∧ GoesTo c k a' w')) l a := by
    intro l
    induction l with
    | nil => exact fun a h w' hw => ⟨rfl, h w' hw⟩
    | cons o l ih =>
      intro a h
      unfold wpQuiet at h ⊢
      split
      · rename_i hw
        rw [if_pos hw] at h
        obtain ⟨v, h1, h2⟩ := h
        exact ⟨v, h1, ih _ h2⟩
      · rename_i hw
        rw [if_neg hw] at h
        exact ih _ h
  exact conv _ _ h1

theorem drop_at {ops : Array Oper} {i : Nat} {o : Oper} (ho : ops[i]? = some o) : ops.toList.drop i = o :: ops.toList.drop (i + 1) := by
  have h : i < ops.toList.length := by
    have := (Array.getElem?_eq_some_iff.1 ho).1
    simpa using this
  rw [List.drop_eq_getElem_cons h]
  have := (Array.getElem?_eq_some_iff.1 ho).2
  simp [this]

theorem GQ_done {ops : Array Oper} {i : Nat} (hi : Nat.ble ops.size i = true) (h : G c n env L k) : GQ c n ops env L i k := by
  intro a hk
  have hi : ops.size ≤ i := by simpa using hi
  rw [List.drop_eq_nil_of_le (by simpa using hi)]
  exact fun w' hm => h a w' hk hm
theorem GQ_val {ops : Array Oper} {i : Nat} {d : Nat} {v : Value} (ho : ops[i]? = some o) (hd : o.dst = some d) (hn : Nat.blt d n = true) (hg : fguard ops env o = some true)
    (hv : Val c n env L o v) (h : GQ c n ops ((d, v) :: env) L (i + 1) k) : GQ c n ops env L i k := by
  intro a hk
  rw [drop_at ho]
  simp only [wpQuiet]
  rw [if_pos (wanted_of hk hg)]
  refine ⟨v, fun w hm => ?_, ?_⟩
  · unfold Oper.quietAt
    rw [hv a w hk hm]
    exact ⟨rfl, rfl⟩
  · rw [hd]
    exact h _ (hk.put hn v)
theorem GQ_off {ops : Array Oper} {i : Nat} {d : Nat} (ho : ops[i]? = some o) (hd : o.dst = some d) (hn : Nat.blt d n = true) (hg : fguard ops env o = some false)
    (h : GQ c n ops ((d, undef) :: env) L (i + 1) k) : GQ c n ops env L i k := by
  intro a hk
  rw [drop_at ho]
  simp only [wpQuiet]
  rw [if_neg (by rw [wanted_of hk hg]; exact Bool.false_ne_true), hd]
  exact h _ (hk.put hn undef)
theorem GQ_call {ops : Array Oper} {i : Nat} {d : Nat} {g : FuncId} {xs : Array Operand} {ts : Array TypeId} {args : List Value} {A' : List (Option Nat × Obj)} {R' : Value → List (Option Nat × Obj) → Prop} {v0 : Value}
    (ho : ops[i]? = some o) (hd : o.dst = some d) (hn : Nat.blt d n = true) (hg : fguard ops env o = some true) (hop : o.op = .call ⟨.value (.func g), xs, ts⟩) (hxs : fevs env xs.toList = some args)
    (hcf : ∀ (az : Array Value) w, (callFunc g az).run c.P w = .ok (.enter g az) w) (hct : Ct c.P g args A' [] R') (js : List Nat) (hA : pk js (c.A ++ L) = some A') (hv : ∀ v post, R' v post → v = v0)
    (h : GQ c n ops ((d, v0) :: env) L (i + 1) k) : GQ c n ops env L i k := by
  intro a hk
  rw [drop_at ho]
  simp only [wpQuiet]
  rw [if_pos (wanted_of hk hg)]
  refine ⟨v0, fun w hm => ?_, ?_⟩
  · have hx : xs.map a.eval = args.toArray := by
      apply Array.toList_inj.1
      simpa using hk.evals hxs
    have hr : (execOp a.eval o).run c.P w = .ok (.enter g args.toArray) w := by
      unfold execOp
      simp [hop, resolve, Act.eval, Deferred.ofValue, hx, invoke, hcf]
    unfold Oper.quietAt
    rw [hr]
    have hL : tk [] L = some ([], L) := rfl
    refine ⟨rfl, (hct w (hm.has_call hL hA)).mono fun e w' ⟨v, post, he, hR, hp⟩ => ?_⟩
    have := hv v post hR
    subst this
    exact ⟨he, (hm.call hL hA hp).sub (L' := L) List.perm_append_comm⟩
  · rw [hd]
    exact h _ (hk.put hn v0)
theorem GQ_split {ops : Array Oper} {i : Nat} (d : Nat) {t : Bool} (hx : fget env d = some (.bool t)) (hT : t = true → GQ c n ops ((d, .bool true) :: env) L i k) (hF : t = false → GQ c n ops ((d, .bool false) :: env) L i k) : GQ c n ops env L i k := by
  have key : GQ c n ops ((d, .bool t) :: env) L i k := by
    cases t
    · exact hF rfl
    · exact hT rfl
  refine fun a hk => key a ⟨hk.size, hk.defers, fun u v hu => hk.get u v ?_⟩
  rw [fget_cons] at hu
  by_cases e : d = u
  · rw [if_pos e] at hu
    subst e
    rw [hx, hu]
  · rwa [if_neg e] at hu
theorem GQ_splitD {ops : Array Oper} {i : Nat} (d : Nat) {t : Prop} {inst : Decidable t} (hx : fget env d = some (.bool (decide t))) (hT : t → GQ c n ops ((d, .bool true) :: env) L i k) (hF : ¬ t → GQ c n ops ((d, .bool false) :: env) L i k) : GQ c n ops env L i k :=
  GQ_split d hx (fun h => hT (of_decide_eq_true h)) (fun h => hF (of_decide_eq_false h))

-- closures
theorem G_callC {ops : Array Oper} {i : Nat} {rest : List Nat} {d : Nat} {g : FuncId} {x : Operand} {xs : Array Operand} {ts : Array TypeId} {args vs : List Value} {A' L' L2 : List (Option Nat × Obj)} {R' : Value → List (Option Nat × Obj) → Prop}
    (ho : ops[i]? = some o) (hd : o.dst = some d) (hn : Nat.blt d n = true) (hg : fguard ops env o = some true) (hop : o.op = .call ⟨.value x, xs, ts⟩) (hxs : fevs env xs.toList = some args)
    (hcf : ∀ (az : Array Value) w, (callFunc g az).run c.P w = .ok (.enter g az) w) (hfn : fev env x = some (.func (.func g) #[] vs.toArray)) (hct : Ct c.P g (args ++ vs) A' L' R') (is js : List Nat) (hL : tk is L = some (L', L2)) (hA : pk js (c.A ++ L2) = some A')
    (K : ∀ v post, R' v post → G c n ((d, v) :: env) (post ++ L2) (.inRegion ops rest :: k)) : G c n env L (.inRegion ops (i :: rest) :: k) := by
  intro a w hk hm
  refine goes_op ho (wanted_of hk hg) ?_
  have hx : xs.map a.eval = args.toArray := by
    apply Array.toList_inj.1
    simpa using hk.evals hxs
  have hr : (execOp a.eval o).run c.P w = .ok (.enter g (args ++ vs).toArray) w := by
    unfold execOp
    simp only [hop, resolve, hk.eval hfn, hx]
    simp [Deferred.ofValue, invoke, hcf]
  rw [hr, Oper.upon_enter]
  refine (hct w (hm.has_call hL hA)).mono fun e w' ⟨v, post, he, hR, hp⟩ => ?_
  subst he
  simp only [hd]
  exact K v post hR _ w' (hk.put hn v) (hm.call hL hA hp)

-- integers
section
variable {x y : Operand} {t yt : TypeId} {q : IntKind} {p r : Int}
def bitsOp (op : BinOp) (q : IntKind) (p r : Int) : Int := match op with
  | .and => q.wrap ((BitVec.ofInt q.bits p &&& BitVec.ofInt q.bits r).toNat : Int)
  | .or => q.wrap ((BitVec.ofInt q.bits p ||| BitVec.ofInt q.bits r).toNat : Int)
  | .xor => q.wrap ((BitVec.ofInt q.bits p ^^^ BitVec.ofInt q.bits r).toNat : Int)
  | .andNot => q.wrap ((BitVec.ofInt q.bits p &&& ~~~ BitVec.ofInt q.bits r).toNat : Int)
  | _ => 0
theorem V_bits (bop : BinOp) (hop : o.op = .binOp bop t x y yt) (hx : fev env x = some (.int q p)) (hy : fev env y = some (.int q r)) (hb : (bop == .and || bop == .or || bop == .xor || bop == .andNot) = true) : Val c n env L o (.int q (bitsOp bop q p r)) := fun a w hk _ => by
  simp only [execOp, hop, hk.eval hx, hk.eval hy, eqGuard_at_int, pure_bind]
  cases bop <;> first
    | (simp only [binOp_and, binOp_or, binOp_xor, binOp_andNot]; rfl)
    | exact absurd hb (by decide)
theorem V_min {xs : Array TypeId} {ty : TypeId} {ps : String} {es : Array Edge} {gd : Option (Nat × Bool)} {d : Option Tmp} (hop : o = ⟨d, .call ⟨.builtin .min, #[x, y], xs⟩, ty, ps, es, gd⟩) (hx : fev env x = some (.int q p)) (hy : fev env y = some (.int q r)) : Val c n env L o (.int q (min p r)) := fun a w hk _ => by
  subst hop
  have e : (if r < p then r else p) = min p r := by split <;> omega
  simp [execOp, hk.eval hx, hk.eval hy, resolve, invoke, builtin, Builtin.min_, Builtin.min2, e]
theorem V_max {xs : Array TypeId} {ty : TypeId} {ps : String} {es : Array Edge} {gd : Option (Nat × Bool)} {d : Option Tmp} (hop : o = ⟨d, .call ⟨.builtin .max, #[x, y], xs⟩, ty, ps, es, gd⟩) (hx : fev env x = some (.int q p)) (hy : fev env y = some (.int q r)) : Val c n env L o (.int q (max p r)) := fun a w hk _ => by
  subst hop
  have e : (if p < r then r else p) = max p r := by split <;> omega
  have e' : (if r > p then r else p) = max p r := by split <;> omega
  simp [execOp, hk.eval hx, hk.eval hy, resolve, invoke, builtin, Builtin.max_, Builtin.max2, e, e']
end

-- texts
theorem V_sindexD {x y : Operand} {t : TypeId} {l : List UInt8} {q : IntKind} {i : Int} (hop : o.op = .index t x y) (hu : c.P.underlying t = some .string) (hx : fev env x = some (.string (bs l))) (hy : fev env y = some (.int q i)) (h0 : 0 ≤ i) (hv : i.toNat < l.length) : Val c n env L o (.int .u8 ((l.getD i.toNat 0).toNat : Int)) :=
  V_sindex hop hu hx hy h0 (by simp [List.getD, List.getElem?_eq_getElem hv])
theorem V_sindexN {x y : Operand} {t : TypeId} {l : List UInt8} {q : IntKind} {i : Int} {j : Nat} (hop : o.op = .index t x y) (hu : c.P.underlying t = some .string) (hx : fev env x = some (.string (bs l))) (hy : fev env y = some (.int q i)) (hj : i = (j : Int)) (hv : j < l.length) : Val c n env L o (.int .u8 ((l.getD j 0).toNat : Int)) := by
  subst hj
  exact V_sindexD hop hu hx hy (by omega) (by simpa using hv)
theorem V_ssliceN {x xl xh : Operand} {t : TypeId} {l : List UInt8} {zl zh : Int} {lo hi : Nat} {q q' : IntKind} (hop : o.op = .slice t x (some xl) (some xh) none) (hu : c.P.underlying t = some .string) (hx : fev env x = some (.string (bs l))) (hl : fev env xl = some (.int q zl)) (hh : fev env xh = some (.int q' zh))
    (el : zl = (lo : Int)) (eh : zh = (hi : Int)) (h1 : lo ≤ hi) (h2 : hi ≤ l.length) : Val c n env L o (.string (bs ((l.take hi).drop lo))) := by
  subst el eh
  have := V_sslice (c := c) (n := n) (L := L) hop hu hx hl hh (by omega) (by omega) (by omega)
  simpa using this
theorem V_ssliceLN {x xl : Operand} {t : TypeId} {l : List UInt8} {zl : Int} {lo : Nat} {q : IntKind} (hop : o.op = .slice t x (some xl) none none) (hu : c.P.underlying t = some .string) (hx : fev env x = some (.string (bs l))) (hl : fev env xl = some (.int q zl))
    (el : zl = (lo : Int)) (h1 : lo ≤ l.length) : Val c n env L o (.string (bs (l.drop lo))) := by
  subst el
  have := V_ssliceL (c := c) (n := n) (L := L) hop hu hx hl (by omega) (by omega)
  simpa using this
theorem V_ssliceHN {x xh : Operand} {t : TypeId} {l : List UInt8} {zh : Int} {hi : Nat} {q' : IntKind} (hop : o.op = .slice t x none (some xh) none) (hu : c.P.underlying t = some .string) (hx : fev env x = some (.string (bs l))) (hh : fev env xh = some (.int q' zh))
    (eh : zh = (hi : Int)) (h2 : hi ≤ l.length) : Val c n env L o (.string (bs (l.take hi))) := by
  subst eh
  have := V_ssliceH (c := c) (n := n) (L := L) hop hu hx hh (by omega) (by omega)
  simpa using this
theorem formed_of {P : Program} {t : TypeId} {d : TypeDesc} {cs : Array Value} (hu : P.underlying t = some d) (hd : isAggD d = true) {s : Nat} (hs : P.cellsOf t = s) (h : cs.size = s) : (Value.agg cs).formed P t = true := by
  subst hs
  unfold Value.formed
  rw [hu]
  cases d <;> first | (simp [h]; done) | exact Bool.noConfusion hd
theorem V_indexAddrN {x y : Operand} {t e : TypeId} {ti : TypeInfo} {q : IntKind} {b off i j s : Nat} {z : Int} {m : Nat} (hop : o.op = .indexAddr t x y) (hu : c.P.underlying t = some (.slice e)) (hs : c.P.info? e = some ti) (hz : ti.size = s) (hx : fev env x = some (.slice (some ⟨b, off, none⟩) i j)) (hy : fev env y = some (.int q z)) (hm : z = (m : Int)) (h1 : m < i) :
    Val c n env L o (.pointer (some ⟨b, off + m * s, none⟩)) := by
  subst hm
  have := V_indexAddr (c := c) (n := n) (L := L) hop hu hs hz hx hy (by omega) (by omega)
  simpa using this
theorem V_build {t : TypeId} {parts : Array (Nat × Operand)} {vs : List Value} {cs : Array Value} (hop : o.op = .build t parts) (hx : fevs env (parts.toList.map (·.2)) = some vs) (hb : c.P.built t ((parts.toList.map (·.1)).zip vs) = some cs) : Val c n env L o (.agg cs) := fun a w hk _ => by
  have h1 := hk.evals hx
  have h2 : (parts.map fun (i, x) => (i, a.eval x)).toList = (parts.toList.map (·.1)).zip vs := by
    rw [← h1]
    simp only [Array.toList_map, List.map_map]
    generalize parts.toList = ps
    induction ps with
    | nil => rfl
    | cons p ps ih => simp [ih]
  simp only [execOp, hop]
  rw [Sem.run_bind, run_build w t _ cs (by rw [h2]; exact hb)]
  rfl
theorem V_convS {x : Operand} {t u : TypeId} {s : ByteArray} (hop : o.op = .convert t u x) (hx : fev env x = some (.string s)) (ht : c.P.underlying t = some .string) (hu : c.P.underlying u = some .string) : Val c n env L o (.string s) := fun a w hk _ => by
  simp [execOp, hop, hk.eval hx, convert, run_underlying ht, run_underlying hu]
end
end Go.Proofs.YtkekkalgebgokaaDoor
