/- Arrays, bytes, copies, blocks made with a size, structs compared. No program in sight. -/
import Derived.Test.YtkekkalgebgokaaDoorG5
import Derived.Laws.MakeOwn
import Derived.Laws.CopyRow
import Derived.DeepKeys
import Derived.Laws.IdiomStrings
set_option linter.unusedSimpArgs false
set_option linter.unusedVariables false
namespace Go.Proofs.YtkekkalgebgokaaDoor
open Go Go.RowKit

/-- Bytes as cells. -/
def bcells (l : List UInt8) : List Value := l.map fun c => .int .u8 (c.toNat : Int)
theorem bcells_length (l : List UInt8) : (bcells l).length = l.length := by simp [bcells]
theorem bcells_one (l : List UInt8) : ∀ v ∈ bcells l, v.oneCell' = true := by
  intro v hv
  simp only [bcells, List.mem_map] at hv
  obtain ⟨c, _, rfl⟩ := hv
  rfl
theorem bcells_all (l : List UInt8) : (bcells l).toArray.all (·.oneCell') = true := by
  rw [Array.all_eq_true_iff_forall_mem]
  intro v hv
  exact bcells_one l v (by simpa using hv)
theorem bcells_append (l m : List UInt8) : bcells (l ++ m) = bcells l ++ bcells m := by simp [bcells]
theorem bcells_take (l : List UInt8) (k : Nat) : (bcells l).take k = bcells (l.take k) := by simp [bcells, List.map_take]
theorem bcells_drop (l : List UInt8) (k : Nat) : (bcells l).drop k = bcells (l.drop k) := by simp [bcells, List.map_drop]
theorem bcells_inj {l m : List UInt8} (h : bcells l = bcells m) : l = m := by
  have := congrArg (List.map fun v => match v with | Value.int _ n => UInt8.ofNat n.toNat | _ => 0) h
  simpa [bcells, Function.comp_def] using this
theorem bcells_zero (n : Nat) : List.replicate n (Value.int .u8 0) = bcells (List.replicate n 0) := by simp [bcells]

section
variable {c : Cx} {n : Nat} {env : List (Nat × Value)} {L : List (Option Nat × Obj)} {k : List Item} {o : Oper}

theorem V_aslice {x : Operand} {t e b off N : Nat} {ti : TypeInfo} (hop : o.op = .slice t x none none none) (hu : c.P.underlying t = some (.array N e)) (hs : c.P.info? e = some ti) (hx : fev env x = some (.pointer (some ⟨b, off, none⟩))) :
    Val c n env L o (.slice (some ⟨b, off, none⟩) N N) := fun a w hk _ => by
  by_cases h : N = 0
  · subst h
    simp [execOp, hop, hk.eval hx, Instr.sliceAt, run_underlying hu, Instr.sureAddr, Instr.sliceBounds, sizeOf, typeInfo, hs]
  · have h' : ¬ (N = 0) := h
    simp [execOp, hop, hk.eval hx, Instr.sliceAt, run_underlying hu, Instr.sureAddr, Instr.sliceBounds, sizeOf, typeInfo, hs, h', Addr.add_zero']
theorem V_asliceH {x xh : Operand} {t e b off N h : Nat} {z : Int} {q : IntKind} {ti : TypeInfo} (hop : o.op = .slice t x none (some xh) none) (hu : c.P.underlying t = some (.array N e)) (hs : c.P.info? e = some ti) (hx : fev env x = some (.pointer (some ⟨b, off, none⟩)))
    (hh : fev env xh = some (.int q z)) (hz : z = (h : Int)) (hb : h ≤ N) : Val c n env L o (.slice (some ⟨b, off, none⟩) h N) := fun a w hk _ => by
  subst hz
  have e1 : (0 : Int) ≤ (h : Int) ∧ (h : Int) ≤ (N : Int) := by omega
  simp only [execOp, hop, hk.eval hx, hk.eval hh, Option.map_some, Option.map_none, Instr.sliceAt, run_underlying hu, Instr.sureAddr, Instr.sliceBounds, Instr.sliceBound, asIntOf, Sem.run_bind, Sem.run_pure, Result.andThen_ok, if_pos e1, sizeOf, typeInfo, run_program, hs]
  by_cases hN : N = 0 <;> simp [hN, Addr.add_zero']
theorem V_asliceL {x xl : Operand} {t e b off N l s off' : Nat} {z : Int} {q : IntKind} {ti : TypeInfo} (hop : o.op = .slice t x (some xl) none none) (hu : c.P.underlying t = some (.array N e)) (hs : c.P.info? e = some ti) (hsz : ti.size = s) (hx : fev env x = some (.pointer (some ⟨b, off, none⟩)))
    (hl : fev env xl = some (.int q z)) (hz : z = (l : Int)) (hb : l < N) (ho' : off + l * s = off') : Val c n env L o (.slice (some ⟨b, off', none⟩) (N - l) (N - l)) := fun a w hk _ => by
  subst hz hsz ho'
  have e1 : (0 : Int) ≤ (l : Int) ∧ (l : Int) ≤ (N : Int) := by omega
  have e2 : ¬ N = l := by omega
  simp only [execOp, hop, hk.eval hx, hk.eval hl, Option.map_some, Option.map_none, Instr.sliceAt, run_underlying hu, Instr.sureAddr, Instr.sliceBounds, Instr.sliceBound, asIntOf, Sem.run_bind, Sem.run_pure, Result.andThen_ok, if_pos e1, sizeOf, typeInfo, run_program, hs]
  simp [e2, Addr.add_lit]

/-- An operation that writes a block and tells a value. -/
def PutV (c : Cx) (n : Nat) (env : List (Nat × Value)) (L : List (Option Nat × Obj)) (o : Oper) (b : Nat) (ob : Obj) (v : Value) : Prop :=
  ∀ a w, Knows c.ds n env a → Mem c.w0 c.A c.S L w → ∃ w', (execOp a.eval o).run c.P w = .ok (.value v) w' ∧ w'.os = w.os ∧ w'.tape = w.tape ∧ w'.output = w.output ∧ w'.heap.size = w.heap.size ∧ w'.heap[b]? = some ob ∧ ∀ k, k ≠ b → w'.heap[k]? = w.heap[k]?
theorem G_putV {ops : Array Oper} {i : Nat} {rest : List Nat} {b d : Nat} {old ob : Obj} {v : Value} {l1 l2 L' : List (Option Nat × Obj)} (ho : ops[i]? = some o) (hd : o.dst = some d) (hn : Nat.blt d n = true) (hg : fguard ops env o = some true)
    (hL : L = l1 ++ (some b, old) :: l2) (hv : PutV c n env L o b ob v) (hL' : l1 ++ (some b, ob) :: l2 = L') (h : G c n ((d, v) :: env) L' (.inRegion ops rest :: k)) : G c n env L (.inRegion ops (i :: rest) :: k) := by
  intro a w hk hm
  obtain ⟨w', hr, h1, h2, h3, h4, h5, h6⟩ := hv a w hk hm
  refine goes_op ho (wanted_of hk hg) ?_
  rw [hr, Oper.upon_value, hd]
  subst hL'
  exact h _ w' (hk.put hn v) (hm.put hL h1 h2 h3 h4 h5 h6)
theorem G_putVN {ops : Array Oper} {i : Nat} {rest : List Nat} {b : Nat} {old ob : Obj} {v : Value} {l1 l2 L' : List (Option Nat × Obj)} (ho : ops[i]? = some o) (hd : o.dst = none) (hg : fguard ops env o = some true)
    (hL : L = l1 ++ (some b, old) :: l2) (hv : PutV c n env L o b ob v) (hL' : l1 ++ (some b, ob) :: l2 = L') (h : G c n env L' (.inRegion ops rest :: k)) : G c n env L (.inRegion ops (i :: rest) :: k) := by
  intro a w hk hm
  obtain ⟨w', hr, h1, h2, h3, h4, h5, h6⟩ := hv a w hk hm
  refine goes_op ho (wanted_of hk hg) ?_
  rw [hr, Oper.upon_value, hd]
  subst hL'
  exact h _ w' (hk.putNone v) (hm.put hL h1 h2 h3 h4 h5 h6)

/-- Cells with others laid over them. -/
def laid (cs : Array Value) (off : Nat) (vs : List Value) : Array Value := (cs.toList.take off ++ vs ++ cs.toList.drop (off + vs.length)).toArray

theorem run_stores {P : Program} (w : World) (b off : Nat) (T : TypeId) (cs : Array Value) (vs : List Value) (hg : w.heap[b]? = some (.cells cs T (0, 0))) (hl : off + vs.length ≤ cs.size) (h1 : ∀ v ∈ vs, v.oneCell' = true) :
    (storeCells ⟨b, off, none⟩ vs).run P w = .ok () (w.setRow b (laid cs off vs)) := by
  have := run_storeCells_at (P := P) b off T vs 0 cs w hg (by omega) h1
  simpa [laid] using this

/-- 'copy' out of a text. -/
theorem P_copyS {x y : Operand} {t e T b off dl dc : Nat} {ts : Array TypeId} {ty : TypeId} {p : String} {es : Array Edge} {gd : Option (Nat × Bool)} {d : Option Tmp} {ti : TypeInfo} {cs : Array Value} {l : List UInt8}
    (hop : o = ⟨d, .call ⟨.builtin .copy, #[x, y], ts⟩, ty, p, es, gd⟩) (ht : ts[0]? = some t) (hu : c.P.underlying t = some (.slice e)) (hs : c.P.info? e = some ti) (hsz : ti.size = 1) (hx : fev env x = some (.slice (some ⟨b, off, none⟩) dl dc)) (hy : fev env y = some (.string (bs l)))
    (hm : (some b, Obj.cells cs T (0, 0)) ∈ L) (hoff : off + min l.length dl ≤ cs.size) :
    PutV c n env L o b (.cells (laid cs off (bcells (l.take dl))) T (0, 0)) (.int .i64 ((min l.length dl : Nat) : Int)) := fun a w hk hmm => by
  subst hop
  have hw := hmm.lies hm
  have hlen : (bcells (l.take dl)).length = min l.length dl := by rw [bcells_length, List.length_take, Nat.min_comm]
  have hst := run_stores (P := c.P) w b off T cs (bcells (l.take dl)) hw (by rw [hlen]; exact hoff) (bcells_one _)
  refine ⟨w.setRow b (laid cs off (bcells (l.take dl))), ?_, rfl, rfl, rfl, by simp, setRow_heap w b cs _ T _ hw, fun k hne => setRow_other w b k _ hne⟩
  simp [execOp, hk.eval hx, hk.eval hy, resolve, invoke, builtin, Builtin.copy_, ht, run_underlying hu, Builtin.lenOf, Builtin.firstCells, sizeOf, typeInfo, hs, hsz, goInt, bs_size]
  have hmin : Nat.min l.length dl = min l.length dl := rfl
  have hcells : List.take (min l.length dl) (List.map (fun b => Value.int IntKind.u8 (b.toNat : Int)) (bs l).data.toList) = bcells (l.take dl) := by
    show List.take (min l.length dl) (bcells l) = _
    rw [bcells_take, Nat.min_comm, ← List.take_take, List.take_length]
  rw [hmin, hcells, hst]
  rfl

/-- Bytes as a text. -/
theorem V_bytesS {x : Operand} {t u e T b off len cap : Nat} {fr : Nat × Nat} {cs : Array Value} {l : List UInt8} (hop : o.op = .convert t u x) (hx : fev env x = some (.slice (some ⟨b, off, none⟩) len cap)) (ht : c.P.underlying t = some (.slice e)) (he : c.P.underlying e = some (.int .u8)) (hu : c.P.underlying u = some .string)
    (hm : (some b, Obj.cells cs T fr) ∈ c.A ++ L) (hl : l.length = len) (hc : (cs.toList.drop off).take len = bcells l) : Val c n env L o (.string (bs l)) := fun a w hk hmm => by
  subst hl
  have hw := hmm.has.both hm
  have h1 := run_convert_bytes_back (P := c.P) w t u e ⟨b, off, none⟩ cap l ht he hu (fun j hj => by
    rw [Addr.add_lit, cell_of_row w b (off + j) cs T fr hw]
    have h2 : ((cs.toList.drop off).take l.length)[j]? = (bcells l)[j]? := by rw [hc]
    rw [List.getElem?_take, if_pos hj, List.getElem?_drop] at h2
    rw [← Array.getElem?_toList, h2]
    simp [bcells, hj])
  simp only [execOp, hop, hk.eval hx]
  rw [Sem.run_bind, h1]
  rfl
theorem V_bytesSNil {x : Operand} {t u e len cap : Nat} (hop : o.op = .convert t u x) (hx : fev env x = some (.slice none len cap)) (ht : c.P.underlying t = some (.slice e)) (he : c.P.underlying e = some (.int .u8)) (hu : c.P.underlying u = some .string) : Val c n env L o (.string (bs [])) := fun a w hk hmm => by
  simp only [execOp, hop, hk.eval hx]
  rw [Sem.run_bind, run_convert_bytes_string w t u e none len cap ht he hu]
  rfl

theorem madeCells_one (z : Value) (m : Nat) : madeCells #[z] m = (List.replicate m z).toArray := by
  apply Array.ext
  · simp [size_madeCells]
  · intro i h1 h2
    simp [madeCells, Nat.mod_one]
/-- 'make' of cells of one. -/
theorem N_make {xl xc : Operand} {t e l m : Nat} {kl kc : IntKind} {zl zc : Int} {ti : TypeInfo} {z v : Value} (hop : o.op = .makeSlice t xl xc) (hu : c.P.underlying t = some (.slice e)) (hs : c.P.info? e = some ti) (hz : ti.zero = some v) (hv : v.cells = #[z]) (hsz : ti.size = 1)
    (hxl : fev env xl = some (.int kl zl)) (hxc : fev env xc = some (.int kc zc)) (hl : zl = (l : Int)) (hc : zc = (m : Int)) (hlc : l ≤ m) (hb : ti.bytes * m ≤ 281474976710656) (h63 : m ≤ 9223372036854775807) :
    New c n env L o (fun b => .slice (some ⟨b, 0, none⟩) l m) (.cells (List.replicate m z).toArray e (0, 0)) := fun a w hk _ => by
  subst hl hc
  have h1 := run_make (P := c.P) w t e ti v hu hs hz kl kc (l : Int) (m : Int) (by omega) (by omega) (by
    have : ((ti.bytes * m : Nat) : Int) ≤ 281474976710656 := by omega
    rwa [Int.natCast_mul] at this) (by omega)
  simp only [execOp, hop, hk.eval hxl, hk.eval hxc]
  rw [Sem.run_bind, h1, hv, madeCells_one, hsz]
  simp

/-- Structs and arrays compared. -/
theorem V_aggeql {x y : Operand} {t yt : TypeId} {m D D' : Nat} {xs ys : Array Value} {lx ly : List Lit} (hop : o.op = .binOp .eql t x y yt) (hgt : c.P.eqGuardType c.P.depth t = false) (hkt : c.P.keyTypeAt m t = true) (hm : m ≤ 10000) (hfx : (Value.agg xs).formed c.P t = true) (hfy : (Value.agg ys).formed c.P t = true)
    (hx : fev env x = some (.agg xs)) (hy : fev env y = some (.agg ys)) (hlx : c.P.keyLits D t xs.toList = some lx) (hly : c.P.keyLits D' t ys.toList = some ly) : Val c n env L o (.bool (@decide (lx = ly) (Classical.propDecidable _))) := fun a w hk _ => by
  obtain ⟨r, hr, hi⟩ := run_equalIn_deep (P := c.P) (10000 - m) m t hkt w D D' (.agg xs) (.agg ys) lx ly hfx hfy (by simpa [Value.cells] using hlx) (by simpa [Value.cells] using hly)
  rw [show 10000 - m + m = 10000 by omega] at hr
  have hrd : r = @decide (lx = ly) (Classical.propDecidable _) := by
    by_cases h : lx = ly
    · rw [hi.2 h]; simp [h]
    · have : r = false := by rw [← Bool.not_eq_true]; exact fun e => h (hi.1 e)
      rw [this]; simp [h]
  simp only [execOp, hop, hk.eval hx, hk.eval hy]
  rw [Sem.run_bind, Sem.run_bind, run_eqGuard_agg w .eql t x y xs ys hgt]
  simp only [Result.andThen_ok, run_eql_struct, hr, hrd]
  rfl
theorem V_aggneq {x y : Operand} {t yt : TypeId} {m D D' : Nat} {xs ys : Array Value} {lx ly : List Lit} (hop : o.op = .binOp .neq t x y yt) (hgt : c.P.eqGuardType c.P.depth t = false) (hkt : c.P.keyTypeAt m t = true) (hm : m ≤ 10000) (hfx : (Value.agg xs).formed c.P t = true) (hfy : (Value.agg ys).formed c.P t = true)
    (hx : fev env x = some (.agg xs)) (hy : fev env y = some (.agg ys)) (hlx : c.P.keyLits D t xs.toList = some lx) (hly : c.P.keyLits D' t ys.toList = some ly) : Val c n env L o (.bool (@decide (¬ lx = ly) (Classical.propDecidable _))) := fun a w hk _ => by
  obtain ⟨r, hr, hi⟩ := run_equalIn_deep (P := c.P) (10000 - m) m t hkt w D D' (.agg xs) (.agg ys) lx ly hfx hfy (by simpa [Value.cells] using hlx) (by simpa [Value.cells] using hly)
  rw [show 10000 - m + m = 10000 by omega] at hr
  have hrd : (!r) = @decide (¬ lx = ly) (Classical.propDecidable _) := by
    by_cases h : lx = ly
    · rw [hi.2 h]; simp [h]
    · have : r = false := by rw [← Bool.not_eq_true]; exact fun e => h (hi.1 e)
      rw [this]; simp [h]
  simp only [execOp, hop, hk.eval hx, hk.eval hy]
  rw [Sem.run_bind, Sem.run_bind, run_eqGuard_agg w .neq t x y xs ys hgt]
  simp only [Result.andThen_ok, run_neq_struct, hr, hrd]
  rfl
end

theorem mapM_bytes (f : List Value → Option (List Lit)) (h : ∀ c : UInt8, f [.int .u8 (c.toNat : Int)] = some [.int .u8 (c.toNat : Int)]) (m : List UInt8) : ∀ (l p : List UInt8), p ++ l = m →
    (List.range' p.length l.length).mapM (fun i => f (((bcells m).drop (i * 1)).take 1)) = some (l.map fun c => [.int .u8 (c.toNat : Int)])
  | [], p, _ => by simp
  | c :: l, p, e => by
    have ih := mapM_bytes f h m l (p ++ [c]) (by simpa using e)
    simp only [List.length_cons, List.range'_succ, List.mapM_cons]
    have h0 : ((bcells m).drop (p.length * 1)).take 1 = [.int .u8 (c.toNat : Int)] := by
      rw [← e, Nat.mul_one, bcells_append, List.drop_left' (bcells_length p)]
      simp [bcells]
    rw [h0, h]
    simp only [List.length_append, List.length_cons, List.length_nil, Nat.zero_add] at ih
    simp only [Option.bind_eq_bind, Option.bind_some, List.map_cons]
    rw [ih]
    rfl
theorem flatten_ones {α β : Type} (f : α → β) : ∀ l : List α, (l.map fun c => [f c]).flatten = l.map f
  | [] => rfl
  | c :: l => by simp [flatten_ones f l]
theorem keyLits_bytes {P : Program} {t e : TypeId} {D N : Nat} (ht : P.underlying t = some (.array N e)) (he : P.underlying e = some (.int .u8)) (h1 : P.cellsOf e = 1) (hn : P.cellsOf t = N) (l : List UInt8) (hl : l.length = N) :
    P.keyLits (D + 2) t (bcells l).toArray.toList = some (l.map fun c => .int .u8 (c.toNat : Int)) := by
  unfold Program.keyLits
  simp only [ht]
  rw [if_pos (by simp [bcells_length, hl, hn]), h1]
  have := mapM_bytes (P.keyLits (D + 1) e) (fun c => by
    unfold Program.keyLits
    have hc := c.toNat_lt
    have hwf : (Lit.int .u8 (c.toNat : Int)).wf = true := by
      simp only [Lit.wf, IntKind.min, IntKind.max, IntKind.signed, IntKind.bits]
      simp
      omega
    simp [he, hwf]) l l [] rfl
  simp only [List.length_nil] at this
  rw [← hl, List.range_eq_range', this]
  simp only [Option.map_some]
  rw [flatten_ones]
theorem lits_bytes_inj {l m : List UInt8} (h : (l.map fun c => Lit.int .u8 (c.toNat : Int)) = m.map fun c => Lit.int .u8 (c.toNat : Int)) : l = m := by
  have := congrArg (List.map fun v => match v with | Lit.int _ n => UInt8.ofNat n.toNat | _ => 0) h
  simpa [Function.comp_def] using this
end Go.Proofs.YtkekkalgebgokaaDoor
