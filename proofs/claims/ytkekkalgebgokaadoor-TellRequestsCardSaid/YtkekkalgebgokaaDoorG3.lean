/- What single operations tell. No program in sight. -/
import Derived.Test.YtkekkalgebgokaaDoorG2
import Derived.Test.YtkekkalgebgokaaDoorOctetPlain
import Derived.IntWalk
import Derived.WalkLawsBesides
import Derived.WalkSpells
import Derived.Laws.StructEq
set_option linter.unusedSimpArgs false
set_option linter.unusedVariables false
namespace Go.Proofs.YtkekkalgebgokaaDoor
open Go Go.RowKit

/-- The value at a place of a list. -/
def nth : List Value → Nat → Option Value
  | [], _ => none
  | v :: _, 0 => some v
  | _ :: vs, i + 1 => nth vs i
theorem nth_eq : ∀ (l : List Value) (i : Nat), nth l i = l[i]?
  | [], _ => by simp [nth]
  | v :: _, 0 => by simp [nth]
  | _ :: vs, i + 1 => by simp [nth, nth_eq vs i]
theorem nth_of {cs : Array Value} {i : Nat} {v : Value} (h : cs[i]? = some v) : nth cs.toList i = some v := by rw [nth_eq]; simpa using h
theorem at_of {cs : Array Value} {i : Nat} {v : Value} (h : nth cs.toList i = some v) : cs[i]? = some v := by rw [nth_eq] at h; simpa using h
def isAggD : TypeDesc → Bool
  | .struct _ | .array _ _ => true
  | _ => false
section
variable {c : Cx} {n : Nat} {env : List (Nat × Value)} {L : List (Option Nat × Obj)} {k : List Item} {o : Oper}

theorem V_move {x : Operand} {v : Value} (hop : o.op = .move x) (hx : fev env x = some v) : Val c n env L o v := fun a w hk _ => by
  simp [execOp, hop, hk.eval hx]
theorem V_assign {x : Operand} {v : Value} (hop : o.op = .assign x) (hx : fev env x = some v) : Val c n env L o v := fun a w hk _ => by
  simp [execOp, hop, hk.eval hx]
theorem V_pickT {x y z : Operand} {v : Value} (hop : o.op = .pick x y z) (hx : fev env x = some (.bool true)) (hy : fev env y = some v) : Val c n env L o v := fun a w hk _ => by
  simp [execOp, hop, hk.eval hx, hk.eval hy, asBool]
theorem V_pickF {x y z : Operand} {v : Value} (hop : o.op = .pick x y z) (hx : fev env x = some (.bool false)) (hz : fev env z = some v) : Val c n env L o v := fun a w hk _ => by
  simp [execOp, hop, hk.eval hx, hk.eval hz, asBool]
theorem V_extract {x : Operand} {i : Nat} {vs : Array Value} {v : Value} (hop : o.op = .extract x i) (hx : fev env x = some (.tuple vs)) (hv : nth vs.toList i = some v) : Val c n env L o v := fun a w hk _ => by
  have hv := at_of hv
  simp [execOp, hop, hk.eval hx, Instr.extract, hv]
theorem V_func {fn : Fn} {xs ys : Array Operand} {us vs : List Value} (hop : o.op = .makeFunc fn xs ys) (hx : fevs env xs.toList = some us) (hy : fevs env ys.toList = some vs) : Val c n env L o (.func fn us.toArray vs.toArray) := fun a w hk _ => by
  have h1 : xs.map a.eval = us.toArray := by apply Array.toList_inj.1; simpa using hk.evals hx
  have h2 : ys.map a.eval = vs.toArray := by apply Array.toList_inj.1; simpa using hk.evals hy
  simp [execOp, hop, Instr.makeFunc, h1, h2]
theorem V_nilCheck {x : Operand} {p : Addr} (hop : o.op = .nilCheck x) (hx : fev env x = some (.pointer (some p))) : Val c n env L o (.pointer (some p)) := fun a w hk _ => by
  simp [execOp, hop, hk.eval hx]
theorem V_nilCheckF {x : Operand} {f : FuncId} {us vs : Array Value} (hop : o.op = .nilCheck x) (hx : fev env x = some (.func (.func f) us vs)) : Val c n env L o (.func (.func f) us vs) := fun a w hk _ => by
  simp [execOp, hop, hk.eval hx]

-- integers
section
variable {x y : Operand} {t yt : TypeId} {q : IntKind} {p r : Int}
theorem V_eql (hop : o.op = .binOp .eql t x y yt) (hx : fev env x = some (.int q p)) (hy : fev env y = some (.int q r)) : Val c n env L o (.bool (decide (p = r))) := fun a w hk _ => by
  simp only [execOp, hop, hk.eval hx, hk.eval hy]; simp [go_sem]
  rfl
theorem V_neq (hop : o.op = .binOp .neq t x y yt) (hx : fev env x = some (.int q p)) (hy : fev env y = some (.int q r)) : Val c n env L o (.bool (decide (¬ p = r))) := fun a w hk _ => by
  simp only [execOp, hop, hk.eval hx, hk.eval hy]; simp [go_sem, bne]; rfl
theorem V_lss (hop : o.op = .binOp .lss t x y yt) (hx : fev env x = some (.int q p)) (hy : fev env y = some (.int q r)) : Val c n env L o (.bool (decide (p < r))) := fun a w hk _ => by
  simp only [execOp, hop, hk.eval hx, hk.eval hy]; simp [go_sem]
theorem V_leq (hop : o.op = .binOp .leq t x y yt) (hx : fev env x = some (.int q p)) (hy : fev env y = some (.int q r)) : Val c n env L o (.bool (decide (p ≤ r))) := fun a w hk _ => by
  simp only [execOp, hop, hk.eval hx, hk.eval hy]; simp [go_sem]
theorem V_gtr (hop : o.op = .binOp .gtr t x y yt) (hx : fev env x = some (.int q p)) (hy : fev env y = some (.int q r)) : Val c n env L o (.bool (decide (r < p))) := fun a w hk _ => by
  simp only [execOp, hop, hk.eval hx, hk.eval hy]; simp [go_sem]
theorem V_geq (hop : o.op = .binOp .geq t x y yt) (hx : fev env x = some (.int q p)) (hy : fev env y = some (.int q r)) : Val c n env L o (.bool (decide (r ≤ p))) := fun a w hk _ => by
  simp only [execOp, hop, hk.eval hx, hk.eval hy]; simp [go_sem]
theorem V_add (hop : o.op = .binOp .add t x y yt) (hx : fev env x = some (.int q p)) (hy : fev env y = some (.int q r)) : Val c n env L o (.int q (q.wrap (p + r))) := fun a w hk _ => by
  simp only [execOp, hop, hk.eval hx, hk.eval hy]; simp [go_sem]
theorem V_sub (hop : o.op = .binOp .sub t x y yt) (hx : fev env x = some (.int q p)) (hy : fev env y = some (.int q r)) : Val c n env L o (.int q (q.wrap (p - r))) := fun a w hk _ => by
  simp only [execOp, hop, hk.eval hx, hk.eval hy]; simp [go_sem]
theorem V_mul (hop : o.op = .binOp .mul t x y yt) (hx : fev env x = some (.int q p)) (hy : fev env y = some (.int q r)) : Val c n env L o (.int q (q.wrap (p * r))) := fun a w hk _ => by
  simp only [execOp, hop, hk.eval hx, hk.eval hy]; simp [go_sem]
theorem wrap_i64 {e : Int} (h : -9223372036854775808 ≤ e ∧ e ≤ 9223372036854775807) : IntKind.i64.wrap e = e := by
  simp only [IntKind.wrap, IntKind.bits, IntKind.signed]
  simp
  omega
theorem wrap_u64 {e : Int} (h : 0 ≤ e ∧ e ≤ 18446744073709551615) : IntKind.u64.wrap e = e := by
  simp only [IntKind.wrap, IntKind.bits, IntKind.signed]
  simp
  omega
theorem wrap_u32 {e : Int} (h : 0 ≤ e ∧ e ≤ 4294967295) : IntKind.u32.wrap e = e := by
  simp only [IntKind.wrap, IntKind.bits, IntKind.signed]
  simp
  omega
theorem wrap_u8 {e : Int} (h : 0 ≤ e ∧ e ≤ 255) : IntKind.u8.wrap e = e := by
  simp only [IntKind.wrap, IntKind.bits, IntKind.signed]
  simp
  omega
theorem wrap_i32 {e : Int} (h : -2147483648 ≤ e ∧ e ≤ 2147483647) : IntKind.i32.wrap e = e := by
  simp only [IntKind.wrap, IntKind.bits, IntKind.signed]
  simp
  omega
theorem Val.int {e e' : Int} (h : Val c n env L o (.int q e)) (he : e = e') : Val c n env L o (.int q e') := he ▸ h
theorem V_quo (hop : o.op = .binOp .quo t x y yt) (hx : fev env x = some (.int q p)) (hy : fev env y = some (.int q r)) (h0 : 0 ≤ p) (h1 : 0 < r) (hw : q.wrap (p / r) = p / r) : Val c n env L o (.int q (p / r)) := fun a w hk _ => by
  have : ¬ r = 0 := by omega
  have e : p.tdiv r = p / r := Int.tdiv_eq_ediv_of_nonneg h0
  simp only [execOp, hop, hk.eval hx, hk.eval hy]; simp [go_sem, this, e, hw]
theorem V_rem (hop : o.op = .binOp .rem t x y yt) (hx : fev env x = some (.int q p)) (hy : fev env y = some (.int q r)) (h0 : 0 ≤ p) (h1 : 0 < r) : Val c n env L o (.int q (p % r)) := fun a w hk _ => by
  have : ¬ r = 0 := by omega
  have e : p.tmod r = p % r := Int.tmod_eq_emod_of_nonneg h0
  simp only [execOp, hop, hk.eval hx, hk.eval hy]; simp [go_sem, this, e]
theorem V_shl {yq : IntKind} (hop : o.op = .binOp .shl t x y yt) (hx : fev env x = some (.int q p)) (hy : fev env y = some (.int yq r)) (h0 : 0 ≤ r) : Val c n env L o (.int q (q.wrap (p * 2 ^ min r.toNat q.bits))) := fun a w hk _ => by
  have : ¬ r < 0 := by omega
  simp only [execOp, hop, hk.eval hx, hk.eval hy]; simp [go_sem, Op.shift, this]
theorem V_shr {yq : IntKind} (hop : o.op = .binOp .shr t x y yt) (hx : fev env x = some (.int q p)) (hy : fev env y = some (.int yq r)) (h0 : 0 ≤ r) : Val c n env L o (.int q (p / 2 ^ min r.toNat q.bits)) := fun a w hk _ => by
  have : ¬ r < 0 := by omega
  have e : p.fdiv (2 ^ min r.toNat q.bits) = p / 2 ^ min r.toNat q.bits := Int.fdiv_eq_ediv_of_nonneg _ (by exact Int.pow_nonneg (by omega))
  simp only [execOp, hop, hk.eval hx, hk.eval hy, eqGuard_shr, pure_bind, binOp_shr, Op.shift]
  rw [if_neg this, e]
  rfl
theorem V_conv {d : TypeDesc} {u : TypeId} (hop : o.op = .convert t u x) (hx : fev env x = some (.int q p)) (ht : c.P.underlying t = some d) {q' : IntKind} (hu : c.P.underlying u = some (.int q')) : Val c n env L o (.int q' (q'.wrap p)) := fun a w hk _ => by
  simp [execOp, hop, hk.eval hx, convert, run_underlying ht, run_underlying hu, Conv.intToInt]
end

-- truths
theorem V_not {x : Operand} {t : TypeId} {b : Bool} (hop : o.op = .unOp .not t x) (hx : fev env x = some (.bool b)) : Val c n env L o (.bool (!b)) := fun a w hk _ => by
  simp [execOp, hop, hk.eval hx, Op.unary]
theorem V_notD {x : Operand} {t : TypeId} {p : Prop} {inst : Decidable p} (hop : o.op = .unOp .not t x) (hx : fev env x = some (.bool (decide p))) : Val c n env L o (.bool (decide (¬ p))) := fun a w hk _ => by
  simp [execOp, hop, hk.eval hx, Op.unary]
theorem V_beql {x y : Operand} {t yt : TypeId} {b e : Bool} (hop : o.op = .binOp .eql t x y yt) (ht : c.P.underlying t = some .bool) (hx : fev env x = some (.bool b)) (hy : fev env y = some (.bool e)) : Val c n env L o (.bool (decide (b = e))) := fun a w hk _ => by
  simp only [execOp, hop, hk.eval hx, hk.eval hy, eqGuard_at_bool, pure_bind]
  simp only [Sem.run_bind, run_eql_bool w t b e ht]
  cases b <;> cases e <;> rfl
theorem V_bneq {x y : Operand} {t yt : TypeId} {b e : Bool} (hop : o.op = .binOp .neq t x y yt) (ht : c.P.underlying t = some .bool) (hx : fev env x = some (.bool b)) (hy : fev env y = some (.bool e)) : Val c n env L o (.bool (decide (¬ b = e))) := fun a w hk _ => by
  simp only [execOp, hop, hk.eval hx, hk.eval hy, eqGuard_at_bool, pure_bind]
  simp only [Sem.run_bind, run_neq_bool w t b e ht]
  cases b <;> cases e <;> rfl

-- texts
theorem bs_toList (l : List UInt8) : (bs l).toList = l := by
  rw [ByteArray.toList_eq]; rfl
theorem list_beq (l m : List UInt8) : (l == m) = decide (l = m) := by
  by_cases h : l = m <;> simp [h]
section
variable {x y : Operand} {t yt : TypeId} {l m : List UInt8}
theorem V_seql (hop : o.op = .binOp .eql t x y yt) (hx : fev env x = some (.string (bs l))) (hy : fev env y = some (.string (bs m))) : Val c n env L o (.bool (decide (l = m))) := fun a w hk _ => by
  simp only [execOp, hop, hk.eval hx, hk.eval hy]; simp [go_sem, binOp, Op.stringOp, bs_toList, list_beq]
theorem V_sneq (hop : o.op = .binOp .neq t x y yt) (hx : fev env x = some (.string (bs l))) (hy : fev env y = some (.string (bs m))) : Val c n env L o (.bool (decide (¬ l = m))) := fun a w hk _ => by
  simp only [execOp, hop, hk.eval hx, hk.eval hy]; simp [go_sem, binOp, Op.stringOp, bs_toList, list_beq]
theorem bs_append (l m : List UInt8) : bs l ++ bs m = bs (l ++ m) := bs_eq (by simp [bs])
theorem V_sadd (hop : o.op = .binOp .add t x y yt) (hx : fev env x = some (.string (bs l))) (hy : fev env y = some (.string (bs m))) (h : l.length + m.length ≤ 9223372036854775807) : Val c n env L o (.string (bs (l ++ m))) := fun a w hk _ => by
  have h' : ¬ IntKind.i64.max < (((bs l).size + (bs m).size : Nat) : Int) := by rw [IntKind.max_i64, bs_size, bs_size]; omega
  simp only [execOp, hop, hk.eval hx, hk.eval hy, eqGuard_add, pure_bind, binOp, Op.stringOp]
  rw [if_neg (by simpa using h'), bs_append]
  rfl
theorem V_slen {ts : Array TypeId} {ty : TypeId} {p : String} {e : Array Edge} {gd : Option (Nat × Bool)} {d : Option Tmp} (hop : o = ⟨d, .call ⟨.builtin .len, #[x], ts⟩, ty, p, e, gd⟩) (ht : ts[0]? = some t) (hu : c.P.underlying t = some .string) (hx : fev env x = some (.string (bs l))) : Val c n env L o (.int .i64 (l.length : Int)) := fun a w hk _ => by
  subst hop
  simp [execOp, hk.eval hx, resolve, invoke, builtin, Builtin.len_, ht, run_underlying hu, goInt, bs_size]
theorem V_sindex {q : IntKind} {i : Int} {v : UInt8} (hop : o.op = .index t x y) (hu : c.P.underlying t = some .string) (hx : fev env x = some (.string (bs l))) (hy : fev env y = some (.int q i)) (h0 : 0 ≤ i) (hv : l[i.toNat]? = some v) : Val c n env L o (.int .u8 (v.toNat : Int)) := fun a w hk _ => by
  have hv' : (bs l)[i.toNat]? = some v := by
    have hlt : i.toNat < l.length := (List.getElem?_eq_some_iff.1 hv).1
    rw [getElem?_pos (bs l) i.toNat (by rw [bs_size]; exact hlt)]
    have := (List.getElem?_eq_some_iff.1 hv).2
    rw [← this]
    rfl
  simp only [execOp, hop, hk.eval hx, hk.eval hy, Instr.index, asIntOf, Sem.run_bind, Sem.run_pure, Result.andThen_ok, run_underlying hu, if_pos h0, hv']
theorem bs_extract (l : List UInt8) (i j : Nat) : (bs l).extract i j = bs ((l.take j).drop i) := bs_eq (by simp [bs, List.drop_take])
theorem V_sslice {lo hi : Int} {q q' : IntKind} {xl xh : Operand} (hop : o.op = .slice t x (some xl) (some xh) none) (hu : c.P.underlying t = some .string) (hx : fev env x = some (.string (bs l))) (hl : fev env xl = some (.int q lo)) (hh : fev env xh = some (.int q' hi))
    (h0 : 0 ≤ lo) (h1 : lo ≤ hi) (h2 : hi ≤ l.length) : Val c n env L o (.string (bs ((l.take hi.toNat).drop lo.toNat))) := fun a w hk _ => by
  have e1 : 0 ≤ hi ∧ hi ≤ ((bs l).size : Int) := by rw [bs_size]; omega
  have e2 : 0 ≤ lo ∧ lo ≤ ((hi.toNat : Nat) : Int) := by omega
  simp only [execOp, hop, hk.eval hx, hk.eval hl, hk.eval hh, Option.map_some, Option.map_none, Instr.sliceAt, Instr.slice, Instr.sliceBounds, Instr.sliceBound, asIntOf, Sem.run_bind, Sem.run_pure, Result.andThen_ok, run_underlying hu, Option.isSome_none, Bool.false_eq_true, if_false, if_pos e1, if_pos e2, bs_extract]
theorem V_ssliceL {lo : Int} {q : IntKind} {xl : Operand} (hop : o.op = .slice t x (some xl) none none) (hu : c.P.underlying t = some .string) (hx : fev env x = some (.string (bs l))) (hl : fev env xl = some (.int q lo))
    (h0 : 0 ≤ lo) (h1 : lo ≤ l.length) : Val c n env L o (.string (bs (l.drop lo.toNat))) := fun a w hk _ => by
  have e2 : 0 ≤ lo ∧ lo ≤ ((bs l).size : Int) := by rw [bs_size]; omega
  simp only [execOp, hop, hk.eval hx, hk.eval hl, Option.map_some, Option.map_none, Instr.sliceAt, Instr.slice, Instr.sliceBounds, Instr.sliceBound, asIntOf, Sem.run_bind, Sem.run_pure, Result.andThen_ok, run_underlying hu, Option.isSome_none, Bool.false_eq_true, if_false, if_pos e2, bs_extract]
  rw [bs_size, List.take_length]
theorem V_ssliceH {hi : Int} {q' : IntKind} {xh : Operand} (hop : o.op = .slice t x none (some xh) none) (hu : c.P.underlying t = some .string) (hx : fev env x = some (.string (bs l))) (hh : fev env xh = some (.int q' hi))
    (h1 : 0 ≤ hi) (h2 : hi ≤ l.length) : Val c n env L o (.string (bs (l.take hi.toNat))) := fun a w hk _ => by
  have e1 : 0 ≤ hi ∧ hi ≤ ((bs l).size : Int) := by rw [bs_size]; omega
  simp only [execOp, hop, hk.eval hx, hk.eval hh, Option.map_some, Option.map_none, Instr.sliceAt, Instr.slice, Instr.sliceBounds, Instr.sliceBound, asIntOf, Sem.run_bind, Sem.run_pure, Result.andThen_ok, run_underlying hu, Option.isSome_none, Bool.false_eq_true, if_false, if_pos e1, bs_extract]
  try rfl
end

-- slices, pointers
theorem V_len {x : Operand} {t e : TypeId} {ts : Array TypeId} {ty : TypeId} {p : String} {es : Array Edge} {gd : Option (Nat × Bool)} {d : Option Tmp} {b : Option Addr} {i j : Nat} (hop : o = ⟨d, .call ⟨.builtin .len, #[x], ts⟩, ty, p, es, gd⟩) (ht : ts[0]? = some t) (hu : c.P.underlying t = some (.slice e)) (hx : fev env x = some (.slice b i j)) : Val c n env L o (.int .i64 (i : Int)) := fun a w hk _ => by
  subst hop
  simp [execOp, hk.eval hx, resolve, invoke, builtin, Builtin.len_, ht, run_underlying hu, goInt]
theorem V_peqlN {x y : Operand} {t e yt : TypeId} {p : Option Addr} (hop : o.op = .binOp .eql t x y yt) (hu : c.P.underlying t = some (.pointer e)) (hx : fev env x = some (.pointer p)) (hy : fev env y = some (.pointer none)) : Val c n env L o (.bool p.isNone) := fun a w hk _ => by
  have hq : c.P.pointee t = e := by simp [Program.pointee, hu]
  simp only [execOp, hop, hk.eval hx, hk.eval hy, eqGuard_at_pointer, pure_bind]
  simp only [Sem.run_bind, run_eql_pointer_nil w t p (by rw [hq]; exact hu)]
  rfl
theorem V_pneqN {x y : Operand} {t e yt : TypeId} {p : Option Addr} (hop : o.op = .binOp .neq t x y yt) (hu : c.P.underlying t = some (.pointer e)) (hx : fev env x = some (.pointer p)) (hy : fev env y = some (.pointer none)) : Val c n env L o (.bool p.isSome) := fun a w hk _ => by
  have hq : c.P.pointee t = e := by simp [Program.pointee, hu]
  simp only [execOp, hop, hk.eval hx, hk.eval hy, eqGuard_at_pointer, pure_bind]
  simp only [Sem.run_bind, run_neq_pointer_nil w t p (by rw [hq]; exact hu)]
  cases p <;> rfl
theorem V_fieldAddr {x : Operand} {t : TypeId} {i b off fo : Nat} {fs : Array Field} {f : Field} {ti : TypeInfo} (hop : o.op = .fieldAddr t x i) (hu : c.P.underlying t = some (.struct fs)) (hf : fs[i]? = some f) (hs : c.P.info? f.type = some ti) (hz : Nat.beq ti.size 0 = false) (hx : fev env x = some (.pointer (some ⟨b, off, none⟩))) (hfo : off + f.offset = fo) :
    Val c n env L o (.pointer (some ⟨b, fo, none⟩)) := fun a w hk _ => by
  have hz' : ¬ ti.size = 0 := fun e => by rw [e] at hz; simp at hz
  subst hfo
  simp [execOp, hop, hk.eval hx, Instr.fieldAt, run_underlying hu, hf, Instr.sureAddr, fieldPlace, sizeOf, typeInfo, hs, hz', Addr.add_lit]
theorem V_indexAddr {x y : Operand} {t e : TypeId} {ti : TypeInfo} {q : IntKind} {b off i j s : Nat} {z : Int} (hop : o.op = .indexAddr t x y) (hu : c.P.underlying t = some (.slice e)) (hs : c.P.info? e = some ti) (hz : ti.size = s) (hx : fev env x = some (.slice (some ⟨b, off, none⟩) i j)) (hy : fev env y = some (.int q z)) (h0 : 0 ≤ z) (h1 : z < i) :
    Val c n env L o (.pointer (some ⟨b, off + z.toNat * s, none⟩)) := fun a w hk _ => by
  subst hz
  simp [execOp, hop, hk.eval hx, hk.eval hy, Instr.indexAt, run_underlying hu, asIntOf, h0, h1, sizeOf, typeInfo, hs, Addr.add_lit]

-- structs
theorem V_field1 {x : Operand} {t : TypeId} {i : Nat} {fs : Array Field} {f : Field} {d : TypeDesc} {cs : Array Value} {v : Value} (hop : o.op = .field t x i) (hu : c.P.underlying t = some (.struct fs)) (hf : fs[i]? = some f) (hd : c.P.underlying f.type = some d) (hd1 : isAggD d = false)
    (hx : fev env x = some (.agg cs)) (hv : nth cs.toList f.offset = some v) : Val c n env L o v := fun a w hk _ => by
  have hv := at_of hv
  have hagg : (isAgg f.type).run c.P w = .ok false w := by
    unfold isAgg
    rw [Sem.run_bind, run_underlying hd w]
    cases d <;> first | rfl | exact Bool.noConfusion hd1
  simp [execOp, hop, hk.eval hx, Instr.field, run_underlying hu, hf, asAgg, part, hagg, hv]
theorem V_fieldA {x : Operand} {t : TypeId} {i : Nat} {fs : Array Field} {f : Field} {ti : TypeInfo} {d : TypeDesc} {cs vs : Array Value} (hop : o.op = .field t x i) (hu : c.P.underlying t = some (.struct fs)) (hf : fs[i]? = some f) (hd : c.P.underlying f.type = some d) (hd1 : isAggD d = true)
    (hs : c.P.info? f.type = some ti) (hx : fev env x = some (.agg cs)) (hv : cs.extract f.offset (f.offset + ti.size) = vs) : Val c n env L o (.agg vs) := fun a w hk _ => by
  have hagg : (isAgg f.type).run c.P w = .ok true w := by
    unfold isAgg
    rw [Sem.run_bind, run_underlying hd w]
    cases d <;> first | rfl | exact Bool.noConfusion hd1
  simp [execOp, hop, hk.eval hx, Instr.field, run_underlying hu, hf, asAgg, part, hagg, sizeOf, typeInfo, hs, hv]

-- memory
theorem V_load1 {x : Operand} {t T : TypeId} {b off : Nat} {cs : Array Value} {fr : Nat × Nat} {d : TypeDesc} {v : Value} (hop : o.op = .load t x) (hx : fev env x = some (.pointer (some ⟨b, off, none⟩))) (hm : (some b, Obj.cells cs T fr) ∈ c.A ++ L) (hv : nth cs.toList off = some v)
    (hd : c.P.underlying t = some d) (hd1 : isAggD d = false) : Val c n env L o v := fun a w hk hmm => by
  have hv := at_of hv
  have hagg : (isAgg t).run c.P w = .ok false w := by
    unfold isAgg
    rw [Sem.run_bind, run_underlying hd w]
    cases d <;> first | rfl | exact Bool.noConfusion hd1
  have hc : w.cell? ⟨b, off, none⟩ = some v := by rw [cell_of_row w b off cs T fr (hmm.has.both hm)]; exact hv
  simp [execOp, hop, hk.eval hx, Instr.loadAt, Instr.sureAddr, loadVar, hagg, hc]
theorem V_loadA {x : Operand} {t T : TypeId} {b off : Nat} {cs vs : Array Value} {fr : Nat × Nat} {d : TypeDesc} {ti : TypeInfo} (hop : o.op = .load t x) (hx : fev env x = some (.pointer (some ⟨b, off, none⟩))) (hm : (some b, Obj.cells cs T fr) ∈ c.A ++ L)
    (hd : c.P.underlying t = some d) (hd1 : isAggD d = true) {s : Nat} (hs : c.P.info? t = some ti) (hz : ti.size = s) (hv : cs.extract off (off + s) = vs) (hl : vs.size = s) : Val c n env L o (.agg vs) := fun a w hk hmm => by
  subst hz
  have hagg : (isAgg t).run c.P w = .ok true w := by
    unfold isAgg
    rw [Sem.run_bind, run_underlying hd w]
    cases d <;> first | rfl | exact Bool.noConfusion hd1
  have hw := hmm.has.both hm
  have h1 : (loadCells ⟨b, off, none⟩ vs.toList.length).run c.P w = .ok vs.toList.toArray w :=
    run_loadCells_list (P := c.P) w ⟨b, off, none⟩ vs.toList (fun j v hj => by
      rw [Addr.add_lit, cell_of_row w b (off + j) cs T fr hw]
      have hj' : vs[j]? = some v := by simpa using hj
      rw [← hv, Array.getElem?_extract] at hj'
      split at hj'
      · exact hj'
      · cases hj')
  simp only [Array.length_toList, Array.toArray_toList, hl] at h1
  simp [execOp, hop, hk.eval hx, Instr.loadAt, Instr.sureAddr, loadVar, hagg, sizeOf, typeInfo, hs, h1]
/-- A whole variable. -/
theorem V_loadW {x : Operand} {t T : TypeId} {b : Nat} {cs : Array Value} {fr : Nat × Nat} {d : TypeDesc} {ti : TypeInfo} (hop : o.op = .load t x) (hx : fev env x = some (.pointer (some ⟨b, 0, none⟩))) (hm : (some b, Obj.cells cs T fr) ∈ c.A ++ L)
    (hd : c.P.underlying t = some d) (hd1 : isAggD d = true) {s : Nat} (hs : c.P.info? t = some ti) (hz : ti.size = s) (hl : cs.size = s) : Val c n env L o (.agg cs) :=
  V_loadA hop hx hm hd hd1 hs hz (by rw [Nat.zero_add, ← hl]; simp) hl
theorem RV_cell {x : Tmp} {t T : TypeId} {b : Nat} {cs : Array Value} {fr : Nat × Nat} {d : TypeDesc} {ti : TypeInfo} (hx : fget env x = some (.pointer (some ⟨b, 0, none⟩))) (hm : (some b, Obj.cells cs T fr) ∈ c.A ++ L)
    (hd : c.P.underlying t = some d) (hd1 : isAggD d = true) {s : Nat} (hs : c.P.info? t = some ti) (hz : ti.size = s) (hl : cs.size = s) : RV c n env L (.cell x t) (.agg cs) := fun a w hk hmm => by
  subst hz
  have hg := hmm.has.both hm
  have h1 := hk.get _ _ hx
  have h2 := run_loadVar_row (P := c.P) w b T t cs fr d hg hd (by cases d <;> first | rfl | exact Bool.noConfusion hd1) (by rw [hs, hl]; rfl)
  show ((do loadVar t (← asAddr (a.tmps.getD x undef))) : Sem Value).run c.P w = _
  rw [h1]
  simp [asAddr, h2]
theorem RV_cell1 {x : Tmp} {t T : TypeId} {b off : Nat} {cs : Array Value} {fr : Nat × Nat} {d : TypeDesc} {v : Value} (hx : fget env x = some (.pointer (some ⟨b, off, none⟩))) (hm : (some b, Obj.cells cs T fr) ∈ c.A ++ L) (hv : nth cs.toList off = some v)
    (hd : c.P.underlying t = some d) (hd1 : isAggD d = false) : RV c n env L (.cell x t) v := fun a w hk hmm => by
  have hv := at_of hv
  have hg := hmm.has.both hm
  have h1 := hk.get _ _ hx
  have hagg : (isAgg t).run c.P w = .ok false w := by
    unfold isAgg
    rw [Sem.run_bind, run_underlying hd w]
    cases d <;> first | rfl | exact Bool.noConfusion hd1
  have hc : w.cell? ⟨b, off, none⟩ = some v := by rw [cell_of_row w b off cs T fr hg]; exact hv
  show ((do loadVar t (← asAddr (a.tmps.getD x undef))) : Sem Value).run c.P w = _
  rw [h1]
  simp [asAddr, loadVar, hagg, hc]

-- new blocks
theorem N_box {x : Operand} {T : TypeId} {v : Value} (hop : o.op = .box T x) (hx : fev env x = some v) : New c n env L o (fun b => .pointer (some ⟨b, 0, none⟩)) (.cells v.cells T) := fun a w hk _ => by
  simp [execOp, hop, hk.eval hx, Instr.box, newVar, newRow]
theorem N_boxA {x : Operand} {T : TypeId} {cs : Array Value} (hop : o.op = .box T x) (hx : fev env x = some (.agg cs)) : New c n env L o (fun b => .pointer (some ⟨b, 0, none⟩)) (.cells cs T (0, 0)) := N_box hop hx
theorem N_alloc {T : TypeId} {ti : TypeInfo} {v : Value} {cs : Array Value} (hop : o.op = .alloc T) (hs : c.P.info? T = some ti) (hz : ti.zero = some v) (hcs : v.cells = cs) : New c n env L o (fun b => .pointer (some ⟨b, 0, none⟩)) (.cells cs T) := fun a w hk _ => by
  subst hcs
  simp [execOp, hop, Instr.alloc, zeroValue, typeInfo, hs, hz, newVar, newRow]
theorem N_allocA {T : TypeId} {ti : TypeInfo} {cs : Array Value} (hop : o.op = .alloc T) (hs : c.P.info? T = some ti) (hz : ti.zero = some (.agg cs)) : New c n env L o (fun b => .pointer (some ⟨b, 0, none⟩)) (.cells cs T (0, 0)) := N_alloc hop hs hz rfl
theorem N_alloc1 {T : TypeId} {ti : TypeInfo} {v : Value} (hop : o.op = .alloc T) (hs : c.P.info? T = some ti) (hz : ti.zero = some v) (hv : v.cells = #[v]) : New c n env L o (fun b => .pointer (some ⟨b, 0, none⟩)) (.cells #[v] T (0, 0)) := N_alloc hop hs hz hv
theorem N_box1 {x : Operand} {T : TypeId} {v : Value} (hop : o.op = .box T x) (hx : fev env x = some v) (hv : v.cells = #[v]) : New c n env L o (fun b => .pointer (some ⟨b, 0, none⟩)) (.cells #[v] T (0, 0)) := hv ▸ N_box hop hx
theorem N_range {x : Operand} {t : TypeId} {s : ByteArray} (hop : o.op = .range t x) (hu : c.P.underlying t = some .string) (hx : fev env x = some (.string s)) : New c n env L o (fun b => .pointer (some ⟨b, 0, none⟩)) (.stringIter s 0) := fun a w hk _ => by
  simp [execOp, hop, hk.eval hx, Instr.range, run_underlying hu]

-- stores
theorem P_store1 {x y : Operand} {t T : TypeId} {b off : Nat} {cs : Array Value} {ti : TypeInfo} {v : Value} (hop : o.op = .store t x y) (hx : fev env x = some (.pointer (some ⟨b, off, none⟩))) (hy : fev env y = some v) (hm : (some b, Obj.cells cs T (0, 0)) ∈ L) (hoff : off < cs.size)
    (hs : c.P.info? t = some ti) (h1 : ti.size = 1) (hv : v.oneCell' = true) : Put c n env L o b (.cells (cs.setIfInBounds off v) T (0, 0)) := fun a w hk hmm => by
  have hw := hmm.lies hm
  have hc : w.cell? ⟨b, off, none⟩ = some cs[off] := by rw [cell_of_row w b off cs T (0, 0) hw]; simp [hoff]
  have hf := frozen_of_row w b off cs T hw
  have hcells : v.cells = #[v] := by cases v <;> first | rfl | simp [Value.oneCell'] at hv
  refine ⟨w.setCell ⟨b, off, none⟩ v, ?_, rfl, rfl, rfl, by simp, heap_setCell_same w b off cs T v hw, fun k hne => heap_setCell_other w _ k v hne⟩
  have hst : (storeVar t ⟨b, off, none⟩ v).run c.P w = .ok () (w.setCell ⟨b, off, none⟩ v) := by
    simp [storeVar, sizeOf, typeInfo, hs, h1, hcells, storeCells, Addr.add_zero', run_store _ _ _ _ _ hv, hc, hf]
  simp [execOp, hop, hk.eval hx, hk.eval hy, Instr.storeAt, Instr.sureAddr, hst]
theorem P_storeA {x y : Operand} {t T : TypeId} {b : Nat} {cs vs : Array Value} {ti : TypeInfo} (hop : o.op = .store t x y) (hx : fev env x = some (.pointer (some ⟨b, 0, none⟩))) (hy : fev env y = some (.agg vs)) (hm : (some b, Obj.cells cs T (0, 0)) ∈ L) (hsz : cs.size = vs.size)
    {s : Nat} (hs : c.P.info? t = some ti) (hz : ti.size = s) (h1 : vs.size = s) (hv : vs.all (·.oneCell') = true) : Put c n env L o b (.cells vs T (0, 0)) := fun a w hk hmm => by
  subst hz
  have hw := hmm.lies hm
  have hst := run_storeVar_row (P := c.P) w b T t cs vs hw (by rw [hs, h1]; rfl) hsz hv
  refine ⟨w.setRow b vs, ?_, rfl, rfl, rfl, by simp, setRow_heap w b cs vs T _ hw, fun k hne => setRow_other w b k vs hne⟩
  simp [execOp, hop, hk.eval hx, hk.eval hy, Instr.storeAt, Instr.sureAddr, hst]
end
end Go.Proofs.YtkekkalgebgokaaDoor
