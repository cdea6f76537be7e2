/- What the law TellStates needs, part 2. -/
import Derived.Test.YtjnaeoelnmhjfaaDoorPkTellStates1
import Derived.Laws.RangeString
import Derived.Shelf.Strconv.Itoa3

/- Structs and slices that are built out of parts. No program in sight. -/
set_option linter.unusedSimpArgs false
set_option linter.unusedVariables false
namespace Go.Proofs.YtjnaeoelnmhjfaaDoor
open Go Go.RowKit

/-- Cells with others laid over them, from a place on. -/
def ovl : List Value → Nat → List Value → List Value
  | zs, _, [] => zs
  | zs, off, v :: vs => ovl (zs.set off v) (off + 1) vs
def ovls : List Value → List (Nat × List Value) → List Value
  | zs, [] => zs
  | zs, (off, vs) :: r => ovls (ovl zs off vs) r
theorem ovl_length : ∀ (vs zs : List Value) (off : Nat), (ovl zs off vs).length = zs.length
  | [], _, _ => rfl
  | v :: vs, zs, off => by simp [ovl, ovl_length vs]
theorem fold_ovl (off : Nat) : ∀ (vs : List Value) (j : Nat) (zs : Array Value), (vs.zipIdx j).foldl (fun a (p : Value × Nat) => a.setIfInBounds (off + p.2) p.1) zs = (ovl zs.toList (off + j) vs).toArray
  | [], _, zs => by simp [ovl]
  | v :: vs, j, zs => by
    simp only [List.zipIdx_cons, List.foldl_cons]
    rw [fold_ovl off vs (j + 1)]
    simp [ovl, Nat.add_assoc]
/-- What a build lays where. -/
def fillOf (pl : List (Nat × Nat)) (n : Nat) : List (Nat × Value) → Option (List (Nat × List Value))
  | [] => some []
  | (i, v) :: r => match pl[i]? with
    | none => none
    | some (off, size) => match Nat.beq v.cells.size size && Nat.ble (off + v.cells.size) n with
      | false => none
      | true => match fillOf pl n r with
        | none => none
        | some l => some ((off, v.cells.toList) :: l)
theorem fill_of (pl : List (Nat × Nat)) (n : Nat) : ∀ (parts : List (Nat × Value)) (zs : Array Value) (ol : List (Nat × List Value)), zs.size = n → fillOf pl n parts = some ol →
    Instr.fill (fun i => pl.toArray[i]?) zs parts = some (ovls zs.toList ol).toArray
  | [], zs, ol, _, h => by
    simp only [fillOf, Option.some.injEq] at h
    subst h
    simp [Instr.fill, ovls]
  | (i, v) :: r, zs, ol, hn, h => by
    simp only [fillOf] at h
    split at h
    · cases h
    · rename_i off size hp
      split at h
      · cases h
      · rename_i hb
        split at h
        · cases h
        · rename_i l hl
          simp only [Option.some.injEq] at h
          subst h
          rw [Bool.and_eq_true] at hb
          have h1 := Nat.eq_of_beq_eq_true hb.1
          have h2 := Nat.le_of_ble_eq_true hb.2
          have hp' : pl.toArray[i]? = some (off, size) := by simpa using hp
          simp only [Instr.fill, hp']
          rw [if_neg (by simp [h1, hn]; omega)]
          have e : v.cells.zipIdx.foldl (fun cs (x : Value × Nat) => cs.setIfInBounds (off + x.2) x.1) zs = (ovl zs.toList off v.cells.toList).toArray := by
            rw [← Array.foldl_toList, Array.toList_zipIdx]
            exact fold_ovl off v.cells.toList 0 zs
          have ih := fill_of pl n r (ovl zs.toList off v.cells.toList).toArray l (by simp [ovl_length]; simpa using hn) hl
          simp only [ovls]
          rw [← ih]
          exact congrArg (fun z => Instr.fill (fun i => pl.toArray[i]?) z r) e

def placesOf (P : Program) (fs : Array Field) : Option (List (Nat × Nat)) := fs.toList.mapM (fun f => (P.info? f.type).map fun i => (f.offset, i.size))

section
variable {c : Cx} {n : Nat} {env : List (Nat × Value)} {L : List (Option Nat × Obj)} {k : List Item} {o : Oper}
theorem V_buildS {t : TypeId} {parts : Array (Nat × Operand)} {vs cs : List Value} {fs : Array Field} {ti : TypeInfo} {zs : List Value} {pl : List (Nat × Nat)} {ol : List (Nat × List Value)} (hop : o.op = .build t parts) (hu : c.P.underlying t = some (.struct fs)) (hi : c.P.info? t = some ti) (hz : ti.zero = some (.agg zs.toArray)) (hpl : placesOf c.P fs = some pl)
    (hx : fevs env (parts.toList.map (·.2)) = some vs) (hol : fillOf pl zs.length ((parts.toList.map (·.1)).zip vs) = some ol) (hcs : ovls zs ol = cs) : Val c n env L o (.agg cs.toArray) := by
  subst hcs
  refine V_build hop hx ?_
  unfold Program.built
  simp only [hi, hu, hz]
  unfold placesOf at hpl
  simp only [hpl, Value.cells]
  have := fill_of pl zs.length ((parts.toList.map (·.1)).zip vs) zs.toArray ol (by simp) hol
  simpa using this
/-- A slice built out of parts. -/
theorem N_buildSlice {t e len s : Nat} {parts : Array (Nat × Operand)} {vs cs : List Value} {ti : TypeInfo} {zs : List Value} {z : Value} {ol : List (Nat × List Value)} (hop : o.op = .buildSlice t len parts) (hu : c.P.underlying t = some (.slice e)) (hi : c.P.info? e = some ti) (hsz : ti.size = s) (hz : ti.zero = some z) (hzs : ((Array.range (len * s)).map (z.cells[· % z.cells.size]!)).toList = zs) (hl : Nat.ble (len * s) 16777216 = true) (hpos : Nat.beq (len * s) 0 = false)
    (hx : fevs env (parts.toList.map (·.2)) = some vs) (hol : fillOf ((List.range len).map fun i => (i * s, s)) zs.length ((parts.toList.map (·.1)).zip vs) = some ol) (hcs : ovls zs ol = cs) :
    New c n env L o (fun b => .slice (some ⟨b, 0, none⟩) len len) (.cells cs.toArray e (0, 0)) := fun a w hk _ => by
  subst hcs hsz
  have hl' : ¬ 16777216 < len * ti.size := by simpa using hl
  have hp' : ¬ len * ti.size = 0 := fun e => by rw [e] at hpos; simp at hpos
  have h1 := hk.evals hx
  have h2 : (parts.map fun (i, x) => (i, a.eval x)).toList = (parts.toList.map (·.1)).zip vs := by
    rw [← h1]
    simp only [Array.toList_map, List.map_map]
    generalize parts.toList = ps
    induction ps with
    | nil => rfl
    | cons p ps ih => simp [ih]
  have h3 := fill_of ((List.range len).map fun i => (i * ti.size, ti.size)) zs.length ((parts.toList.map (·.1)).zip vs) zs.toArray ol (by simp) hol
  have hplace : ∀ i, i < len → ((List.range len).map fun i => (i * ti.size, ti.size)).toArray[i]? = some (i * ti.size, ti.size) := fun i hi => by simp [hi]
  have fillEq : ∀ (ps : List (Nat × Value)) (zz : Array Value) r, Instr.fill (fun i => ((List.range len).map fun i => (i * ti.size, ti.size)).toArray[i]?) zz ps = some r → Instr.fill (fun i => some (i * ti.size, ti.size)) zz ps = some r := by
    intro ps
    induction ps with
    | nil => exact fun zz r h => h
    | cons p ps ih =>
      obtain ⟨i, v⟩ := p
      intro zz r h
      simp only [Instr.fill] at h ⊢
      by_cases hi : i < len
      · rw [hplace i hi] at h
        simp only at h
        split at h
        · cases h
        · rename_i hc
          rw [if_neg hc]
          exact ih _ _ h
      · have : ((List.range len).map fun i => (i * ti.size, ti.size)).toArray[i]? = none := by simp; omega
        rw [this] at h
        cases h
  have h4 := fillEq _ _ _ h3
  have hzs' : (Array.range (len * ti.size)).map (fun x => z.cells[x % z.cells.size]!) = zs.toArray := by
    apply Array.toList_inj.1
    simpa using hzs
  simp only [execOp, hop]
  simp [Instr.buildSlice, run_underlying hu, sizeOf, typeInfo, hi, hl', hp', zeroValue, hz, hzs']
  rw [Array.toList_map] at h2
  rw [h2]
  simp [h4, newRow]
/-- The cells of values, one behind the other. -/
def flat : List Value → List Value
  | [] => []
  | v :: vs => v.cells.toList ++ flat vs
def sized (s : Nat) : List Value → Bool
  | [] => true
  | v :: vs => Nat.beq v.cells.size s && sized s vs
theorem ovl_mid : ∀ (vs pre zs : List Value), vs.length ≤ zs.length → ovl (pre ++ zs) pre.length vs = pre ++ vs ++ zs.drop vs.length
  | [], pre, zs, _ => by simp [ovl]
  | v :: vs, pre, [], h => by simp at h
  | v :: vs, pre, z :: zs, h => by
    have ih := ovl_mid vs (pre ++ [v]) zs (by simpa using h)
    simp only [ovl]
    rw [List.set_append_right _ _ (Nat.le_refl _), Nat.sub_self, List.set_cons_zero]
    simp only [List.length_append, List.length_cons, List.length_nil, Nat.zero_add, List.append_assoc, List.singleton_append] at ih
    rw [ih]
    simp
theorem zip_range_succ (i : Nat) (v : Value) (vs : List Value) (m : Nat) : (List.range' i (m + 1)).zip (v :: vs) = (i, v) :: (List.range' (i + 1) m).zip vs := by
  simp [List.range'_succ]
theorem fill_all (len s : Nat) : ∀ (vs pre zs : List Value) (i : Nat), sized s vs = true → i + vs.length = len → pre.length = i * s → zs.length = vs.length * s → ∃ ol, fillOf ((List.range len).map fun i => (i * s, s)) (len * s) ((List.range' i vs.length).zip vs) = some ol ∧ ovls (pre ++ zs) ol = pre ++ flat vs
  | [], pre, zs, i, _, _, _, hz => by
    have : zs = [] := List.length_eq_zero_iff.1 (by simpa using hz)
    subst this
    exact ⟨[], rfl, by simp [ovls, flat]⟩
  | v :: vs, pre, zs, i, hs, hl, hp, hz => by
    simp only [sized, Bool.and_eq_true] at hs
    have h1 := Nat.eq_of_beq_eq_true hs.1
    have hlen : v.cells.toList.length = s := by simpa using h1
    have hl' : i + 1 + vs.length = len := by simp only [List.length_cons] at hl; omega
    have hz' : zs.length = s + vs.length * s := by rw [hz, List.length_cons, Nat.succ_mul]; omega
    obtain ⟨ol, ho, hov⟩ := fill_all len s vs (pre ++ v.cells.toList) (zs.drop s) (i + 1) hs.2 hl' (by rw [List.length_append, hlen, hp, Nat.succ_mul]) (by rw [List.length_drop, hz']; omega)
    refine ⟨(i * s, v.cells.toList) :: ol, ?_, ?_⟩
    · rw [List.length_cons, zip_range_succ]
      unfold fillOf
      have hi : ((List.range len).map fun i => (i * s, s))[i]? = some (i * s, s) := by
        rw [List.getElem?_map, List.getElem?_range (by omega)]; rfl
      simp only [hi]
      have hb : (Nat.beq v.cells.size s && Nat.ble (i * s + v.cells.size) (len * s)) = true := by
        rw [Bool.and_eq_true]
        refine ⟨by rw [h1]; exact Nat.beq_refl s, Nat.ble_eq_true_of_le ?_⟩
        rw [h1, ← hl', Nat.add_mul, Nat.add_mul]
        omega
      rw [hb]
      simp only [ho]
    · simp only [ovls]
      rw [← hp, ovl_mid v.cells.toList pre zs (by rw [hlen, hz']; omega), hlen, hov]
      simp [flat]
theorem N_buildAll {t e len s : Nat} {parts : Array (Nat × Operand)} {vs cs : List Value} {ti : TypeInfo} {z : Value} (hop : o.op = .buildSlice t len parts) (hu : c.P.underlying t = some (.slice e)) (hi : c.P.info? e = some ti) (hsz : ti.size = s) (hz : ti.zero = some z) (hl : Nat.ble (len * s) 16777216 = true) (hpos : Nat.beq (len * s) 0 = false)
    (hidx : parts.toList.map (·.1) = List.range' 0 len) (hx : fevs env (parts.toList.map (·.2)) = some vs) (hlen : vs.length = len) (hok : sized s vs = true) (hcs : flat vs = cs) :
    New c n env L o (fun b => .slice (some ⟨b, 0, none⟩) len len) (.cells cs.toArray e (0, 0)) := by
  subst hcs
  have hzl : ((Array.range (len * s)).map (z.cells[· % z.cells.size]!)).toList.length = vs.length * s := by simp [hlen]
  obtain ⟨ol, ho, hov⟩ := fill_all len s vs [] ((Array.range (len * s)).map (z.cells[· % z.cells.size]!)).toList 0 hok (by omega) (by simp) hzl
  refine N_buildSlice (zs := ((Array.range (len * s)).map (z.cells[· % z.cells.size]!)).toList) (ol := ol) hop hu hi hsz hz rfl hl hpos hx ?_ (by simpa using hov)
  rw [hzl, hidx, hlen]
  rw [hlen] at ho
  exact ho
end
end Go.Proofs.YtjnaeoelnmhjfaaDoor

/- A range over a text whose bytes are below 128; a slice's parts; a text out of a slice of one's own. No program in sight. -/
set_option linter.unusedSimpArgs false
set_option linter.unusedVariables false
namespace Go.Proofs.YtjnaeoelnmhjfaaDoor
open Go Go.RowKit

section
variable {c : Cx} {n : Nat} {env : List (Nat × Value)} {L : List (Option Nat × Obj)} {k : List Item} {o : Oper}
theorem P_next {x : Operand} {b i : Nat} {l : List UInt8} (hop : o.op = .next x true) (hx : fev env x = some (.pointer (some ⟨b, 0, none⟩))) (hm : (some b, Obj.stringIter (bs l) i) ∈ L) (hi : i < l.length) (ha : (l.getD i 0).toNat < 128) :
    PutV c n env L o b (.stringIter (bs l) (i + 1)) (.tuple #[.bool true, .int .i64 (i : Int), .int .i32 ((l.getD i 0).toNat : Int)]) := fun a w hk hmm => by
  have hw := hmm.lies hm
  have hs : i < (bs l).size := by rw [bs_size]; exact hi
  have he : (bs l)[i]'hs = l.getD i 0 := by
    rw [List.getD_eq_getElem?_getD, List.getElem?_eq_getElem hi]
    rfl
  have ha' : ((bs l)[i]'hs).toNat < 128 := by rw [he]; exact ha
  have hlt : b < w.heap.size := by
    rcases Nat.lt_or_ge b w.heap.size with h | h
    · exact h
    · rw [Array.getElem?_eq_none h] at hw; cases hw
  refine ⟨{ w with heap := w.heap.setIfInBounds b (.stringIter (bs l) (i + 1)) }, ?_, rfl, rfl, rfl, by simp, by simp [hlt], fun k hne => by simp [Array.getElem?_setIfInBounds_ne (fun e => hne e.symm)]⟩
  simp only [execOp, hop, hk.eval hx]
  simp only [Instr.next, getObj, setObj, Sem.run_bind, Sem.run, hw, Result.andThen, hs, if_true, decode_ascii (bs l) i hs ha', he]
  rfl
theorem V_nextE {x : Operand} {b i : Nat} {l : List UInt8} (hop : o.op = .next x true) (hx : fev env x = some (.pointer (some ⟨b, 0, none⟩))) (hm : (some b, Obj.stringIter (bs l) i) ∈ L) (hi : l.length ≤ i) : Val c n env L o (.tuple #[.bool false]) := fun a w hk hmm => by
  have hw := hmm.lies hm
  have hs : ¬ i < (bs l).size := by rw [bs_size]; omega
  simp only [execOp, hop, hk.eval hx]
  simp only [Instr.next, getObj, setObj, Sem.run_bind, Sem.run, hw, Result.andThen, hs, if_false]
  rfl

/-- A slice against nil. -/
theorem V_sleqlN {x y : Operand} {t e yt : TypeId} {p : Option Addr} {i j : Nat} (hop : o.op = .binOp .eql t x y yt) (hu : c.P.underlying t = some (.slice e)) (hx : fev env x = some (.slice p i j)) (hy : fev env y = some (.slice none 0 0)) : Val c n env L o (.bool p.isNone) := fun a w hk _ => by
  simp only [execOp, hop, hk.eval hx, hk.eval hy, eqGuard_at_slice, pure_bind]
  rw [Sem.run_bind]
  have : (binOp .eql t (.slice p i j) (.slice none 0 0)).run c.P w = .ok (.bool p.isNone) w := by
    simp only [binOp]
    simp [run_equal_slice_nil w t e p i j hu]
  rw [this]
  rfl
theorem V_slneqN {x y : Operand} {t e yt : TypeId} {p : Option Addr} {i j : Nat} (hop : o.op = .binOp .neq t x y yt) (hu : c.P.underlying t = some (.slice e)) (hx : fev env x = some (.slice p i j)) (hy : fev env y = some (.slice none 0 0)) : Val c n env L o (.bool p.isSome) := fun a w hk _ => by
  simp only [execOp, hop, hk.eval hx, hk.eval hy, eqGuard_at_slice, pure_bind]
  rw [Sem.run_bind]
  have : (binOp .neq t (.slice p i j) (.slice none 0 0)).run c.P w = .ok (.bool p.isSome) w := by
    simp only [binOp]
    cases p <;> simp [run_equal_slice_nil w t e _ i j hu]
  rw [this]
  rfl

/-- A part of a slice. -/
theorem V_sliceLH {x xl xh : Operand} {t e : TypeId} {ti : TypeInfo} {s b off len cap lo hi : Nat} {q q' : IntKind} {zl zh : Int} (hop : o.op = .slice t x (some xl) (some xh) none) (hu : c.P.underlying t = some (.slice e)) (hs : c.P.info? e = some ti) (hsz : ti.size = s) (hx : fev env x = some (.slice (some ⟨b, off, none⟩) len cap))
    (hl : fev env xl = some (.int q zl)) (hh : fev env xh = some (.int q' zh)) (el : zl = (lo : Int)) (eh : zh = (hi : Int)) (h1 : lo ≤ hi) (h2 : hi ≤ cap) : Val c n env L o (.slice (some ⟨b, if cap = lo then off else off + lo * s, none⟩) (hi - lo) (cap - lo)) := fun a w hk _ => by
  subst el eh hsz
  have e1 : (0 : Int) ≤ (hi : Int) ∧ (hi : Int) ≤ (cap : Int) := by omega
  have e2 : (0 : Int) ≤ (lo : Int) ∧ (lo : Int) ≤ (hi : Int) := by omega
  simp only [execOp, hop, hk.eval hx, hk.eval hl, hk.eval hh, Option.map_some, Option.map_none, Instr.sliceAt, Instr.slice, run_underlying hu, Instr.sliceBounds, Instr.sliceBound, asIntOf, Sem.run_bind, Sem.run_pure, Result.andThen_ok, if_pos e1, if_pos e2, sizeOf, typeInfo, run_program, hs, Int.toNat_natCast, Option.isSome_none, Bool.false_eq_true, if_false, if_true]
  by_cases h : cap = lo
  · simp [h]
  · simp [h, Addr.add_lit]
theorem V_sliceH {x xh : Operand} {t e : TypeId} {ti : TypeInfo} {len cap hi : Nat} {p : Option Addr} {q' : IntKind} {zh : Int} (hop : o.op = .slice t x none (some xh) none) (hu : c.P.underlying t = some (.slice e)) (hs : c.P.info? e = some ti) (hx : fev env x = some (.slice p len cap))
    (hh : fev env xh = some (.int q' zh)) (eh : zh = (hi : Int)) (h2 : hi ≤ cap) : Val c n env L o (.slice p hi cap) := fun a w hk _ => by
  subst eh
  have e1 : (0 : Int) ≤ (hi : Int) ∧ (hi : Int) ≤ (cap : Int) := by omega
  simp only [execOp, hop, hk.eval hx, hk.eval hh, Option.map_some, Option.map_none, Instr.sliceAt, Instr.slice, run_underlying hu, Instr.sliceBounds, Instr.sliceBound, asIntOf, Sem.run_bind, Sem.run_pure, Result.andThen_ok, if_pos e1, sizeOf, typeInfo, run_program, hs, Int.toNat_natCast, Option.isSome_none, Bool.false_eq_true, if_false, if_true]
  cases p with
  | none => by_cases h : cap = 0 <;> simp [h]
  | some ad => by_cases h : cap = 0 <;> simp [h, Addr.add_zero']
end
end Go.Proofs.YtjnaeoelnmhjfaaDoor

/- strings.Builder: what is written, one behind the other. -/
set_option linter.unusedSimpArgs false
set_option linter.unusedVariables false
namespace Go.Proofs.YtjnaeoelnmhjfaaDoor
open Go Go.RowKit

section
theorem infBld_5 : Tryd.prog.info? 5 = some Tryd.t5 := by kernel_rfl
theorem infBld_54 : Tryd.prog.info? 54 = some Tryd.t54 := by kernel_rfl
theorem infBld_55 : Tryd.prog.info? 55 = some Tryd.t55 := by kernel_rfl
theorem infBld_57 : Tryd.prog.info? 57 = some Tryd.t57 := by kernel_rfl

set_option maxRecDepth 100000 in
set_option maxHeartbeats 1000000 in
theorem copy_fresh (b : Nat) (s : Value) (hs : s.oneCell' = true) :
    Ct Tryd.prog 49 [.pointer (some ⟨b, 0, none⟩)] [] [(some b, .cells #[.pointer none, s] 57 (0, 0))] fun v post => v = .tuple #[] ∧ post = [(some b, .cells #[.pointer (some ⟨b, 0, none⟩), s] 57 (0, 0))] := by
 refine ct_of Tryd.func49 rfl rfl (fun w0 => ?_)
 show G _ _ [(0, _)] _ _
 refine G_seq ?_
 refine G_region (l := [0, 1, 2, 3, 4]) rfl ?_
 refine G_val rfl rfl rfl rfl (V_move rfl rfl) ?_
 first
   | refine G_val rfl rfl rfl rfl (V_nilCheck rfl rfl) ?_
   | refine G_val rfl rfl rfl rfl (V_nilCheckF rfl rfl) ?_
 refine G_val rfl rfl rfl rfl (V_fieldAddr (fo := 0) rfl Tryd.underlying57 rfl infBld_54 rfl rfl rfl) ?_
 refine G_val rfl rfl rfl rfl (V_load1 rfl rfl (mem_at 0 rfl) rfl Tryd.underlying54 rfl) ?_
 refine G_val rfl rfl rfl rfl (V_peqlN rfl Tryd.underlying54 rfl rfl) ?_
 refine G_done ?_
 refine G_then rfl ?_
 refine G_region (l := [0, 1, 2, 3, 4, 5, 6, 7]) rfl ?_
 refine G_val rfl rfl rfl rfl (V_move rfl rfl) ?_
 refine G_val rfl rfl rfl rfl (V_move rfl rfl) ?_
 refine G_val rfl rfl rfl rfl (V_toUnsafe rfl rfl Tryd.underlying54 Tryd.underlying125 infBld_57 rfl (mem_at 0 rfl) (by simp)) ?_
 refine G_val rfl rfl rfl rfl (V_extern (ev := Extern.AbiNoEscape.same) rfl rfl Tryd.func58 (by kernel_rfl) (by kernel_rfl) (by kernel_rfl) (by kernel_rfl) (fun w => rfl)) ?_
 refine G_val rfl rfl rfl rfl (V_fromUnsafe rfl rfl Tryd.underlying54 Tryd.underlying125 infBld_57 (mem_at 0 rfl) (by kernel_rfl)) ?_
 first
   | refine G_val rfl rfl rfl rfl (V_nilCheck rfl rfl) ?_
   | refine G_val rfl rfl rfl rfl (V_nilCheckF rfl rfl) ?_
 refine G_val rfl rfl rfl rfl (V_fieldAddr (fo := 0) rfl Tryd.underlying57 rfl infBld_54 rfl rfl rfl) ?_
 refine G_put (l1 := []) (L' := [_]) rfl rfl rfl rfl (P_store1 rfl rfl rfl (mem_at 0 rfl) (by first | exact of_decide_eq_true rfl | omega | (simp; done) | (simp; omega) | (simp at *; omega)) infBld_54 rfl rfl) rfl ?_
 refine G_done ?_
 refine G_end (post := [_]) Tryd.func49 rfl RVs_nil [0] rfl ?_
 dsimp only [packed]
 exact ⟨rfl, rfl⟩

set_option maxRecDepth 100000 in
set_option maxHeartbeats 1000000 in
theorem copy_used (b : Nat) (s : Value) :
    Ct Tryd.prog 49 [.pointer (some ⟨b, 0, none⟩)] [] [(some b, .cells #[.pointer (some ⟨b, 0, none⟩), s] 57 (0, 0))] fun v post => v = .tuple #[] ∧ post = [(some b, .cells #[.pointer (some ⟨b, 0, none⟩), s] 57 (0, 0))] := by
 refine ct_of Tryd.func49 rfl rfl (fun w0 => ?_)
 show G _ _ [(0, _)] _ _
 refine G_seq ?_
 refine G_region (l := [0, 1, 2, 3, 4]) rfl ?_
 refine G_val rfl rfl rfl rfl (V_move rfl rfl) ?_
 first
   | refine G_val rfl rfl rfl rfl (V_nilCheck rfl rfl) ?_
   | refine G_val rfl rfl rfl rfl (V_nilCheckF rfl rfl) ?_
 refine G_val rfl rfl rfl rfl (V_fieldAddr (fo := 0) rfl Tryd.underlying57 rfl infBld_54 rfl rfl rfl) ?_
 refine G_val rfl rfl rfl rfl (V_load1 rfl rfl (mem_at 0 rfl) rfl Tryd.underlying54 rfl) ?_
 refine G_val rfl rfl rfl rfl (V_peqlN rfl Tryd.underlying54 rfl rfl) ?_
 refine G_done ?_
 refine G_else rfl ?_
 refine G_seq ?_
 refine G_region (l := [0, 1, 2, 3, 4, 5]) rfl ?_
 refine G_val rfl rfl rfl rfl (V_move rfl rfl) ?_
 first
   | refine G_val rfl rfl rfl rfl (V_nilCheck rfl rfl) ?_
   | refine G_val rfl rfl rfl rfl (V_nilCheckF rfl rfl) ?_
 refine G_val rfl rfl rfl rfl (V_fieldAddr (fo := 0) rfl Tryd.underlying57 rfl infBld_54 rfl rfl rfl) ?_
 refine G_val rfl rfl rfl rfl (V_load1 rfl rfl (mem_at 0 rfl) rfl Tryd.underlying54 rfl) ?_
 refine G_val rfl rfl rfl rfl (V_move rfl rfl) ?_
 refine G_val rfl rfl rfl rfl (V_pneqSame rfl Tryd.underlying54 infBld_57 rfl rfl) ?_
 refine G_done ?_
 refine G_else rfl ?_
 refine G_skip ?_
 refine G_end (post := [_]) Tryd.func49 rfl RVs_nil [0] rfl ?_
 dsimp only [packed]
 exact ⟨rfl, rfl⟩


def UsedOr (b : Nat) (p : Value) : Prop := p = .pointer none ∨ p = .pointer (some ⟨b, 0, none⟩)
theorem UsedOr.self (b : Nat) : UsedOr b (.pointer (some ⟨b, 0, none⟩)) := .inr rfl
theorem copy_any (b : Nat) (p s : Value) (hs : s.oneCell' = true) (hp : UsedOr b p) : Ct Tryd.prog 49 [.pointer (some ⟨b, 0, none⟩)] [] [(some b, .cells #[p, s] 57 (0, 0))] (fun v post => v = .tuple #[] ∧ post = [(some b, .cells #[.pointer (some ⟨b, 0, none⟩), s] 57 (0, 0))]) := by
  rcases hp with rfl | rfl
  · exact copy_fresh b s hs
  · exact copy_used b s
/-- A text in a buffer. -/
structure Txt (u : Sl) (tx : List UInt8) : Prop where
  own : Own 1 u (bcells tx) tx.length
  pos : u.ob ≠ none → 0 < u.cap
theorem txt_nil : Txt slNil [] := ⟨own_nil 1, fun h => absurd rfl h⟩
theorem Txt.more {u s' : Sl} {tx s : List UInt8} (h : Txt u tx) (h1 : Own 1 s' (bcells tx ++ bcells s) (tx.length + s.length)) (h2 : (u.ob ≠ none → 0 < u.cap) → s'.ob ≠ none → 0 < s'.cap) : Txt s' (tx ++ s) :=
  ⟨by rw [bcells_append, List.length_append]; exact h1, h2 h.pos⟩

set_option maxRecDepth 100000 in
set_option maxHeartbeats 1000000 in
theorem bld_write (b : Nat) (p : Value) (u : Sl) (tx s : List UInt8) (hp : UsedOr b p) (hu : Txt u tx) (hs : tx.length + s.length ≤ 140737488355328) :
    Ct Tryd.prog 22 [.pointer (some ⟨b, 0, none⟩), .string (bs s)] [] [(some b, .cells #[p, u.v tx.length] 57 (0, 0)), (u.ob, .cells u.cs 5 u.fz)] fun v post => v = .tuple #[.int .i64 (s.length : Int), .nilIface] ∧ ∃ u1, Txt u1 (tx ++ s) ∧ post = [(some b, .cells #[.pointer (some ⟨b, 0, none⟩), u1.v (tx ++ s).length] 57 (0, 0)), (u1.ob, .cells u1.cs 5 u1.fz)] := by
 refine ct_of Tryd.func22 rfl rfl (fun w0 => ?_)
 show G _ _ [(0, _), (1, _)] _ _
 refine G_seq ?_
 refine G_region (l := [0, 1]) rfl ?_
 refine G_val rfl rfl rfl rfl (V_assign rfl rfl) ?_
 refine G_val rfl rfl rfl rfl (V_assign rfl rfl) ?_
 refine G_done ?_
 refine G_seq ?_
 refine G_region (l := [0, 1]) rfl ?_
 refine G_val rfl rfl rfl rfl (V_move rfl rfl) ?_
 refine G_call (L2 := [_]) rfl rfl rfl rfl rfl rfl Tryd.call49 (copy_any _ _ _ rfl hp) [0] [] rfl rfl ?_
 rintro v post ⟨rfl, rfl⟩
 show G _ _ _ [_, _] _
 refine G_done ?_
 refine G_seq ?_
 refine G_region (l := [0, 1, 2, 3, 4, 5, 6, 7, 8, 9]) rfl ?_
 refine G_val rfl rfl rfl rfl (V_move rfl rfl) ?_
 refine G_val rfl rfl rfl rfl (V_move rfl rfl) ?_
 first
   | refine G_val rfl rfl rfl rfl (V_nilCheck rfl rfl) ?_
   | refine G_val rfl rfl rfl rfl (V_nilCheckF rfl rfl) ?_
 refine G_val rfl rfl rfl rfl (V_fieldAddr (fo := 1) rfl Tryd.underlying57 rfl infBld_55 rfl rfl rfl) ?_
 refine G_val rfl rfl rfl rfl (V_load1 rfl rfl (mem_at 0 rfl) rfl Tryd.underlying55 rfl) ?_
 refine G_val rfl rfl rfl rfl (V_move rfl rfl) ?_
 refine G_append (l1 := [_]) (s := u) (nn := tx.length) (m := s.length) (news := bcells s) (bt := 1) rfl rfl rfl rfl Tryd.underlying55 Tryd.underlying9 (by first | exact .inl rfl | exact .inr ⟨_, rfl⟩) infBld_5 rfl rfl rfl rfl rfl rfl hu.own rfl (fun w _ => src_string _) (by omega) (by omega) ?_
 intro u1 hu1 hq1
 show G _ _ _ [_, _] _
 first
   | refine G_val rfl rfl rfl rfl (V_nilCheck rfl rfl) ?_
   | refine G_val rfl rfl rfl rfl (V_nilCheckF rfl rfl) ?_
 refine G_val rfl rfl rfl rfl (V_fieldAddr (fo := 1) rfl Tryd.underlying57 rfl infBld_55 rfl rfl rfl) ?_
 refine G_put (l1 := []) (L' := [_, _]) rfl rfl rfl rfl (P_store1 rfl rfl rfl (mem_at 0 rfl) (by first | exact of_decide_eq_true rfl | omega | (simp; done) | (simp; omega) | (simp at *; omega)) infBld_55 rfl rfl) rfl ?_
 refine G_done ?_
 refine G_seq ?_
 refine G_region (l := [0, 1, 2, 3]) rfl ?_
 refine G_val rfl rfl rfl rfl (V_move rfl rfl) ?_
 refine G_val rfl rfl rfl rfl (V_slen rfl rfl Tryd.underlying9 rfl) ?_
 refine G_val rfl rfl rfl rfl (V_assign rfl rfl) ?_
 refine G_val rfl rfl rfl rfl (V_assign rfl rfl) ?_
 refine G_done ?_
 refine G_ret (post := [_, _]) Tryd.func22 rfl (RVs_cons (RV_tmp rfl) (RVs_cons (RV_tmp rfl) RVs_nil)) [0, 0] rfl ?_
 dsimp only [packed]
 exact ⟨rfl, u1, hu.more hu1 hq1.pos, by rw [List.length_append]; rfl⟩


theorem bld_write0 (b : Nat) (s : List UInt8) (hs : s.length ≤ 140737488355328) : Ct Tryd.prog 22 [.pointer (some ⟨b, 0, none⟩), .string (bs s)] [] [(some b, .cells #[.pointer none, .slice none 0 0] 57 (0, 0)), (none, .cells #[] 5 (0, 0))]
    (fun v post => v = .tuple #[.int .i64 (s.length : Int), .nilIface] ∧ ∃ u1, Txt u1 s ∧ post = [(some b, .cells #[.pointer (some ⟨b, 0, none⟩), u1.v s.length] 57 (0, 0)), (u1.ob, .cells u1.cs 5 u1.fz)]) :=
  bld_write b (.pointer none) slNil [] s (.inl rfl) txt_nil (by simpa using hs)

set_option maxRecDepth 100000 in
set_option maxHeartbeats 1000000 in
theorem bld_string1 (b g cap : Nat) (p : Value) (cs : Array Value) (fz : Nat × Nat) (tx : List UInt8) (hu : Txt ⟨some g, cs, fz, cap⟩ tx) (h0 : tx ≠ []) (hs : tx.length ≤ 140737488355328) :
    Ct Tryd.prog 23 [.pointer (some ⟨b, 0, none⟩)] [] [(some b, .cells #[p, .slice (some ⟨g, 0, none⟩) tx.length cap] 57 (0, 0)), (some g, .cells cs 5 fz)] fun v post => v = .string (bs tx) ∧ post = [(some b, .cells #[p, .slice (some ⟨g, 0, none⟩) tx.length cap] 57 (0, 0)), (some g, .cells cs 5 (frz fz tx.length))] := by
 have hcap := hu.pos (by simp)
 simp only at hcap
 have hsz := hu.own.size
 have hle := hu.own.le
 have hpre := hu.own.pre
 simp only [Nat.mul_one] at hsz hle hpre
 refine ct_of Tryd.func23 rfl rfl (fun w0 => ?_)
 show G _ _ [(0, _)] _ _
 refine G_seq ?_
 refine G_region (l := [0]) rfl ?_
 refine G_val rfl rfl rfl rfl (V_assign rfl rfl) ?_
 refine G_done ?_
 refine G_seq ?_
 refine GH_start (Lq := [_]) (isq := [0]) (m := 12) mixedK rfl rfl ?_
 refine GH_take 0 rfl rfl rfl rfl (by kernel_rfl) (by kernel_rfl) (by kernel_rfl) (fun _ _ => (V_move rfl rfl)) ?_
 first
   | refine GH_take 1 rfl rfl rfl rfl (by kernel_rfl) (by kernel_rfl) (by kernel_rfl) (fun _ _ => (V_nilCheck rfl rfl)) ?_
   | refine GH_take 1 rfl rfl rfl rfl (by kernel_rfl) (by kernel_rfl) (by kernel_rfl) (fun _ _ => (V_nilCheckF rfl rfl)) ?_
 refine GH_take 2 rfl rfl rfl rfl (by kernel_rfl) (by kernel_rfl) (by kernel_rfl) (fun _ _ => (V_fieldAddr (fo := 1) rfl Tryd.underlying57 rfl infBld_55 rfl rfl rfl)) ?_
 refine GH_take 3 rfl rfl rfl rfl (by kernel_rfl) (by kernel_rfl) (by kernel_rfl) (fun _ _ => (V_load1 rfl rfl (mem_at 0 rfl) rfl Tryd.underlying55 rfl)) ?_
 first
   | refine GH_take 4 rfl rfl rfl rfl (by kernel_rfl) (by kernel_rfl) (by kernel_rfl) (fun _ _ => (V_sliceDataN rfl rfl)) ?_
   | refine GH_take 4 rfl rfl rfl rfl (by kernel_rfl) (by kernel_rfl) (by kernel_rfl) (fun _ _ => (V_sliceDataS rfl rfl (by first | omega | (simp; done) | (simp; omega) | (simp at *; omega)))) ?_
 refine GH_take 5 rfl rfl rfl rfl (by kernel_rfl) (by kernel_rfl) (by kernel_rfl) (fun _ _ => (V_move rfl rfl)) ?_
 first
   | refine GH_take 6 rfl rfl rfl rfl (by kernel_rfl) (by kernel_rfl) (by kernel_rfl) (fun _ _ => (V_nilCheck rfl rfl)) ?_
   | refine GH_take 6 rfl rfl rfl rfl (by kernel_rfl) (by kernel_rfl) (by kernel_rfl) (fun _ _ => (V_nilCheckF rfl rfl)) ?_
 refine GH_take 7 rfl rfl rfl rfl (by kernel_rfl) (by kernel_rfl) (by kernel_rfl) (fun _ _ => (V_fieldAddr (fo := 1) rfl Tryd.underlying57 rfl infBld_55 rfl rfl rfl)) ?_
 refine GH_take 8 rfl rfl rfl rfl (by kernel_rfl) (by kernel_rfl) (by kernel_rfl) (fun _ _ => (V_load1 rfl rfl (mem_at 0 rfl) rfl Tryd.underlying55 rfl)) ?_
 refine GH_take 9 rfl rfl rfl rfl (by kernel_rfl) (by kernel_rfl) (by kernel_rfl) (fun _ _ => (V_len rfl rfl Tryd.underlying55 rfl)) ?_
 refine GH_all [10] (by kernel_rfl) (by decide) ?_
 refine (And.intro ?_ trivial)
 · skip
   refine GHop_putV (l1 := [_]) (L' := [_, _]) rfl rfl rfl rfl rfl (P_unsafeString (l := tx) rfl Tryd.underlying103 (by kernel_rfl) rfl rfl rfl (mem_at 1 rfl) h0 (by omega) (by omega) hpre) rfl [0] rfl ?_
   refine GH_take 11 rfl rfl rfl rfl (by kernel_rfl) (by kernel_rfl) (by kernel_rfl) (fun _ _ => (V_assign rfl rfl)) ?_
   refine GH_done (by kernel_rfl) ?_
   refine G_ret (post := [_, _]) Tryd.func23 rfl (RVs_cons (RV_tmp rfl) RVs_nil) [0, 0] rfl ?_
   dsimp only [packed]
   exact ⟨rfl, rfl⟩

set_option maxRecDepth 100000 in
set_option maxHeartbeats 1000000 in
theorem bld_string0 (b : Nat) (p : Value) (u : Sl) (cap : Nat) :
    Ct Tryd.prog 23 [.pointer (some ⟨b, 0, none⟩)] [] [(some b, .cells #[p, .slice none 0 cap] 57 (0, 0)), (none, .cells u.cs 5 u.fz)] fun v post => v = .string (bs []) ∧ post = [(some b, .cells #[p, .slice none 0 cap] 57 (0, 0)), (none, .cells u.cs 5 u.fz)] := by
 refine ct_of Tryd.func23 rfl rfl (fun w0 => ?_)
 show G _ _ [(0, _)] _ _
 refine G_seq ?_
 refine G_region (l := [0]) rfl ?_
 refine G_val rfl rfl rfl rfl (V_assign rfl rfl) ?_
 refine G_done ?_
 refine G_seq ?_
 refine GH_start (Lq := [_]) (isq := [0]) (m := 12) mixedK rfl rfl ?_
 refine GH_take 0 rfl rfl rfl rfl (by kernel_rfl) (by kernel_rfl) (by kernel_rfl) (fun _ _ => (V_move rfl rfl)) ?_
 first
   | refine GH_take 1 rfl rfl rfl rfl (by kernel_rfl) (by kernel_rfl) (by kernel_rfl) (fun _ _ => (V_nilCheck rfl rfl)) ?_
   | refine GH_take 1 rfl rfl rfl rfl (by kernel_rfl) (by kernel_rfl) (by kernel_rfl) (fun _ _ => (V_nilCheckF rfl rfl)) ?_
 refine GH_take 2 rfl rfl rfl rfl (by kernel_rfl) (by kernel_rfl) (by kernel_rfl) (fun _ _ => (V_fieldAddr (fo := 1) rfl Tryd.underlying57 rfl infBld_55 rfl rfl rfl)) ?_
 refine GH_take 3 rfl rfl rfl rfl (by kernel_rfl) (by kernel_rfl) (by kernel_rfl) (fun _ _ => (V_load1 rfl rfl (mem_at 0 rfl) rfl Tryd.underlying55 rfl)) ?_
 first
   | refine GH_take 4 rfl rfl rfl rfl (by kernel_rfl) (by kernel_rfl) (by kernel_rfl) (fun _ _ => (V_sliceDataN rfl rfl)) ?_
   | refine GH_take 4 rfl rfl rfl rfl (by kernel_rfl) (by kernel_rfl) (by kernel_rfl) (fun _ _ => (V_sliceDataS rfl rfl (by first | omega | (simp; done) | (simp; omega) | (simp at *; omega)))) ?_
 refine GH_take 5 rfl rfl rfl rfl (by kernel_rfl) (by kernel_rfl) (by kernel_rfl) (fun _ _ => (V_move rfl rfl)) ?_
 first
   | refine GH_take 6 rfl rfl rfl rfl (by kernel_rfl) (by kernel_rfl) (by kernel_rfl) (fun _ _ => (V_nilCheck rfl rfl)) ?_
   | refine GH_take 6 rfl rfl rfl rfl (by kernel_rfl) (by kernel_rfl) (by kernel_rfl) (fun _ _ => (V_nilCheckF rfl rfl)) ?_
 refine GH_take 7 rfl rfl rfl rfl (by kernel_rfl) (by kernel_rfl) (by kernel_rfl) (fun _ _ => (V_fieldAddr (fo := 1) rfl Tryd.underlying57 rfl infBld_55 rfl rfl rfl)) ?_
 refine GH_take 8 rfl rfl rfl rfl (by kernel_rfl) (by kernel_rfl) (by kernel_rfl) (fun _ _ => (V_load1 rfl rfl (mem_at 0 rfl) rfl Tryd.underlying55 rfl)) ?_
 refine GH_take 9 rfl rfl rfl rfl (by kernel_rfl) (by kernel_rfl) (by kernel_rfl) (fun _ _ => (V_len rfl rfl Tryd.underlying55 rfl)) ?_
 refine GH_take 10 rfl rfl rfl rfl (by kernel_rfl) (by kernel_rfl) (by kernel_rfl) (fun _ _ => (V_unsafeString0 rfl rfl rfl (by first | omega | (simp; done) | (simp; omega) | (simp at *; omega)))) ?_
 refine GH_take 11 rfl rfl rfl rfl (by kernel_rfl) (by kernel_rfl) (by kernel_rfl) (fun _ _ => (V_assign rfl rfl)) ?_
 refine GH_done (by kernel_rfl) ?_
 refine G_ret (post := [_, _]) Tryd.func23 rfl (RVs_cons (RV_tmp rfl) RVs_nil) [0, 0] rfl ?_
 dsimp only [packed]
 exact ⟨rfl, rfl⟩

set_option maxRecDepth 100000 in
set_option maxHeartbeats 1000000 in
theorem bld_string2 (b g : Nat) (p : Value) (u : Sl) (cap : Nat) (hc : 0 < cap) :
    Ct Tryd.prog 23 [.pointer (some ⟨b, 0, none⟩)] [] [(some b, .cells #[p, .slice (some ⟨g, 0, none⟩) 0 cap] 57 (0, 0)), (some g, .cells u.cs 5 u.fz)] fun v post => v = .string (bs []) ∧ post = [(some b, .cells #[p, .slice (some ⟨g, 0, none⟩) 0 cap] 57 (0, 0)), (some g, .cells u.cs 5 u.fz)] := by
 refine ct_of Tryd.func23 rfl rfl (fun w0 => ?_)
 show G _ _ [(0, _)] _ _
 refine G_seq ?_
 refine G_region (l := [0]) rfl ?_
 refine G_val rfl rfl rfl rfl (V_assign rfl rfl) ?_
 refine G_done ?_
 refine G_seq ?_
 refine GH_start (Lq := [_]) (isq := [0]) (m := 12) mixedK rfl rfl ?_
 refine GH_take 0 rfl rfl rfl rfl (by kernel_rfl) (by kernel_rfl) (by kernel_rfl) (fun _ _ => (V_move rfl rfl)) ?_
 first
   | refine GH_take 1 rfl rfl rfl rfl (by kernel_rfl) (by kernel_rfl) (by kernel_rfl) (fun _ _ => (V_nilCheck rfl rfl)) ?_
   | refine GH_take 1 rfl rfl rfl rfl (by kernel_rfl) (by kernel_rfl) (by kernel_rfl) (fun _ _ => (V_nilCheckF rfl rfl)) ?_
 refine GH_take 2 rfl rfl rfl rfl (by kernel_rfl) (by kernel_rfl) (by kernel_rfl) (fun _ _ => (V_fieldAddr (fo := 1) rfl Tryd.underlying57 rfl infBld_55 rfl rfl rfl)) ?_
 refine GH_take 3 rfl rfl rfl rfl (by kernel_rfl) (by kernel_rfl) (by kernel_rfl) (fun _ _ => (V_load1 rfl rfl (mem_at 0 rfl) rfl Tryd.underlying55 rfl)) ?_
 first
   | refine GH_take 4 rfl rfl rfl rfl (by kernel_rfl) (by kernel_rfl) (by kernel_rfl) (fun _ _ => (V_sliceDataN rfl rfl)) ?_
   | refine GH_take 4 rfl rfl rfl rfl (by kernel_rfl) (by kernel_rfl) (by kernel_rfl) (fun _ _ => (V_sliceDataS rfl rfl (by first | omega | (simp; done) | (simp; omega) | (simp at *; omega)))) ?_
 refine GH_take 5 rfl rfl rfl rfl (by kernel_rfl) (by kernel_rfl) (by kernel_rfl) (fun _ _ => (V_move rfl rfl)) ?_
 first
   | refine GH_take 6 rfl rfl rfl rfl (by kernel_rfl) (by kernel_rfl) (by kernel_rfl) (fun _ _ => (V_nilCheck rfl rfl)) ?_
   | refine GH_take 6 rfl rfl rfl rfl (by kernel_rfl) (by kernel_rfl) (by kernel_rfl) (fun _ _ => (V_nilCheckF rfl rfl)) ?_
 refine GH_take 7 rfl rfl rfl rfl (by kernel_rfl) (by kernel_rfl) (by kernel_rfl) (fun _ _ => (V_fieldAddr (fo := 1) rfl Tryd.underlying57 rfl infBld_55 rfl rfl rfl)) ?_
 refine GH_take 8 rfl rfl rfl rfl (by kernel_rfl) (by kernel_rfl) (by kernel_rfl) (fun _ _ => (V_load1 rfl rfl (mem_at 0 rfl) rfl Tryd.underlying55 rfl)) ?_
 refine GH_take 9 rfl rfl rfl rfl (by kernel_rfl) (by kernel_rfl) (by kernel_rfl) (fun _ _ => (V_len rfl rfl Tryd.underlying55 rfl)) ?_
 refine GH_take 10 rfl rfl rfl rfl (by kernel_rfl) (by kernel_rfl) (by kernel_rfl) (fun _ _ => (V_unsafeString0 rfl rfl rfl (by first | omega | (simp; done) | (simp; omega) | (simp at *; omega)))) ?_
 refine GH_take 11 rfl rfl rfl rfl (by kernel_rfl) (by kernel_rfl) (by kernel_rfl) (fun _ _ => (V_assign rfl rfl)) ?_
 refine GH_done (by kernel_rfl) ?_
 refine G_ret (post := [_, _]) Tryd.func23 rfl (RVs_cons (RV_tmp rfl) RVs_nil) [0, 0] rfl ?_
 dsimp only [packed]
 exact ⟨rfl, rfl⟩


theorem Ct.weak {P : Program} {f : FuncId} {args : List Value} {A L : List (Option Nat × Obj)} {R R' : Value → List (Option Nat × Obj) → Prop} (h : Ct P f args A L R) (hR : ∀ v post, R v post → R' v post) : Ct P f args A L R' :=
  fun w hw => (h w hw).mono fun e w' ⟨v, post, he, hr, hm⟩ => ⟨v, post, he, hR v post hr, hm⟩
theorem bld_string (b : Nat) (p : Value) (u : Sl) (tx : List UInt8) (hu : Txt u tx) (hs : tx.length ≤ 140737488355328) :
    Ct Tryd.prog 23 [.pointer (some ⟨b, 0, none⟩)] [] [(some b, .cells #[p, u.v tx.length] 57 (0, 0)), (u.ob, .cells u.cs 5 u.fz)] (fun v post => v = .string (bs tx) ∧ ∃ u1, Txt u1 tx ∧ post = [(some b, .cells #[p, u1.v tx.length] 57 (0, 0)), (u1.ob, .cells u1.cs 5 u1.fz)]) := by
  obtain ⟨ob, cs, fz, cap⟩ := u
  cases tx with
  | nil =>
    cases ob with
    | none => exact (bld_string0 b p ⟨none, cs, fz, cap⟩ cap).weak fun v post ⟨h1, h2⟩ => ⟨h1, _, hu, h2⟩
    | some g => exact (bld_string2 b g p ⟨some g, cs, fz, cap⟩ cap (hu.pos (by simp))).weak fun v post ⟨h1, h2⟩ => ⟨h1, _, hu, h2⟩
  | cons c t =>
    obtain ⟨g, hg⟩ := hu.own.isSome (by simp)
    simp only at hg
    subst hg
    exact (bld_string1 b g cap p cs fz (c :: t) hu (by simp) hs).weak fun v post ⟨h1, h2⟩ => ⟨h1, Sl.froze ⟨some g, cs, fz, cap⟩ (c :: t).length, ⟨hu.own.froze (by omega), hu.pos⟩, h2⟩

end
end Go.Proofs.YtjnaeoelnmhjfaaDoor

/- The walks of layer 45: words, and quotes; the program's and the document's. -/
set_option linter.unusedSimpArgs false
set_option linter.unusedVariables false
namespace Go.Proofs.YtjnaeoelnmhjfaaDoor
open Go Go.RowKit

section
theorem infTellW_5 : Tryd.prog.info? 5 = some Tryd.t5 := by kernel_rfl
theorem infTellW_9 : Tryd.prog.info? 9 = some Tryd.t9 := by kernel_rfl
theorem infTellW_55 : Tryd.prog.info? 55 = some Tryd.t55 := by kernel_rfl
theorem infTellW_57 : Tryd.prog.info? 57 = some Tryd.t57 := by kernel_rfl


theorem words_cell {k : Nat} (h : k < 7) : (#[Value.string (bs [113, 117, 101, 117, 101, 100]), .string (bs [98, 97, 99, 107, 111, 102, 102]), .string (bs [114, 117, 110, 110, 105, 110, 103]), .string (bs [99, 111, 109, 112, 108, 101, 116, 101, 100]), .string (bs [100, 101, 97, 100]), .string (bs [99, 97, 110, 99, 101, 108, 108, 101, 100]), .string (bs [101, 120, 112, 105, 114, 101, 100])] : Array Value)[0 + k * 1]? = some (.string (bs (wordsT.getD k []))) := by
  match k, h with
  | 0, _ | 1, _ | 2, _ | 3, _ | 4, _ | 5, _ | 6, _ => rfl
theorem word_in {n : Int} (h1 : ¬ n < 1) (h2 : ¬ 7 < n) : n - 1 = (((n - 1).toNat : Nat) : Int) := by omega
theorem ext_indexByteZ {P : Program} (l : List UInt8) (x : UInt8) (w : World) : (Extern.BytealgIndexByte.indexByte #[.string (bs l), .int .u8 (x.toNat : Int)]).run P w = .ok (.int .i64 (Lib.indexByte l x)) w := ext_indexByte l x w
theorem idx_plain (c : UInt8) : decide (0 ≤ Lib.indexByte [45, 46, 61, 42, 44, 47, 95, 32] c) = [45, 46, 61, 42, 44, 47, 95, 32].contains c := by
  have := byte_all (fun c => decide (0 ≤ Lib.indexByte [45, 46, 61, 42, 44, 47, 95, 32] c) == [45, 46, 61, 42, 44, 47, 95, 32].contains c) (by decide +kernel) c
  simpa using this
theorem contains_nat (c : UInt8) : ([45, 46, 61, 42, 44, 47, 95, 32] : List UInt8).contains c = (decide ((c.toNat : Int) = 45 ∨ (c.toNat : Int) = 46 ∨ (c.toNat : Int) = 61 ∨ (c.toNat : Int) = 42 ∨ (c.toNat : Int) = 44 ∨ (c.toNat : Int) = 47 ∨ (c.toNat : Int) = 95 ∨ (c.toNat : Int) = 32)) := by
  have := byte_all (fun c => ([45, 46, 61, 42, 44, 47, 95, 32] : List UInt8).contains c == (decide ((c.toNat : Int) = 45 ∨ (c.toNat : Int) = 46 ∨ (c.toNat : Int) = 61 ∨ (c.toNat : Int) = 42 ∨ (c.toNat : Int) = 44 ∨ (c.toNat : Int) = 47 ∨ (c.toNat : Int) = 95 ∨ (c.toNat : Int) = 32))) (by decide +kernel) c
  simpa using this
theorem bare_yes {c : UInt8} (h : (97 ≤ (c.toNat : Int) ∧ (c.toNat : Int) ≤ 122) ∨ (65 ≤ (c.toNat : Int) ∧ (c.toNat : Int) ≤ 90) ∨ (48 ≤ (c.toNat : Int) ∧ (c.toNat : Int) ≤ 57)) : bareB c = true := by
  unfold bareB
  rcases h with h | h | h
  · rw [decide_eq_true (by omega : 97 ≤ c.toNat), decide_eq_true (by omega : c.toNat ≤ 122)]; rfl
  · rw [decide_eq_true (by omega : 65 ≤ c.toNat), decide_eq_true (by omega : c.toNat ≤ 90)]; simp
  · rw [decide_eq_true (by omega : 48 ≤ c.toNat), decide_eq_true (by omega : c.toNat ≤ 57)]; simp
theorem bare_else {c : UInt8} (h : ¬ ((97 ≤ (c.toNat : Int) ∧ (c.toNat : Int) ≤ 122) ∨ (65 ≤ (c.toNat : Int) ∧ (c.toNat : Int) ≤ 90) ∨ (48 ≤ (c.toNat : Int) ∧ (c.toNat : Int) ≤ 57))) : bareB c = ([45, 46, 61, 42, 44, 47, 95, 32] : List UInt8).contains c := by
  have e1 : (decide (97 ≤ c.toNat) && decide (c.toNat ≤ 122)) = false := by rw [Bool.and_eq_false_iff, decide_eq_false_iff_not, decide_eq_false_iff_not]; omega
  have e2 : (decide (65 ≤ c.toNat) && decide (c.toNat ≤ 90)) = false := by rw [Bool.and_eq_false_iff, decide_eq_false_iff_not, decide_eq_false_iff_not]; omega
  have e3 : (decide (48 ≤ c.toNat) && decide (c.toNat ≤ 57)) = false := by rw [Bool.and_eq_false_iff, decide_eq_false_iff_not, decide_eq_false_iff_not]; omega
  unfold bareB
  rw [e1, e2, e3]; rfl
theorem quote_yes {c : UInt8} (h : bareB c = true) : quote1 c = [c] := by unfold quote1; rw [if_pos h]
theorem quote_no {c : UInt8} (h : bareB c = false) : quote1 c = [92, 120, hexT.getD (c.toNat / 16) 0, hexT.getD (c.toNat % 16) 0] := by unfold quote1; rw [if_neg (by rw [h]; exact Bool.false_ne_true)]
theorem hex_cut {k : Nat} (h : k < 16) : (([48, 49, 50, 51, 52, 53, 54, 55, 56, 57, 97, 98, 99, 100, 101, 102] : List UInt8).take (k + 1)).drop k = [hexT.getD k 0] := by
  have key : ∀ k < 16, (([48, 49, 50, 51, 52, 53, 54, 55, 56, 57, 97, 98, 99, 100, 101, 102] : List UInt8).take (k + 1)).drop k = [hexT.getD k 0] := by decide
  exact key k h
theorem shr4 (n : Nat) (h : n < 256) : (n : Int) / (2 : Int) ^ min (4 : Int).toNat IntKind.u8.bits = ((n / 16 : Nat) : Int) := by
  have e : (2 : Int) ^ min (4 : Int).toNat IntKind.u8.bits = 16 := by decide
  rw [e]; omega
theorem and15 (n : Nat) (h : n < 256) : bitsOp .and .u8 (n : Int) 15 = ((n % 16 : Nat) : Int) := by
  have key : ∀ n : Nat, n < 256 → bitsOp .and .u8 (n : Int) 15 = ((n % 16 : Nat) : Int) := by decide +kernel
  exact key n h
theorem quote_app {c : UInt8} (h : bareB c = false) : [92, 120] ++ [hexT.getD (c.toNat / 16) 0] ++ [hexT.getD (c.toNat % 16) 0] = quote1 c := by rw [quote_no h]; rfl
theorem quote_app2 {tx : List UInt8} {c : UInt8} (h : bareB c = false) : tx ++ [92, 120] ++ [hexT.getD (c.toNat / 16) 0] ++ [hexT.getD (c.toNat % 16) 0] = tx ++ quote1 c := by rw [quote_no h]; simp
theorem one_cut {s : List UInt8} {i : Nat} (h : i < s.length) : (s.take (i + 1)).drop i = [s.getD i 0] := by
  rw [List.take_succ_eq_append_getElem h, List.drop_append, List.drop_eq_nil_of_le (by simp; omega)]
  simp [List.getD_eq_getElem?_getD, h]
  rw [Nat.min_eq_left (by omega)]
  simp

set_option maxRecDepth 100000 in
set_option maxHeartbeats 1000000 in
theorem tl_word (n : Int) (h0 : -9223372036854775808 ≤ n) (h1 : n ≤ 9223372036854775807) :
    Ct Tryd.prog 7 [.int .i64 n] [] [] fun v post => v = .string (bs (wordT n)) ∧ post = [] := by
 refine ct_of Tryd.func7 rfl rfl (fun w0 => ?_)
 show G _ _ [(0, _)] _ _
 refine G_seq ?_
 refine G_region (l := [0]) rfl ?_
 refine G_val rfl rfl rfl rfl (V_assign rfl rfl) ?_
 refine G_done ?_
 refine G_seq ?_
 refine G_region (l := [0, 1]) rfl ?_
 refine G_new rfl rfl rfl rfl (N_buildAll (s := 1) (cs := [_, _, _, _, _, _, _]) rfl Tryd.underlying53 infTellW_9 rfl rfl rfl rfl rfl rfl rfl rfl rfl) (fun b4 => ?_)
 refine G_val rfl rfl rfl rfl (V_assign rfl rfl) ?_
 refine G_done ?_
 refine G_seq ?_
 refine G_seq ?_
 refine G_region (l := [0, 1, 2, 3, 4, 5]) rfl ?_
 refine G_val rfl rfl rfl rfl (V_move rfl rfl) ?_
 refine G_val rfl rfl rfl rfl (V_lss rfl rfl rfl) ?_
 refine G_val rfl rfl rfl rfl (V_move rfl rfl) ?_
 refine G_splitD 7 rfl (fun hc1 => ?_) (fun hc1 => ?_)
 · skip
   refine G_off rfl rfl rfl rfl ?_
   refine G_off rfl rfl rfl rfl ?_
   refine G_val rfl rfl rfl rfl (V_pickT rfl rfl rfl) ?_
   refine G_done ?_
   refine G_then rfl ?_
   refine G_seq ?_
   refine G_region (l := [0]) rfl ?_
   refine G_val rfl rfl rfl rfl (V_assign rfl rfl) ?_
   refine G_done ?_
   refine G_ret (post := []) Tryd.func7 rfl (RVs_cons (RV_tmp rfl) RVs_nil) [] rfl ?_
   dsimp only [packed]
   first
     | exact ⟨str_eq (wordT_no (by omega)).symm, rfl⟩
     | exact ⟨str_eq (wordT_yes (by omega)).symm, rfl⟩
 refine G_val rfl rfl rfl rfl (V_move rfl rfl) ?_
 refine G_val rfl rfl rfl rfl (V_gtr rfl rfl rfl) ?_
 refine G_val rfl rfl rfl rfl (V_pickF rfl rfl rfl) ?_
 refine G_done ?_
 refine G_ifD rfl (fun hc2 => ?_) (fun hc2 => ?_)
 · skip
   refine G_seq ?_
   refine G_region (l := [0]) rfl ?_
   refine G_val rfl rfl rfl rfl (V_assign rfl rfl) ?_
   refine G_done ?_
   refine G_ret (post := []) Tryd.func7 rfl (RVs_cons (RV_tmp rfl) RVs_nil) [] rfl ?_
   dsimp only [packed]
   first
     | exact ⟨str_eq (wordT_no (by omega)).symm, rfl⟩
     | exact ⟨str_eq (wordT_yes (by omega)).symm, rfl⟩
 refine G_skip ?_
 refine G_seq ?_
 refine G_region (l := [0, 1, 2, 3, 4, 5]) rfl ?_
 refine G_val rfl rfl rfl rfl (V_move rfl rfl) ?_
 refine G_val rfl rfl rfl rfl (V_move rfl rfl) ?_
 refine G_val rfl rfl rfl rfl (Val.int (e' := (((n - 1).toNat : Nat) : Int)) (V_sub rfl rfl rfl) (by rw [wrap_i64 (by omega)]; omega)) ?_
 first
   | refine G_val rfl rfl rfl rfl (V_indexAddrN (s := 1) rfl Tryd.underlying53 infTellW_9 rfl rfl rfl rfl (by omega)) ?_
   | refine G_val rfl rfl rfl rfl (V_indexAddr (s := 1) rfl Tryd.underlying53 infTellW_9 rfl rfl rfl (by omega) (by first | omega | (simp; done) | (simp; omega) | (simp at *; omega))) ?_
 refine G_val rfl rfl rfl rfl (V_load1 rfl rfl (mem_at 0 rfl) (nth_of (words_cell (by omega))) Tryd.underlying9 rfl) ?_
 refine G_val rfl rfl rfl rfl (V_assign rfl rfl) ?_
 refine G_done ?_
 refine G_ret (post := []) Tryd.func7 rfl (RVs_cons (RV_tmp rfl) RVs_nil) [] rfl ?_
 dsimp only [packed]
 first
   | exact ⟨str_eq (wordT_no (by omega)).symm, rfl⟩
   | exact ⟨str_eq (wordT_yes (by omega)).symm, rfl⟩

set_option maxRecDepth 100000 in
set_option maxHeartbeats 1000000 in
theorem rtl_word (n : Int) (h0 : -9223372036854775808 ≤ n) (h1 : n ≤ 9223372036854775807) :
    Ct Tryd.prog 8 [.int .i64 n] [] [] fun v post => v = .string (bs (wordT n)) ∧ post = [] := by
 refine ct_of Tryd.func8 rfl rfl (fun w0 => ?_)
 show G _ _ [(0, _)] _ _
 refine G_seq ?_
 refine G_region (l := [0]) rfl ?_
 refine G_val rfl rfl rfl rfl (V_assign rfl rfl) ?_
 refine G_done ?_
 refine G_seq ?_
 refine G_region (l := [0, 1]) rfl ?_
 refine G_new rfl rfl rfl rfl (N_buildAll (s := 1) (cs := [_, _, _, _, _, _, _]) rfl Tryd.underlying53 infTellW_9 rfl rfl rfl rfl rfl rfl rfl rfl rfl) (fun b4 => ?_)
 refine G_val rfl rfl rfl rfl (V_assign rfl rfl) ?_
 refine G_done ?_
 refine G_seq ?_
 refine G_seq ?_
 refine G_region (l := [0, 1, 2, 3, 4, 5]) rfl ?_
 refine G_val rfl rfl rfl rfl (V_move rfl rfl) ?_
 refine G_val rfl rfl rfl rfl (V_lss rfl rfl rfl) ?_
 refine G_val rfl rfl rfl rfl (V_move rfl rfl) ?_
 refine G_splitD 7 rfl (fun hc1 => ?_) (fun hc1 => ?_)
 · skip
   refine G_off rfl rfl rfl rfl ?_
   refine G_off rfl rfl rfl rfl ?_
   refine G_val rfl rfl rfl rfl (V_pickT rfl rfl rfl) ?_
   refine G_done ?_
   refine G_then rfl ?_
   refine G_seq ?_
   refine G_region (l := [0]) rfl ?_
   refine G_val rfl rfl rfl rfl (V_assign rfl rfl) ?_
   refine G_done ?_
   refine G_ret (post := []) Tryd.func8 rfl (RVs_cons (RV_tmp rfl) RVs_nil) [] rfl ?_
   dsimp only [packed]
   first
     | exact ⟨str_eq (wordT_no (by omega)).symm, rfl⟩
     | exact ⟨str_eq (wordT_yes (by omega)).symm, rfl⟩
 refine G_val rfl rfl rfl rfl (V_move rfl rfl) ?_
 refine G_val rfl rfl rfl rfl (V_gtr rfl rfl rfl) ?_
 refine G_val rfl rfl rfl rfl (V_pickF rfl rfl rfl) ?_
 refine G_done ?_
 refine G_ifD rfl (fun hc2 => ?_) (fun hc2 => ?_)
 · skip
   refine G_seq ?_
   refine G_region (l := [0]) rfl ?_
   refine G_val rfl rfl rfl rfl (V_assign rfl rfl) ?_
   refine G_done ?_
   refine G_ret (post := []) Tryd.func8 rfl (RVs_cons (RV_tmp rfl) RVs_nil) [] rfl ?_
   dsimp only [packed]
   first
     | exact ⟨str_eq (wordT_no (by omega)).symm, rfl⟩
     | exact ⟨str_eq (wordT_yes (by omega)).symm, rfl⟩
 refine G_skip ?_
 refine G_seq ?_
 refine G_region (l := [0, 1, 2, 3, 4, 5]) rfl ?_
 refine G_val rfl rfl rfl rfl (V_move rfl rfl) ?_
 refine G_val rfl rfl rfl rfl (V_move rfl rfl) ?_
 refine G_val rfl rfl rfl rfl (Val.int (e' := (((n - 1).toNat : Nat) : Int)) (V_sub rfl rfl rfl) (by rw [wrap_i64 (by omega)]; omega)) ?_
 first
   | refine G_val rfl rfl rfl rfl (V_indexAddrN (s := 1) rfl Tryd.underlying53 infTellW_9 rfl rfl rfl rfl (by omega)) ?_
   | refine G_val rfl rfl rfl rfl (V_indexAddr (s := 1) rfl Tryd.underlying53 infTellW_9 rfl rfl rfl (by omega) (by first | omega | (simp; done) | (simp; omega) | (simp at *; omega))) ?_
 refine G_val rfl rfl rfl rfl (V_load1 rfl rfl (mem_at 0 rfl) (nth_of (words_cell (by omega))) Tryd.underlying9 rfl) ?_
 refine G_val rfl rfl rfl rfl (V_assign rfl rfl) ?_
 refine G_done ?_
 refine G_ret (post := []) Tryd.func8 rfl (RVs_cons (RV_tmp rfl) RVs_nil) [] rfl ?_
 dsimp only [packed]
 first
   | exact ⟨str_eq (wordT_no (by omega)).symm, rfl⟩
   | exact ⟨str_eq (wordT_yes (by omega)).symm, rfl⟩

set_option maxRecDepth 100000 in
set_option maxHeartbeats 1000000 in
theorem sl_indexByte (l : List UInt8) (x : UInt8) :
    Ct Tryd.prog 57 [.string (bs l), .int .u8 (x.toNat : Int)] [] [] fun v post => v = .int .i64 (Lib.indexByte l x) ∧ post = [] := by
 refine ct_of Tryd.func57 rfl rfl (fun w0 => ?_)
 show G _ _ [(0, _), (1, _)] _ _
 refine G_seq ?_
 refine G_region (l := [0]) rfl ?_
 refine G_val rfl rfl rfl rfl (V_assign rfl rfl) ?_
 refine G_done ?_
 refine G_seq ?_
 refine G_region (l := [0, 1, 2, 3]) rfl ?_
 refine G_val rfl rfl rfl rfl (V_move rfl rfl) ?_
 refine G_val rfl rfl rfl rfl (V_move rfl rfl) ?_
 refine G_val rfl rfl rfl rfl (V_extern (ev := Extern.BytealgIndexByte.indexByte) rfl rfl Tryd.func68 (by kernel_rfl) (by kernel_rfl) (by kernel_rfl) (by kernel_rfl) (fun w => ext_indexByte l x w)) ?_
 refine G_val rfl rfl rfl rfl (V_assign rfl rfl) ?_
 refine G_done ?_
 refine G_ret (post := []) Tryd.func57 rfl (RVs_cons (RV_tmp rfl) RVs_nil) [] rfl ?_
 dsimp only [packed]
 exact ⟨rfl, rfl⟩

set_option maxRecDepth 100000 in
set_option maxHeartbeats 1000000 in
theorem st_indexByte (l : List UInt8) (x : UInt8) :
    Ct Tryd.prog 48 [.string (bs l), .int .u8 (x.toNat : Int)] [] [] fun v post => v = .int .i64 (Lib.indexByte l x) ∧ post = [] := by
 refine ct_of Tryd.func48 rfl rfl (fun w0 => ?_)
 show G _ _ [(0, _), (1, _)] _ _
 refine G_seq ?_
 refine G_region (l := [0]) rfl ?_
 refine G_val rfl rfl rfl rfl (V_assign rfl rfl) ?_
 refine G_done ?_
 refine G_seq ?_
 refine G_region (l := [0, 1, 2, 3]) rfl ?_
 refine G_val rfl rfl rfl rfl (V_move rfl rfl) ?_
 refine G_val rfl rfl rfl rfl (V_move rfl rfl) ?_
 refine G_call (L2 := []) rfl rfl rfl rfl rfl rfl Tryd.call57 (sl_indexByte _ _) [] [] rfl rfl ?_
 rintro v post ⟨rfl, rfl⟩
 refine G_val rfl rfl rfl rfl (V_assign rfl rfl) ?_
 refine G_done ?_
 refine G_ret (post := []) Tryd.func48 rfl (RVs_cons (RV_tmp rfl) RVs_nil) [] rfl ?_
 dsimp only [packed]
 exact ⟨rfl, rfl⟩

set_option maxRecDepth 100000 in
set_option maxHeartbeats 1000000 in
theorem tl_bare (c : UInt8) :
    Ct Tryd.prog 20 [.int .u8 (c.toNat : Int)] [] [] fun v post => v = .bool (bareB c) ∧ post = [] := by
 refine ct_of Tryd.func20 rfl rfl (fun w0 => ?_)
 show G _ _ [(0, _)] _ _
 refine G_seq ?_
 refine G_region (l := [0]) rfl ?_
 refine G_val rfl rfl rfl rfl (V_assign rfl rfl) ?_
 refine G_done ?_
 refine G_seq ?_
 refine G_block ?_
 refine G_seq ?_
 refine G_seq ?_
 refine G_region (l := [0, 1, 2, 3, 4, 5, 6]) rfl ?_
 refine G_val rfl rfl rfl rfl (V_move rfl rfl) ?_
 refine G_val rfl rfl rfl rfl (V_geq rfl rfl rfl) ?_
 refine G_val rfl rfl rfl rfl (V_move rfl rfl) ?_
 refine G_splitD 6 rfl (fun hc1 => ?_) (fun hc1 => ?_)
 · skip
   refine G_val rfl rfl rfl rfl (V_move rfl rfl) ?_
   refine G_val rfl rfl rfl rfl (V_leq rfl rfl rfl) ?_
   refine G_val rfl rfl rfl rfl (V_pickT rfl rfl rfl) ?_
   refine G_val rfl rfl rfl rfl (V_assign rfl rfl) ?_
   refine G_done ?_
   refine G_ifD rfl (fun hc2 => ?_) (fun hc2 => ?_)
   · skip
     refine G_skip ?_
     refine G_ifD rfl (fun hc3 => ?_) (fun hc3 => ?_)
     rotate_left
     · (first | contradiction | (exact absurd rfl hc3) | (exfalso; omega) | (simp at hc3; done) | (exact absurd hc3 (by decide)) | (exact absurd (by decide) hc3))
     refine G_seq ?_
     refine G_region (l := [0]) rfl ?_
     refine G_val rfl rfl rfl rfl (V_assign rfl rfl) ?_
     refine G_done ?_
     refine G_ret (post := []) Tryd.func20 rfl (RVs_cons (RV_tmp rfl) RVs_nil) [] rfl ?_
     dsimp only [packed]
     first
       | exact ⟨bool_eq (bare_yes (by omega)).symm, rfl⟩
       | exact ⟨bool_eq (by rw [bare_else (by omega)]; exact idx_plain c), rfl⟩
   refine G_seq ?_
   refine G_region (l := [0, 1, 2, 3, 4, 5, 6]) rfl ?_
   refine G_val rfl rfl rfl rfl (V_move rfl rfl) ?_
   refine G_val rfl rfl rfl rfl (V_geq rfl rfl rfl) ?_
   refine G_val rfl rfl rfl rfl (V_move rfl rfl) ?_
   refine G_splitD 12 rfl (fun hc3 => ?_) (fun hc3 => ?_)
   rotate_left
   · (first | contradiction | (exact absurd rfl hc3) | (exfalso; omega) | (simp at hc3; done) | (exact absurd hc3 (by decide)) | (exact absurd (by decide) hc3))
   refine G_val rfl rfl rfl rfl (V_move rfl rfl) ?_
   refine G_val rfl rfl rfl rfl (V_leq rfl rfl rfl) ?_
   refine G_val rfl rfl rfl rfl (V_pickT rfl rfl rfl) ?_
   refine G_val rfl rfl rfl rfl (V_assign rfl rfl) ?_
   refine G_done ?_
   refine G_ifD rfl (fun hc4 => ?_) (fun hc4 => ?_)
   · (first | contradiction | (exact absurd rfl hc4) | (exfalso; omega) | (simp at hc4; done) | (exact absurd hc4 (by decide)) | (exact absurd (by decide) hc4))
   refine G_region (l := [0, 1, 2, 3, 4, 5, 6]) rfl ?_
   refine G_val rfl rfl rfl rfl (V_move rfl rfl) ?_
   refine G_val rfl rfl rfl rfl (V_geq rfl rfl rfl) ?_
   refine G_val rfl rfl rfl rfl (V_move rfl rfl) ?_
   refine G_splitD 18 rfl (fun hc5 => ?_) (fun hc5 => ?_)
   rotate_left
   · (first | contradiction | (exact absurd rfl hc5) | (exfalso; omega) | (simp at hc5; done) | (exact absurd hc5 (by decide)) | (exact absurd (by decide) hc5))
   refine G_val rfl rfl rfl rfl (V_move rfl rfl) ?_
   refine G_val rfl rfl rfl rfl (V_leq rfl rfl rfl) ?_
   refine G_val rfl rfl rfl rfl (V_pickT rfl rfl rfl) ?_
   refine G_val rfl rfl rfl rfl (V_assign rfl rfl) ?_
   refine G_done ?_
   refine G_ifD rfl (fun hc6 => ?_) (fun hc6 => ?_)
   · (first | contradiction | (exact absurd rfl hc6) | (exfalso; omega) | (simp at hc6; done) | (exact absurd hc6 (by decide)) | (exact absurd (by decide) hc6))
   refine G_skip ?_
   refine G_inBlock ?_
   refine G_seq ?_
   refine G_region (l := [0, 1, 2, 3]) rfl ?_
   refine G_val rfl rfl rfl rfl (V_move rfl rfl) ?_
   refine G_call (L2 := []) rfl rfl rfl rfl rfl rfl Tryd.call48 (st_indexByte _ _) [] [] rfl rfl ?_
   rintro v post ⟨rfl, rfl⟩
   refine G_val rfl rfl rfl rfl (V_geq rfl rfl rfl) ?_
   refine G_val rfl rfl rfl rfl (V_assign rfl rfl) ?_
   refine G_done ?_
   refine G_ret (post := []) Tryd.func20 rfl (RVs_cons (RV_tmp rfl) RVs_nil) [] rfl ?_
   dsimp only [packed]
   first
     | exact ⟨bool_eq (bare_yes (by omega)).symm, rfl⟩
     | exact ⟨bool_eq (by rw [bare_else (by omega)]; exact idx_plain c), rfl⟩
 refine G_off rfl rfl rfl rfl ?_
 refine G_off rfl rfl rfl rfl ?_
 refine G_val rfl rfl rfl rfl (V_pickF rfl rfl rfl) ?_
 refine G_val rfl rfl rfl rfl (V_assign rfl rfl) ?_
 refine G_done ?_
 refine G_else rfl ?_
 refine G_seq ?_
 refine G_region (l := [0, 1, 2, 3, 4, 5, 6]) rfl ?_
 refine G_val rfl rfl rfl rfl (V_move rfl rfl) ?_
 refine G_val rfl rfl rfl rfl (V_geq rfl rfl rfl) ?_
 refine G_val rfl rfl rfl rfl (V_move rfl rfl) ?_
 refine G_splitD 12 rfl (fun hc2 => ?_) (fun hc2 => ?_)
 · skip
   refine G_val rfl rfl rfl rfl (V_move rfl rfl) ?_
   refine G_val rfl rfl rfl rfl (V_leq rfl rfl rfl) ?_
   refine G_val rfl rfl rfl rfl (V_pickT rfl rfl rfl) ?_
   refine G_val rfl rfl rfl rfl (V_assign rfl rfl) ?_
   refine G_done ?_
   refine G_ifD rfl (fun hc3 => ?_) (fun hc3 => ?_)
   · skip
     refine G_skip ?_
     refine G_ifD rfl (fun hc4 => ?_) (fun hc4 => ?_)
     rotate_left
     · (first | contradiction | (exact absurd rfl hc4) | (exfalso; omega) | (simp at hc4; done) | (exact absurd hc4 (by decide)) | (exact absurd (by decide) hc4))
     refine G_seq ?_
     refine G_region (l := [0]) rfl ?_
     refine G_val rfl rfl rfl rfl (V_assign rfl rfl) ?_
     refine G_done ?_
     refine G_ret (post := []) Tryd.func20 rfl (RVs_cons (RV_tmp rfl) RVs_nil) [] rfl ?_
     dsimp only [packed]
     first
       | exact ⟨bool_eq (bare_yes (by omega)).symm, rfl⟩
       | exact ⟨bool_eq (by rw [bare_else (by omega)]; exact idx_plain c), rfl⟩
   refine G_region (l := [0, 1, 2, 3, 4, 5, 6]) rfl ?_
   refine G_val rfl rfl rfl rfl (V_move rfl rfl) ?_
   refine G_val rfl rfl rfl rfl (V_geq rfl rfl rfl) ?_
   refine G_val rfl rfl rfl rfl (V_move rfl rfl) ?_
   refine G_splitD 18 rfl (fun hc4 => ?_) (fun hc4 => ?_)
   rotate_left
   · (first | contradiction | (exact absurd rfl hc4) | (exfalso; omega) | (simp at hc4; done) | (exact absurd hc4 (by decide)) | (exact absurd (by decide) hc4))
   refine G_val rfl rfl rfl rfl (V_move rfl rfl) ?_
   refine G_val rfl rfl rfl rfl (V_leq rfl rfl rfl) ?_
   refine G_val rfl rfl rfl rfl (V_pickT rfl rfl rfl) ?_
   refine G_val rfl rfl rfl rfl (V_assign rfl rfl) ?_
   refine G_done ?_
   refine G_ifD rfl (fun hc5 => ?_) (fun hc5 => ?_)
   · (first | contradiction | (exact absurd rfl hc5) | (exfalso; omega) | (simp at hc5; done) | (exact absurd hc5 (by decide)) | (exact absurd (by decide) hc5))
   refine G_skip ?_
   refine G_inBlock ?_
   refine G_seq ?_
   refine G_region (l := [0, 1, 2, 3]) rfl ?_
   refine G_val rfl rfl rfl rfl (V_move rfl rfl) ?_
   refine G_call (L2 := []) rfl rfl rfl rfl rfl rfl Tryd.call48 (st_indexByte _ _) [] [] rfl rfl ?_
   rintro v post ⟨rfl, rfl⟩
   refine G_val rfl rfl rfl rfl (V_geq rfl rfl rfl) ?_
   refine G_val rfl rfl rfl rfl (V_assign rfl rfl) ?_
   refine G_done ?_
   refine G_ret (post := []) Tryd.func20 rfl (RVs_cons (RV_tmp rfl) RVs_nil) [] rfl ?_
   dsimp only [packed]
   first
     | exact ⟨bool_eq (bare_yes (by omega)).symm, rfl⟩
     | exact ⟨bool_eq (by rw [bare_else (by omega)]; exact idx_plain c), rfl⟩
 refine G_off rfl rfl rfl rfl ?_
 refine G_off rfl rfl rfl rfl ?_
 refine G_val rfl rfl rfl rfl (V_pickF rfl rfl rfl) ?_
 refine G_val rfl rfl rfl rfl (V_assign rfl rfl) ?_
 refine G_done ?_
 refine G_else rfl ?_
 refine G_region (l := [0, 1, 2, 3, 4, 5, 6]) rfl ?_
 refine G_val rfl rfl rfl rfl (V_move rfl rfl) ?_
 refine G_val rfl rfl rfl rfl (V_geq rfl rfl rfl) ?_
 refine G_val rfl rfl rfl rfl (V_move rfl rfl) ?_
 refine G_splitD 18 rfl (fun hc3 => ?_) (fun hc3 => ?_)
 · skip
   refine G_val rfl rfl rfl rfl (V_move rfl rfl) ?_
   refine G_val rfl rfl rfl rfl (V_leq rfl rfl rfl) ?_
   refine G_val rfl rfl rfl rfl (V_pickT rfl rfl rfl) ?_
   refine G_val rfl rfl rfl rfl (V_assign rfl rfl) ?_
   refine G_done ?_
   refine G_ifD rfl (fun hc4 => ?_) (fun hc4 => ?_)
   · skip
     refine G_seq ?_
     refine G_region (l := [0]) rfl ?_
     refine G_val rfl rfl rfl rfl (V_assign rfl rfl) ?_
     refine G_done ?_
     refine G_ret (post := []) Tryd.func20 rfl (RVs_cons (RV_tmp rfl) RVs_nil) [] rfl ?_
     dsimp only [packed]
     first
       | exact ⟨bool_eq (bare_yes (by omega)).symm, rfl⟩
       | exact ⟨bool_eq (by rw [bare_else (by omega)]; exact idx_plain c), rfl⟩
   refine G_skip ?_
   refine G_inBlock ?_
   refine G_seq ?_
   refine G_region (l := [0, 1, 2, 3]) rfl ?_
   refine G_val rfl rfl rfl rfl (V_move rfl rfl) ?_
   refine G_call (L2 := []) rfl rfl rfl rfl rfl rfl Tryd.call48 (st_indexByte _ _) [] [] rfl rfl ?_
   rintro v post ⟨rfl, rfl⟩
   refine G_val rfl rfl rfl rfl (V_geq rfl rfl rfl) ?_
   refine G_val rfl rfl rfl rfl (V_assign rfl rfl) ?_
   refine G_done ?_
   refine G_ret (post := []) Tryd.func20 rfl (RVs_cons (RV_tmp rfl) RVs_nil) [] rfl ?_
   dsimp only [packed]
   first
     | exact ⟨bool_eq (bare_yes (by omega)).symm, rfl⟩
     | exact ⟨bool_eq (by rw [bare_else (by omega)]; exact idx_plain c), rfl⟩
 refine G_off rfl rfl rfl rfl ?_
 refine G_off rfl rfl rfl rfl ?_
 refine G_val rfl rfl rfl rfl (V_pickF rfl rfl rfl) ?_
 refine G_val rfl rfl rfl rfl (V_assign rfl rfl) ?_
 refine G_done ?_
 refine G_else rfl ?_
 refine G_skip ?_
 refine G_inBlock ?_
 refine G_seq ?_
 refine G_region (l := [0, 1, 2, 3]) rfl ?_
 refine G_val rfl rfl rfl rfl (V_move rfl rfl) ?_
 refine G_call (L2 := []) rfl rfl rfl rfl rfl rfl Tryd.call48 (st_indexByte _ _) [] [] rfl rfl ?_
 rintro v post ⟨rfl, rfl⟩
 refine G_val rfl rfl rfl rfl (V_geq rfl rfl rfl) ?_
 refine G_val rfl rfl rfl rfl (V_assign rfl rfl) ?_
 refine G_done ?_
 refine G_ret (post := []) Tryd.func20 rfl (RVs_cons (RV_tmp rfl) RVs_nil) [] rfl ?_
 dsimp only [packed]
 first
   | exact ⟨bool_eq (bare_yes (by omega)).symm, rfl⟩
   | exact ⟨bool_eq (by rw [bare_else (by omega)]; exact idx_plain c), rfl⟩

set_option maxRecDepth 100000 in
set_option maxHeartbeats 1000000 in
theorem rtl_bare (c : UInt8) :
    Ct Tryd.prog 24 [.int .u8 (c.toNat : Int)] [] [] fun v post => v = .bool (bareB c) ∧ post = [] := by
 refine ct_of Tryd.func24 rfl rfl (fun w0 => ?_)
 show G _ _ [(0, _)] _ _
 refine G_seq ?_
 refine G_region (l := [0]) rfl ?_
 refine G_val rfl rfl rfl rfl (V_assign rfl rfl) ?_
 refine G_done ?_
 refine G_seq ?_
 refine G_seq ?_
 refine G_region (l := [0, 1, 2, 3, 4, 5, 6, 7, 8, 9, 10, 11, 12, 13, 14, 15, 16, 17, 18, 19, 20, 21]) rfl ?_
 refine G_val rfl rfl rfl rfl (V_move rfl rfl) ?_
 refine G_val rfl rfl rfl rfl (V_leq rfl rfl rfl) ?_
 refine G_val rfl rfl rfl rfl (V_move rfl rfl) ?_
 refine G_splitD 5 rfl (fun hc1 => ?_) (fun hc1 => ?_)
 · skip
   refine G_val rfl rfl rfl rfl (V_move rfl rfl) ?_
   refine G_val rfl rfl rfl rfl (V_leq rfl rfl rfl) ?_
   refine G_val rfl rfl rfl rfl (V_pickT rfl rfl rfl) ?_
   refine G_val rfl rfl rfl rfl (V_move rfl rfl) ?_
   refine G_splitD 9 rfl (fun hc2 => ?_) (fun hc2 => ?_)
   · skip
     refine G_off rfl rfl rfl rfl ?_
     refine G_off rfl rfl rfl rfl ?_
     refine G_off rfl rfl rfl rfl ?_
     refine G_off rfl rfl rfl rfl ?_
     refine G_off rfl rfl rfl rfl ?_
     refine G_off rfl rfl rfl rfl ?_
     refine G_val rfl rfl rfl rfl (V_pickT rfl rfl rfl) ?_
     refine G_val rfl rfl rfl rfl (V_move rfl rfl) ?_
     refine G_off rfl rfl rfl rfl ?_
     refine G_off rfl rfl rfl rfl ?_
     refine G_off rfl rfl rfl rfl ?_
     refine G_off rfl rfl rfl rfl ?_
     refine G_off rfl rfl rfl rfl ?_
     refine G_off rfl rfl rfl rfl ?_
     refine G_val rfl rfl rfl rfl (V_pickT rfl rfl rfl) ?_
     refine G_done ?_
     refine G_then rfl ?_
     refine G_seq ?_
     refine G_region (l := [0]) rfl ?_
     refine G_val rfl rfl rfl rfl (V_assign rfl rfl) ?_
     refine G_done ?_
     refine G_ret (post := []) Tryd.func24 rfl (RVs_cons (RV_tmp rfl) RVs_nil) [] rfl ?_
     dsimp only [packed]
     first
       | exact ⟨bool_eq (bare_yes (by omega)).symm, rfl⟩
       | exact ⟨bool_eq (by rw [bare_else (by omega), contains_nat]; first | exact (decide_eq_true (by omega)).symm | exact (decide_eq_false (by omega)).symm | exact decide_eq_decide.2 (by omega)), rfl⟩
   refine G_val rfl rfl rfl rfl (V_move rfl rfl) ?_
   refine G_val rfl rfl rfl rfl (V_leq rfl rfl rfl) ?_
   refine G_val rfl rfl rfl rfl (V_move rfl rfl) ?_
   refine G_splitD 12 rfl (fun hc3 => ?_) (fun hc3 => ?_)
   rotate_left
   · (first | contradiction | (exact absurd rfl hc3) | (exfalso; omega) | (simp at hc3; done) | (exact absurd hc3 (by decide)) | (exact absurd (by decide) hc3))
   refine G_val rfl rfl rfl rfl (V_move rfl rfl) ?_
   refine G_val rfl rfl rfl rfl (V_leq rfl rfl rfl) ?_
   refine G_val rfl rfl rfl rfl (V_pickT rfl rfl rfl) ?_
   refine G_val rfl rfl rfl rfl (V_pickF rfl rfl rfl) ?_
   refine G_val rfl rfl rfl rfl (V_move rfl rfl) ?_
   refine G_splitD 17 rfl (fun hc4 => ?_) (fun hc4 => ?_)
   · (first | contradiction | (exact absurd rfl hc4) | (exfalso; omega) | (simp at hc4; done) | (exact absurd hc4 (by decide)) | (exact absurd (by decide) hc4))
   refine G_val rfl rfl rfl rfl (V_move rfl rfl) ?_
   refine G_val rfl rfl rfl rfl (V_leq rfl rfl rfl) ?_
   refine G_val rfl rfl rfl rfl (V_move rfl rfl) ?_
   refine G_splitD 20 rfl (fun hc5 => ?_) (fun hc5 => ?_)
   rotate_left
   · (first | contradiction | (exact absurd rfl hc5) | (exfalso; omega) | (simp at hc5; done) | (exact absurd hc5 (by decide)) | (exact absurd (by decide) hc5))
   refine G_val rfl rfl rfl rfl (V_move rfl rfl) ?_
   refine G_val rfl rfl rfl rfl (V_leq rfl rfl rfl) ?_
   refine G_val rfl rfl rfl rfl (V_pickT rfl rfl rfl) ?_
   refine G_val rfl rfl rfl rfl (V_pickF rfl rfl rfl) ?_
   refine G_done ?_
   refine G_ifD rfl (fun hc6 => ?_) (fun hc6 => ?_)
   · (first | contradiction | (exact absurd rfl hc6) | (exfalso; omega) | (simp at hc6; done) | (exact absurd hc6 (by decide)) | (exact absurd (by decide) hc6))
   refine G_skip ?_
   refine G_seq ?_
   refine G_region (l := [0, 1, 2, 3, 4, 5, 6, 7, 8, 9, 10, 11, 12, 13, 14, 15, 16, 17, 18, 19, 20, 21, 22, 23, 24, 25, 26, 27, 28, 29, 30]) rfl ?_
   refine G_val rfl rfl rfl rfl (V_move rfl rfl) ?_
   refine G_val rfl rfl rfl rfl (V_eql rfl rfl rfl) ?_
   refine G_val rfl rfl rfl rfl (V_move rfl rfl) ?_
   refine G_splitD 27 rfl (fun hc7 => ?_) (fun hc7 => ?_)
   · (first | contradiction | (exact absurd rfl hc7) | (exfalso; omega) | (simp at hc7; done) | (exact absurd hc7 (by decide)) | (exact absurd (by decide) hc7))
   refine G_val rfl rfl rfl rfl (V_move rfl rfl) ?_
   refine G_val rfl rfl rfl rfl (V_eql rfl rfl rfl) ?_
   refine G_val rfl rfl rfl rfl (V_pickF rfl rfl rfl) ?_
   refine G_val rfl rfl rfl rfl (V_move rfl rfl) ?_
   refine G_splitD 31 rfl (fun hc8 => ?_) (fun hc8 => ?_)
   · (first | contradiction | (exact absurd rfl hc8) | (exfalso; omega) | (simp at hc8; done) | (exact absurd hc8 (by decide)) | (exact absurd (by decide) hc8))
   refine G_val rfl rfl rfl rfl (V_move rfl rfl) ?_
   refine G_val rfl rfl rfl rfl (V_eql rfl rfl rfl) ?_
   refine G_val rfl rfl rfl rfl (V_pickF rfl rfl rfl) ?_
   refine G_val rfl rfl rfl rfl (V_move rfl rfl) ?_
   refine G_splitD 35 rfl (fun hc9 => ?_) (fun hc9 => ?_)
   · (first | contradiction | (exact absurd rfl hc9) | (exfalso; omega) | (simp at hc9; done) | (exact absurd hc9 (by decide)) | (exact absurd (by decide) hc9))
   refine G_val rfl rfl rfl rfl (V_move rfl rfl) ?_
   refine G_val rfl rfl rfl rfl (V_eql rfl rfl rfl) ?_
   refine G_val rfl rfl rfl rfl (V_pickF rfl rfl rfl) ?_
   refine G_val rfl rfl rfl rfl (V_move rfl rfl) ?_
   refine G_splitD 39 rfl (fun hc10 => ?_) (fun hc10 => ?_)
   · (first | contradiction | (exact absurd rfl hc10) | (exfalso; omega) | (simp at hc10; done) | (exact absurd hc10 (by decide)) | (exact absurd (by decide) hc10))
   refine G_val rfl rfl rfl rfl (V_move rfl rfl) ?_
   refine G_val rfl rfl rfl rfl (V_eql rfl rfl rfl) ?_
   refine G_val rfl rfl rfl rfl (V_pickF rfl rfl rfl) ?_
   refine G_val rfl rfl rfl rfl (V_move rfl rfl) ?_
   refine G_splitD 43 rfl (fun hc11 => ?_) (fun hc11 => ?_)
   · (first | contradiction | (exact absurd rfl hc11) | (exfalso; omega) | (simp at hc11; done) | (exact absurd hc11 (by decide)) | (exact absurd (by decide) hc11))
   refine G_val rfl rfl rfl rfl (V_move rfl rfl) ?_
   refine G_val rfl rfl rfl rfl (V_eql rfl rfl rfl) ?_
   refine G_val rfl rfl rfl rfl (V_pickF rfl rfl rfl) ?_
   refine G_val rfl rfl rfl rfl (V_move rfl rfl) ?_
   refine G_splitD 47 rfl (fun hc12 => ?_) (fun hc12 => ?_)
   · (first | contradiction | (exact absurd rfl hc12) | (exfalso; omega) | (simp at hc12; done) | (exact absurd hc12 (by decide)) | (exact absurd (by decide) hc12))
   refine G_val rfl rfl rfl rfl (V_move rfl rfl) ?_
   refine G_val rfl rfl rfl rfl (V_eql rfl rfl rfl) ?_
   refine G_val rfl rfl rfl rfl (V_pickF rfl rfl rfl) ?_
   refine G_val rfl rfl rfl rfl (V_move rfl rfl) ?_
   refine G_splitD 51 rfl (fun hc13 => ?_) (fun hc13 => ?_)
   · (first | contradiction | (exact absurd rfl hc13) | (exfalso; omega) | (simp at hc13; done) | (exact absurd hc13 (by decide)) | (exact absurd (by decide) hc13))
   refine G_val rfl rfl rfl rfl (V_move rfl rfl) ?_
   refine G_val rfl rfl rfl rfl (V_eql rfl rfl rfl) ?_
   refine G_val rfl rfl rfl rfl (V_pickF rfl rfl rfl) ?_
   refine G_val rfl rfl rfl rfl (V_assign rfl rfl) ?_
   refine G_done ?_
   refine G_ret (post := []) Tryd.func24 rfl (RVs_cons (RV_tmp rfl) RVs_nil) [] rfl ?_
   dsimp only [packed]
   first
     | exact ⟨bool_eq (bare_yes (by omega)).symm, rfl⟩
     | exact ⟨bool_eq (by rw [bare_else (by omega), contains_nat]; first | exact (decide_eq_true (by omega)).symm | exact (decide_eq_false (by omega)).symm | exact decide_eq_decide.2 (by omega)), rfl⟩
 refine G_off rfl rfl rfl rfl ?_
 refine G_off rfl rfl rfl rfl ?_
 refine G_val rfl rfl rfl rfl (V_pickF rfl rfl rfl) ?_
 refine G_val rfl rfl rfl rfl (V_move rfl rfl) ?_
 refine G_val rfl rfl rfl rfl (V_move rfl rfl) ?_
 refine G_val rfl rfl rfl rfl (V_leq rfl rfl rfl) ?_
 refine G_val rfl rfl rfl rfl (V_move rfl rfl) ?_
 refine G_splitD 12 rfl (fun hc2 => ?_) (fun hc2 => ?_)
 · skip
   refine G_val rfl rfl rfl rfl (V_move rfl rfl) ?_
   refine G_val rfl rfl rfl rfl (V_leq rfl rfl rfl) ?_
   refine G_val rfl rfl rfl rfl (V_pickT rfl rfl rfl) ?_
   refine G_val rfl rfl rfl rfl (V_pickF rfl rfl rfl) ?_
   refine G_val rfl rfl rfl rfl (V_move rfl rfl) ?_
   refine G_splitD 17 rfl (fun hc3 => ?_) (fun hc3 => ?_)
   · skip
     refine G_off rfl rfl rfl rfl ?_
     refine G_off rfl rfl rfl rfl ?_
     refine G_off rfl rfl rfl rfl ?_
     refine G_off rfl rfl rfl rfl ?_
     refine G_off rfl rfl rfl rfl ?_
     refine G_off rfl rfl rfl rfl ?_
     refine G_val rfl rfl rfl rfl (V_pickT rfl rfl rfl) ?_
     refine G_done ?_
     refine G_then rfl ?_
     refine G_seq ?_
     refine G_region (l := [0]) rfl ?_
     refine G_val rfl rfl rfl rfl (V_assign rfl rfl) ?_
     refine G_done ?_
     refine G_ret (post := []) Tryd.func24 rfl (RVs_cons (RV_tmp rfl) RVs_nil) [] rfl ?_
     dsimp only [packed]
     first
       | exact ⟨bool_eq (bare_yes (by omega)).symm, rfl⟩
       | exact ⟨bool_eq (by rw [bare_else (by omega), contains_nat]; first | exact (decide_eq_true (by omega)).symm | exact (decide_eq_false (by omega)).symm | exact decide_eq_decide.2 (by omega)), rfl⟩
   refine G_val rfl rfl rfl rfl (V_move rfl rfl) ?_
   refine G_val rfl rfl rfl rfl (V_leq rfl rfl rfl) ?_
   refine G_val rfl rfl rfl rfl (V_move rfl rfl) ?_
   refine G_splitD 20 rfl (fun hc4 => ?_) (fun hc4 => ?_)
   rotate_left
   · (first | contradiction | (exact absurd rfl hc4) | (exfalso; omega) | (simp at hc4; done) | (exact absurd hc4 (by decide)) | (exact absurd (by decide) hc4))
   refine G_val rfl rfl rfl rfl (V_move rfl rfl) ?_
   refine G_val rfl rfl rfl rfl (V_leq rfl rfl rfl) ?_
   refine G_val rfl rfl rfl rfl (V_pickT rfl rfl rfl) ?_
   refine G_val rfl rfl rfl rfl (V_pickF rfl rfl rfl) ?_
   refine G_done ?_
   refine G_ifD rfl (fun hc5 => ?_) (fun hc5 => ?_)
   · (first | contradiction | (exact absurd rfl hc5) | (exfalso; omega) | (simp at hc5; done) | (exact absurd hc5 (by decide)) | (exact absurd (by decide) hc5))
   refine G_skip ?_
   refine G_seq ?_
   refine G_region (l := [0, 1, 2, 3, 4, 5, 6, 7, 8, 9, 10, 11, 12, 13, 14, 15, 16, 17, 18, 19, 20, 21, 22, 23, 24, 25, 26, 27, 28, 29, 30]) rfl ?_
   refine G_val rfl rfl rfl rfl (V_move rfl rfl) ?_
   refine G_val rfl rfl rfl rfl (V_eql rfl rfl rfl) ?_
   refine G_val rfl rfl rfl rfl (V_move rfl rfl) ?_
   refine G_splitD 27 rfl (fun hc6 => ?_) (fun hc6 => ?_)
   · (first | contradiction | (exact absurd rfl hc6) | (exfalso; omega) | (simp at hc6; done) | (exact absurd hc6 (by decide)) | (exact absurd (by decide) hc6))
   refine G_val rfl rfl rfl rfl (V_move rfl rfl) ?_
   refine G_val rfl rfl rfl rfl (V_eql rfl rfl rfl) ?_
   refine G_val rfl rfl rfl rfl (V_pickF rfl rfl rfl) ?_
   refine G_val rfl rfl rfl rfl (V_move rfl rfl) ?_
   refine G_splitD 31 rfl (fun hc7 => ?_) (fun hc7 => ?_)
   · (first | contradiction | (exact absurd rfl hc7) | (exfalso; omega) | (simp at hc7; done) | (exact absurd hc7 (by decide)) | (exact absurd (by decide) hc7))
   refine G_val rfl rfl rfl rfl (V_move rfl rfl) ?_
   refine G_val rfl rfl rfl rfl (V_eql rfl rfl rfl) ?_
   refine G_val rfl rfl rfl rfl (V_pickF rfl rfl rfl) ?_
   refine G_val rfl rfl rfl rfl (V_move rfl rfl) ?_
   refine G_splitD 35 rfl (fun hc8 => ?_) (fun hc8 => ?_)
   · (first | contradiction | (exact absurd rfl hc8) | (exfalso; omega) | (simp at hc8; done) | (exact absurd hc8 (by decide)) | (exact absurd (by decide) hc8))
   refine G_val rfl rfl rfl rfl (V_move rfl rfl) ?_
   refine G_val rfl rfl rfl rfl (V_eql rfl rfl rfl) ?_
   refine G_val rfl rfl rfl rfl (V_pickF rfl rfl rfl) ?_
   refine G_val rfl rfl rfl rfl (V_move rfl rfl) ?_
   refine G_splitD 39 rfl (fun hc9 => ?_) (fun hc9 => ?_)
   · (first | contradiction | (exact absurd rfl hc9) | (exfalso; omega) | (simp at hc9; done) | (exact absurd hc9 (by decide)) | (exact absurd (by decide) hc9))
   refine G_val rfl rfl rfl rfl (V_move rfl rfl) ?_
   refine G_val rfl rfl rfl rfl (V_eql rfl rfl rfl) ?_
   refine G_val rfl rfl rfl rfl (V_pickF rfl rfl rfl) ?_
   refine G_val rfl rfl rfl rfl (V_move rfl rfl) ?_
   refine G_splitD 43 rfl (fun hc10 => ?_) (fun hc10 => ?_)
   · (first | contradiction | (exact absurd rfl hc10) | (exfalso; omega) | (simp at hc10; done) | (exact absurd hc10 (by decide)) | (exact absurd (by decide) hc10))
   refine G_val rfl rfl rfl rfl (V_move rfl rfl) ?_
   refine G_val rfl rfl rfl rfl (V_eql rfl rfl rfl) ?_
   refine G_val rfl rfl rfl rfl (V_pickF rfl rfl rfl) ?_
   refine G_val rfl rfl rfl rfl (V_move rfl rfl) ?_
   refine G_splitD 47 rfl (fun hc11 => ?_) (fun hc11 => ?_)
   · (first | contradiction | (exact absurd rfl hc11) | (exfalso; omega) | (simp at hc11; done) | (exact absurd hc11 (by decide)) | (exact absurd (by decide) hc11))
   refine G_val rfl rfl rfl rfl (V_move rfl rfl) ?_
   refine G_val rfl rfl rfl rfl (V_eql rfl rfl rfl) ?_
   refine G_val rfl rfl rfl rfl (V_pickF rfl rfl rfl) ?_
   refine G_val rfl rfl rfl rfl (V_move rfl rfl) ?_
   refine G_splitD 51 rfl (fun hc12 => ?_) (fun hc12 => ?_)
   · skip
     refine G_off rfl rfl rfl rfl ?_
     refine G_off rfl rfl rfl rfl ?_
     refine G_val rfl rfl rfl rfl (V_pickT rfl rfl rfl) ?_
     refine G_val rfl rfl rfl rfl (V_assign rfl rfl) ?_
     refine G_done ?_
     refine G_ret (post := []) Tryd.func24 rfl (RVs_cons (RV_tmp rfl) RVs_nil) [] rfl ?_
     dsimp only [packed]
     first
       | exact ⟨bool_eq (bare_yes (by omega)).symm, rfl⟩
       | exact ⟨bool_eq (by rw [bare_else (by omega), contains_nat]; first | exact (decide_eq_true (by omega)).symm | exact (decide_eq_false (by omega)).symm | exact decide_eq_decide.2 (by omega)), rfl⟩
   refine G_val rfl rfl rfl rfl (V_move rfl rfl) ?_
   refine G_val rfl rfl rfl rfl (V_eql rfl rfl rfl) ?_
   refine G_val rfl rfl rfl rfl (V_pickF rfl rfl rfl) ?_
   refine G_val rfl rfl rfl rfl (V_assign rfl rfl) ?_
   refine G_done ?_
   refine G_ret (post := []) Tryd.func24 rfl (RVs_cons (RV_tmp rfl) RVs_nil) [] rfl ?_
   dsimp only [packed]
   first
     | exact ⟨bool_eq (bare_yes (by omega)).symm, rfl⟩
     | exact ⟨bool_eq (by rw [bare_else (by omega), contains_nat]; first | exact (decide_eq_true (by omega)).symm | exact (decide_eq_false (by omega)).symm | exact decide_eq_decide.2 (by omega)), rfl⟩
 refine G_off rfl rfl rfl rfl ?_
 refine G_off rfl rfl rfl rfl ?_
 refine G_val rfl rfl rfl rfl (V_pickF rfl rfl rfl) ?_
 refine G_val rfl rfl rfl rfl (V_pickF rfl rfl rfl) ?_
 refine G_val rfl rfl rfl rfl (V_move rfl rfl) ?_
 refine G_val rfl rfl rfl rfl (V_move rfl rfl) ?_
 refine G_val rfl rfl rfl rfl (V_leq rfl rfl rfl) ?_
 refine G_val rfl rfl rfl rfl (V_move rfl rfl) ?_
 refine G_splitD 20 rfl (fun hc3 => ?_) (fun hc3 => ?_)
 · skip
   refine G_val rfl rfl rfl rfl (V_move rfl rfl) ?_
   refine G_val rfl rfl rfl rfl (V_leq rfl rfl rfl) ?_
   refine G_val rfl rfl rfl rfl (V_pickT rfl rfl rfl) ?_
   refine G_val rfl rfl rfl rfl (V_pickF rfl rfl rfl) ?_
   refine G_done ?_
   refine G_ifD rfl (fun hc4 => ?_) (fun hc4 => ?_)
   · skip
     refine G_seq ?_
     refine G_region (l := [0]) rfl ?_
     refine G_val rfl rfl rfl rfl (V_assign rfl rfl) ?_
     refine G_done ?_
     refine G_ret (post := []) Tryd.func24 rfl (RVs_cons (RV_tmp rfl) RVs_nil) [] rfl ?_
     dsimp only [packed]
     first
       | exact ⟨bool_eq (bare_yes (by omega)).symm, rfl⟩
       | exact ⟨bool_eq (by rw [bare_else (by omega), contains_nat]; first | exact (decide_eq_true (by omega)).symm | exact (decide_eq_false (by omega)).symm | exact decide_eq_decide.2 (by omega)), rfl⟩
   refine G_skip ?_
   refine G_seq ?_
   refine G_region (l := [0, 1, 2, 3, 4, 5, 6, 7, 8, 9, 10, 11, 12, 13, 14, 15, 16, 17, 18, 19, 20, 21, 22, 23, 24, 25, 26, 27, 28, 29, 30]) rfl ?_
   refine G_val rfl rfl rfl rfl (V_move rfl rfl) ?_
   refine G_val rfl rfl rfl rfl (V_eql rfl rfl rfl) ?_
   refine G_val rfl rfl rfl rfl (V_move rfl rfl) ?_
   refine G_splitD 27 rfl (fun hc5 => ?_) (fun hc5 => ?_)
   · (first | contradiction | (exact absurd rfl hc5) | (exfalso; omega) | (simp at hc5; done) | (exact absurd hc5 (by decide)) | (exact absurd (by decide) hc5))
   refine G_val rfl rfl rfl rfl (V_move rfl rfl) ?_
   refine G_val rfl rfl rfl rfl (V_eql rfl rfl rfl) ?_
   refine G_val rfl rfl rfl rfl (V_pickF rfl rfl rfl) ?_
   refine G_val rfl rfl rfl rfl (V_move rfl rfl) ?_
   refine G_splitD 31 rfl (fun hc6 => ?_) (fun hc6 => ?_)
   · (first | contradiction | (exact absurd rfl hc6) | (exfalso; omega) | (simp at hc6; done) | (exact absurd hc6 (by decide)) | (exact absurd (by decide) hc6))
   refine G_val rfl rfl rfl rfl (V_move rfl rfl) ?_
   refine G_val rfl rfl rfl rfl (V_eql rfl rfl rfl) ?_
   refine G_val rfl rfl rfl rfl (V_pickF rfl rfl rfl) ?_
   refine G_val rfl rfl rfl rfl (V_move rfl rfl) ?_
   refine G_splitD 35 rfl (fun hc7 => ?_) (fun hc7 => ?_)
   · skip
     refine G_off rfl rfl rfl rfl ?_
     refine G_off rfl rfl rfl rfl ?_
     refine G_val rfl rfl rfl rfl (V_pickT rfl rfl rfl) ?_
     refine G_val rfl rfl rfl rfl (V_move rfl rfl) ?_
     refine G_off rfl rfl rfl rfl ?_
     refine G_off rfl rfl rfl rfl ?_
     refine G_val rfl rfl rfl rfl (V_pickT rfl rfl rfl) ?_
     refine G_val rfl rfl rfl rfl (V_move rfl rfl) ?_
     refine G_off rfl rfl rfl rfl ?_
     refine G_off rfl rfl rfl rfl ?_
     refine G_val rfl rfl rfl rfl (V_pickT rfl rfl rfl) ?_
     refine G_val rfl rfl rfl rfl (V_move rfl rfl) ?_
     refine G_off rfl rfl rfl rfl ?_
     refine G_off rfl rfl rfl rfl ?_
     refine G_val rfl rfl rfl rfl (V_pickT rfl rfl rfl) ?_
     refine G_val rfl rfl rfl rfl (V_move rfl rfl) ?_
     refine G_off rfl rfl rfl rfl ?_
     refine G_off rfl rfl rfl rfl ?_
     refine G_val rfl rfl rfl rfl (V_pickT rfl rfl rfl) ?_
     refine G_val rfl rfl rfl rfl (V_assign rfl rfl) ?_
     refine G_done ?_
     refine G_ret (post := []) Tryd.func24 rfl (RVs_cons (RV_tmp rfl) RVs_nil) [] rfl ?_
     dsimp only [packed]
     first
       | exact ⟨bool_eq (bare_yes (by omega)).symm, rfl⟩
       | exact ⟨bool_eq (by rw [bare_else (by omega), contains_nat]; first | exact (decide_eq_true (by omega)).symm | exact (decide_eq_false (by omega)).symm | exact decide_eq_decide.2 (by omega)), rfl⟩
   refine G_val rfl rfl rfl rfl (V_move rfl rfl) ?_
   refine G_val rfl rfl rfl rfl (V_eql rfl rfl rfl) ?_
   refine G_val rfl rfl rfl rfl (V_pickF rfl rfl rfl) ?_
   refine G_val rfl rfl rfl rfl (V_move rfl rfl) ?_
   refine G_splitD 39 rfl (fun hc8 => ?_) (fun hc8 => ?_)
   · (first | contradiction | (exact absurd rfl hc8) | (exfalso; omega) | (simp at hc8; done) | (exact absurd hc8 (by decide)) | (exact absurd (by decide) hc8))
   refine G_val rfl rfl rfl rfl (V_move rfl rfl) ?_
   refine G_val rfl rfl rfl rfl (V_eql rfl rfl rfl) ?_
   refine G_val rfl rfl rfl rfl (V_pickF rfl rfl rfl) ?_
   refine G_val rfl rfl rfl rfl (V_move rfl rfl) ?_
   refine G_splitD 43 rfl (fun hc9 => ?_) (fun hc9 => ?_)
   · (first | contradiction | (exact absurd rfl hc9) | (exfalso; omega) | (simp at hc9; done) | (exact absurd hc9 (by decide)) | (exact absurd (by decide) hc9))
   refine G_val rfl rfl rfl rfl (V_move rfl rfl) ?_
   refine G_val rfl rfl rfl rfl (V_eql rfl rfl rfl) ?_
   refine G_val rfl rfl rfl rfl (V_pickF rfl rfl rfl) ?_
   refine G_val rfl rfl rfl rfl (V_move rfl rfl) ?_
   refine G_splitD 47 rfl (fun hc10 => ?_) (fun hc10 => ?_)
   · (first | contradiction | (exact absurd rfl hc10) | (exfalso; omega) | (simp at hc10; done) | (exact absurd hc10 (by decide)) | (exact absurd (by decide) hc10))
   refine G_val rfl rfl rfl rfl (V_move rfl rfl) ?_
   refine G_val rfl rfl rfl rfl (V_eql rfl rfl rfl) ?_
   refine G_val rfl rfl rfl rfl (V_pickF rfl rfl rfl) ?_
   refine G_val rfl rfl rfl rfl (V_move rfl rfl) ?_
   refine G_splitD 51 rfl (fun hc11 => ?_) (fun hc11 => ?_)
   · (first | contradiction | (exact absurd rfl hc11) | (exfalso; omega) | (simp at hc11; done) | (exact absurd hc11 (by decide)) | (exact absurd (by decide) hc11))
   refine G_val rfl rfl rfl rfl (V_move rfl rfl) ?_
   refine G_val rfl rfl rfl rfl (V_eql rfl rfl rfl) ?_
   refine G_val rfl rfl rfl rfl (V_pickF rfl rfl rfl) ?_
   refine G_val rfl rfl rfl rfl (V_assign rfl rfl) ?_
   refine G_done ?_
   refine G_ret (post := []) Tryd.func24 rfl (RVs_cons (RV_tmp rfl) RVs_nil) [] rfl ?_
   dsimp only [packed]
   first
     | exact ⟨bool_eq (bare_yes (by omega)).symm, rfl⟩
     | exact ⟨bool_eq (by rw [bare_else (by omega), contains_nat]; first | exact (decide_eq_true (by omega)).symm | exact (decide_eq_false (by omega)).symm | exact decide_eq_decide.2 (by omega)), rfl⟩
 refine G_off rfl rfl rfl rfl ?_
 refine G_off rfl rfl rfl rfl ?_
 refine G_val rfl rfl rfl rfl (V_pickF rfl rfl rfl) ?_
 refine G_val rfl rfl rfl rfl (V_pickF rfl rfl rfl) ?_
 refine G_done ?_
 refine G_else rfl ?_
 refine G_skip ?_
 refine G_seq ?_
 refine G_region (l := [0, 1, 2, 3, 4, 5, 6, 7, 8, 9, 10, 11, 12, 13, 14, 15, 16, 17, 18, 19, 20, 21, 22, 23, 24, 25, 26, 27, 28, 29, 30]) rfl ?_
 refine G_val rfl rfl rfl rfl (V_move rfl rfl) ?_
 refine G_val rfl rfl rfl rfl (V_eql rfl rfl rfl) ?_
 refine G_val rfl rfl rfl rfl (V_move rfl rfl) ?_
 refine G_splitD 27 rfl (fun hc4 => ?_) (fun hc4 => ?_)
 · skip
   refine G_off rfl rfl rfl rfl ?_
   refine G_off rfl rfl rfl rfl ?_
   refine G_val rfl rfl rfl rfl (V_pickT rfl rfl rfl) ?_
   refine G_val rfl rfl rfl rfl (V_move rfl rfl) ?_
   refine G_off rfl rfl rfl rfl ?_
   refine G_off rfl rfl rfl rfl ?_
   refine G_val rfl rfl rfl rfl (V_pickT rfl rfl rfl) ?_
   refine G_val rfl rfl rfl rfl (V_move rfl rfl) ?_
   refine G_off rfl rfl rfl rfl ?_
   refine G_off rfl rfl rfl rfl ?_
   refine G_val rfl rfl rfl rfl (V_pickT rfl rfl rfl) ?_
   refine G_val rfl rfl rfl rfl (V_move rfl rfl) ?_
   refine G_off rfl rfl rfl rfl ?_
   refine G_off rfl rfl rfl rfl ?_
   refine G_val rfl rfl rfl rfl (V_pickT rfl rfl rfl) ?_
   refine G_val rfl rfl rfl rfl (V_move rfl rfl) ?_
   refine G_off rfl rfl rfl rfl ?_
   refine G_off rfl rfl rfl rfl ?_
   refine G_val rfl rfl rfl rfl (V_pickT rfl rfl rfl) ?_
   refine G_val rfl rfl rfl rfl (V_move rfl rfl) ?_
   refine G_off rfl rfl rfl rfl ?_
   refine G_off rfl rfl rfl rfl ?_
   refine G_val rfl rfl rfl rfl (V_pickT rfl rfl rfl) ?_
   refine G_val rfl rfl rfl rfl (V_move rfl rfl) ?_
   refine G_off rfl rfl rfl rfl ?_
   refine G_off rfl rfl rfl rfl ?_
   refine G_val rfl rfl rfl rfl (V_pickT rfl rfl rfl) ?_
   refine G_val rfl rfl rfl rfl (V_assign rfl rfl) ?_
   refine G_done ?_
   refine G_ret (post := []) Tryd.func24 rfl (RVs_cons (RV_tmp rfl) RVs_nil) [] rfl ?_
   dsimp only [packed]
   first
     | exact ⟨bool_eq (bare_yes (by omega)).symm, rfl⟩
     | exact ⟨bool_eq (by rw [bare_else (by omega), contains_nat]; first | exact (decide_eq_true (by omega)).symm | exact (decide_eq_false (by omega)).symm | exact decide_eq_decide.2 (by omega)), rfl⟩
 refine G_val rfl rfl rfl rfl (V_move rfl rfl) ?_
 refine G_val rfl rfl rfl rfl (V_eql rfl rfl rfl) ?_
 refine G_val rfl rfl rfl rfl (V_pickF rfl rfl rfl) ?_
 refine G_val rfl rfl rfl rfl (V_move rfl rfl) ?_
 refine G_splitD 31 rfl (fun hc5 => ?_) (fun hc5 => ?_)
 · skip
   refine G_off rfl rfl rfl rfl ?_
   refine G_off rfl rfl rfl rfl ?_
   refine G_val rfl rfl rfl rfl (V_pickT rfl rfl rfl) ?_
   refine G_val rfl rfl rfl rfl (V_move rfl rfl) ?_
   refine G_off rfl rfl rfl rfl ?_
   refine G_off rfl rfl rfl rfl ?_
   refine G_val rfl rfl rfl rfl (V_pickT rfl rfl rfl) ?_
   refine G_val rfl rfl rfl rfl (V_move rfl rfl) ?_
   refine G_off rfl rfl rfl rfl ?_
   refine G_off rfl rfl rfl rfl ?_
   refine G_val rfl rfl rfl rfl (V_pickT rfl rfl rfl) ?_
   refine G_val rfl rfl rfl rfl (V_move rfl rfl) ?_
   refine G_off rfl rfl rfl rfl ?_
   refine G_off rfl rfl rfl rfl ?_
   refine G_val rfl rfl rfl rfl (V_pickT rfl rfl rfl) ?_
   refine G_val rfl rfl rfl rfl (V_move rfl rfl) ?_
   refine G_off rfl rfl rfl rfl ?_
   refine G_off rfl rfl rfl rfl ?_
   refine G_val rfl rfl rfl rfl (V_pickT rfl rfl rfl) ?_
   refine G_val rfl rfl rfl rfl (V_move rfl rfl) ?_
   refine G_off rfl rfl rfl rfl ?_
   refine G_off rfl rfl rfl rfl ?_
   refine G_val rfl rfl rfl rfl (V_pickT rfl rfl rfl) ?_
   refine G_val rfl rfl rfl rfl (V_assign rfl rfl) ?_
   refine G_done ?_
   refine G_ret (post := []) Tryd.func24 rfl (RVs_cons (RV_tmp rfl) RVs_nil) [] rfl ?_
   dsimp only [packed]
   first
     | exact ⟨bool_eq (bare_yes (by omega)).symm, rfl⟩
     | exact ⟨bool_eq (by rw [bare_else (by omega), contains_nat]; first | exact (decide_eq_true (by omega)).symm | exact (decide_eq_false (by omega)).symm | exact decide_eq_decide.2 (by omega)), rfl⟩
 refine G_val rfl rfl rfl rfl (V_move rfl rfl) ?_
 refine G_val rfl rfl rfl rfl (V_eql rfl rfl rfl) ?_
 refine G_val rfl rfl rfl rfl (V_pickF rfl rfl rfl) ?_
 refine G_val rfl rfl rfl rfl (V_move rfl rfl) ?_
 refine G_splitD 35 rfl (fun hc6 => ?_) (fun hc6 => ?_)
 · (first | contradiction | (exact absurd rfl hc6) | (exfalso; omega) | (simp at hc6; done) | (exact absurd hc6 (by decide)) | (exact absurd (by decide) hc6))
 refine G_val rfl rfl rfl rfl (V_move rfl rfl) ?_
 refine G_val rfl rfl rfl rfl (V_eql rfl rfl rfl) ?_
 refine G_val rfl rfl rfl rfl (V_pickF rfl rfl rfl) ?_
 refine G_val rfl rfl rfl rfl (V_move rfl rfl) ?_
 refine G_splitD 39 rfl (fun hc7 => ?_) (fun hc7 => ?_)
 · skip
   refine G_off rfl rfl rfl rfl ?_
   refine G_off rfl rfl rfl rfl ?_
   refine G_val rfl rfl rfl rfl (V_pickT rfl rfl rfl) ?_
   refine G_val rfl rfl rfl rfl (V_move rfl rfl) ?_
   refine G_off rfl rfl rfl rfl ?_
   refine G_off rfl rfl rfl rfl ?_
   refine G_val rfl rfl rfl rfl (V_pickT rfl rfl rfl) ?_
   refine G_val rfl rfl rfl rfl (V_move rfl rfl) ?_
   refine G_off rfl rfl rfl rfl ?_
   refine G_off rfl rfl rfl rfl ?_
   refine G_val rfl rfl rfl rfl (V_pickT rfl rfl rfl) ?_
   refine G_val rfl rfl rfl rfl (V_move rfl rfl) ?_
   refine G_off rfl rfl rfl rfl ?_
   refine G_off rfl rfl rfl rfl ?_
   refine G_val rfl rfl rfl rfl (V_pickT rfl rfl rfl) ?_
   refine G_val rfl rfl rfl rfl (V_assign rfl rfl) ?_
   refine G_done ?_
   refine G_ret (post := []) Tryd.func24 rfl (RVs_cons (RV_tmp rfl) RVs_nil) [] rfl ?_
   dsimp only [packed]
   first
     | exact ⟨bool_eq (bare_yes (by omega)).symm, rfl⟩
     | exact ⟨bool_eq (by rw [bare_else (by omega), contains_nat]; first | exact (decide_eq_true (by omega)).symm | exact (decide_eq_false (by omega)).symm | exact decide_eq_decide.2 (by omega)), rfl⟩
 refine G_val rfl rfl rfl rfl (V_move rfl rfl) ?_
 refine G_val rfl rfl rfl rfl (V_eql rfl rfl rfl) ?_
 refine G_val rfl rfl rfl rfl (V_pickF rfl rfl rfl) ?_
 refine G_val rfl rfl rfl rfl (V_move rfl rfl) ?_
 refine G_splitD 43 rfl (fun hc8 => ?_) (fun hc8 => ?_)
 · skip
   refine G_off rfl rfl rfl rfl ?_
   refine G_off rfl rfl rfl rfl ?_
   refine G_val rfl rfl rfl rfl (V_pickT rfl rfl rfl) ?_
   refine G_val rfl rfl rfl rfl (V_move rfl rfl) ?_
   refine G_off rfl rfl rfl rfl ?_
   refine G_off rfl rfl rfl rfl ?_
   refine G_val rfl rfl rfl rfl (V_pickT rfl rfl rfl) ?_
   refine G_val rfl rfl rfl rfl (V_move rfl rfl) ?_
   refine G_off rfl rfl rfl rfl ?_
   refine G_off rfl rfl rfl rfl ?_
   refine G_val rfl rfl rfl rfl (V_pickT rfl rfl rfl) ?_
   refine G_val rfl rfl rfl rfl (V_assign rfl rfl) ?_
   refine G_done ?_
   refine G_ret (post := []) Tryd.func24 rfl (RVs_cons (RV_tmp rfl) RVs_nil) [] rfl ?_
   dsimp only [packed]
   first
     | exact ⟨bool_eq (bare_yes (by omega)).symm, rfl⟩
     | exact ⟨bool_eq (by rw [bare_else (by omega), contains_nat]; first | exact (decide_eq_true (by omega)).symm | exact (decide_eq_false (by omega)).symm | exact decide_eq_decide.2 (by omega)), rfl⟩
 refine G_val rfl rfl rfl rfl (V_move rfl rfl) ?_
 refine G_val rfl rfl rfl rfl (V_eql rfl rfl rfl) ?_
 refine G_val rfl rfl rfl rfl (V_pickF rfl rfl rfl) ?_
 refine G_val rfl rfl rfl rfl (V_move rfl rfl) ?_
 refine G_splitD 47 rfl (fun hc9 => ?_) (fun hc9 => ?_)
 · skip
   refine G_off rfl rfl rfl rfl ?_
   refine G_off rfl rfl rfl rfl ?_
   refine G_val rfl rfl rfl rfl (V_pickT rfl rfl rfl) ?_
   refine G_val rfl rfl rfl rfl (V_move rfl rfl) ?_
   refine G_off rfl rfl rfl rfl ?_
   refine G_off rfl rfl rfl rfl ?_
   refine G_val rfl rfl rfl rfl (V_pickT rfl rfl rfl) ?_
   refine G_val rfl rfl rfl rfl (V_assign rfl rfl) ?_
   refine G_done ?_
   refine G_ret (post := []) Tryd.func24 rfl (RVs_cons (RV_tmp rfl) RVs_nil) [] rfl ?_
   dsimp only [packed]
   first
     | exact ⟨bool_eq (bare_yes (by omega)).symm, rfl⟩
     | exact ⟨bool_eq (by rw [bare_else (by omega), contains_nat]; first | exact (decide_eq_true (by omega)).symm | exact (decide_eq_false (by omega)).symm | exact decide_eq_decide.2 (by omega)), rfl⟩
 refine G_val rfl rfl rfl rfl (V_move rfl rfl) ?_
 refine G_val rfl rfl rfl rfl (V_eql rfl rfl rfl) ?_
 refine G_val rfl rfl rfl rfl (V_pickF rfl rfl rfl) ?_
 refine G_val rfl rfl rfl rfl (V_move rfl rfl) ?_
 refine G_splitD 51 rfl (fun hc10 => ?_) (fun hc10 => ?_)
 · (first | contradiction | (exact absurd rfl hc10) | (exfalso; omega) | (simp at hc10; done) | (exact absurd hc10 (by decide)) | (exact absurd (by decide) hc10))
 refine G_val rfl rfl rfl rfl (V_move rfl rfl) ?_
 refine G_val rfl rfl rfl rfl (V_eql rfl rfl rfl) ?_
 refine G_val rfl rfl rfl rfl (V_pickF rfl rfl rfl) ?_
 refine G_val rfl rfl rfl rfl (V_assign rfl rfl) ?_
 refine G_done ?_
 refine G_ret (post := []) Tryd.func24 rfl (RVs_cons (RV_tmp rfl) RVs_nil) [] rfl ?_
 dsimp only [packed]
 first
   | exact ⟨bool_eq (bare_yes (by omega)).symm, rfl⟩
   | exact ⟨bool_eq (by rw [bare_else (by omega), contains_nat]; first | exact (decide_eq_true (by omega)).symm | exact (decide_eq_false (by omega)).symm | exact decide_eq_decide.2 (by omega)), rfl⟩

set_option maxRecDepth 100000 in
set_option maxHeartbeats 1000000 in
theorem bld_byte (b : Nat) (p : Value) (u : Sl) (tx : List UInt8) (c : UInt8) (hp : UsedOr b p) (hu : Txt u tx) (hs : tx.length ≤ 140737488355320) :
    Ct Tryd.prog 21 [.pointer (some ⟨b, 0, none⟩), .int .u8 (c.toNat : Int)] [] [(some b, .cells #[p, u.v tx.length] 57 (0, 0)), (u.ob, .cells u.cs 5 u.fz)] fun v post => v = .nilIface ∧ ∃ u1, Txt u1 (tx ++ [c]) ∧ post = [(some b, .cells #[.pointer (some ⟨b, 0, none⟩), u1.v (tx ++ [c]).length] 57 (0, 0)), (u1.ob, .cells u1.cs 5 u1.fz)] := by
 refine ct_of Tryd.func21 rfl rfl (fun w0 => ?_)
 show G _ _ [(0, _), (1, _)] _ _
 refine G_seq ?_
 refine G_region (l := [0]) rfl ?_
 refine G_val rfl rfl rfl rfl (V_assign rfl rfl) ?_
 refine G_done ?_
 refine G_seq ?_
 refine G_region (l := [0, 1]) rfl ?_
 refine G_val rfl rfl rfl rfl (V_move rfl rfl) ?_
 refine G_call (L2 := [_]) rfl rfl rfl rfl rfl rfl Tryd.call49 (copy_any _ _ _ rfl hp) [0] [] rfl rfl ?_
 rintro v post ⟨rfl, rfl⟩
 show G _ _ _ [_, _] _
 refine G_done ?_
 refine G_seq ?_
 refine G_region (l := [0, 1, 2, 3, 4, 5, 6, 7, 8, 9, 10]) rfl ?_
 refine G_val rfl rfl rfl rfl (V_move rfl rfl) ?_
 refine G_val rfl rfl rfl rfl (V_move rfl rfl) ?_
 first
   | refine G_val rfl rfl rfl rfl (V_nilCheck rfl rfl) ?_
   | refine G_val rfl rfl rfl rfl (V_nilCheckF rfl rfl) ?_
 refine G_val rfl rfl rfl rfl (V_fieldAddr (fo := 1) rfl Tryd.underlying57 rfl infTellW_55 rfl rfl rfl) ?_
 refine G_val rfl rfl rfl rfl (V_load1 rfl rfl (mem_at 0 rfl) rfl Tryd.underlying55 rfl) ?_
 refine G_val rfl rfl rfl rfl (V_move rfl rfl) ?_
 refine G_new rfl rfl rfl rfl (N_buildAll (s := 1) (cs := [_]) rfl Tryd.underlying55 infTellW_5 rfl rfl rfl rfl rfl rfl rfl rfl rfl) (fun b13 => ?_)
 refine G_append (l1 := [_, _]) (s := u) (nn := tx.length) (m := 1) (news := (bcells [c])) (bt := 1) rfl rfl rfl rfl Tryd.underlying55 Tryd.underlying55 (by first | exact .inl rfl | exact .inr ⟨_, rfl⟩) infTellW_5 rfl rfl rfl rfl rfl rfl hu.own rfl (src_mem (mem_at 0 rfl) rfl rfl (bcells_one [c])) (by omega) (by omega) ?_
 intro u1 hu1 hq1
 show G _ _ _ [_, _, _] _
 first
   | refine G_val rfl rfl rfl rfl (V_nilCheck rfl rfl) ?_
   | refine G_val rfl rfl rfl rfl (V_nilCheckF rfl rfl) ?_
 refine G_val rfl rfl rfl rfl (V_fieldAddr (fo := 1) rfl Tryd.underlying57 rfl infTellW_55 rfl rfl rfl) ?_
 refine G_put (l1 := [_]) (L' := [_, _, _]) rfl rfl rfl rfl (P_store1 rfl rfl rfl (mem_at 1 rfl) (by first | exact of_decide_eq_true rfl | omega | (simp; done) | (simp; omega) | (simp at *; omega)) infTellW_55 rfl rfl) rfl ?_
 refine G_done ?_
 refine G_seq ?_
 refine G_region (l := [0]) rfl ?_
 refine G_val rfl rfl rfl rfl (V_assign rfl rfl) ?_
 refine G_done ?_
 refine G_ret (post := [_, _]) Tryd.func21 rfl (RVs_cons (RV_tmp rfl) RVs_nil) [1, 1] rfl ?_
 dsimp only [packed]
 exact ⟨rfl, u1, hu.more (s := [c]) hu1 hq1.pos, by rw [List.length_append]; rfl⟩

set_option maxRecDepth 100000 in
set_option maxHeartbeats 1000000 in
theorem tl_quote (s : List UInt8) (hs : s.length ≤ 2000000) :
    Ct Tryd.prog 9 [.string (bs s)] [] [] fun v post => v = .string (bs (quoteT s)) ∧ post = [] := by
 refine ct_of Tryd.func9 rfl rfl (fun w0 => ?_)
 show G _ _ [(0, _)] _ _
 refine G_seq ?_
 refine G_region (l := [0]) rfl ?_
 refine G_val rfl rfl rfl rfl (V_assign rfl rfl) ?_
 refine G_done ?_
 refine G_seq ?_
 refine G_region (l := [0]) rfl ?_
 refine G_new rfl rfl rfl rfl (N_allocA rfl infTellW_57 rfl) (fun b3 => ?_)
 refine G_done ?_
 refine G_seq ?_
 refine G_seq ?_
 refine G_addNone (.cells #[] 5 (0, 0)) ?_
 refine G_region (l := [0, 1, 2]) rfl ?_
 refine G_val rfl rfl rfl rfl (V_move rfl rfl) ?_
 refine G_val rfl rfl rfl rfl (V_slen rfl rfl Tryd.underlying9 rfl) ?_
 refine G_val rfl rfl rfl rfl (V_move rfl rfl) ?_
 refine G_done ?_
 refine G_block ?_
 refine G_sub ?he3 [1, 0] ?hl3 (G_loop (X := Nat × Value × Sl) (fun x => match x with | ⟨i, pv, u⟩ => i ≤ s.length ∧ UsedOr b3 pv ∧ Txt u (quoteI (s.take i))) (fun x => match x with | ⟨i, pv, u⟩ => s.length - i) (fun x => match x with | ⟨i, pv, u⟩ => [(0, .string (bs s)), (3, .pointer (some ⟨b3, 0, none⟩)), (6, .int .i64 (s.length : Int)), (7, .int .i64 (i : Int))]) (fun x => match x with | ⟨i, pv, u⟩ => [(some b3, .cells #[pv, u.v (quoteI (s.take i)).length] 57 (0, 0)), (u.ob, .cells u.cs 5 u.fz)]) ?round3 (0, .pointer none, slNil) ?h03)
 case he3 => exact (And.intro rfl (And.intro rfl (And.intro rfl (And.intro rfl trivial))))
 case hl3 => exact ⟨_, rfl⟩
 case h03 => exact ⟨Nat.zero_le _, .inl rfl, txt_nil⟩
 case round3 =>
  intro x hJ ih
  try dsimp only at hJ ih
  obtain ⟨i, pv, u⟩ := x
  try dsimp only at hJ ih
  obtain ⟨hi, hpx, hux⟩ := hJ
  show G _ _ [(0, .string (bs s)), (3, .pointer (some ⟨b3, 0, none⟩)), (6, .int .i64 (s.length : Int)), (7, .int .i64 (i : Int))] [(some b3, .cells #[pv, u.v (quoteI (s.take i)).length] 57 (0, 0)), (u.ob, .cells u.cs 5 u.fz)] _
  refine G_seq ?_
  refine G_region (l := [0]) rfl ?_
  refine G_val rfl rfl rfl rfl (V_lss rfl rfl rfl) ?_
  refine G_done ?_
  refine G_seq ?_
  refine G_ifD rfl (fun hc1 => ?_) (fun hc1 => ?_)
  · skip
    refine G_skip ?_
    refine G_seq ?_
    refine G_block ?_
    refine G_seq ?_
    have hc8 := (s.getD i 0).toNat_lt
    have hql := quoteI_len (s.take i)
    have htl : (s.take i).length = i := by simp; omega
    refine G_region (l := [0, 1]) rfl ?_
    refine G_val rfl rfl rfl rfl (V_move rfl rfl) ?_
    refine G_val rfl rfl rfl rfl (V_assign rfl rfl) ?_
    refine G_done ?_
    refine G_seq ?_
    refine G_region (l := [0, 1, 2, 3]) rfl ?_
    refine G_val rfl rfl rfl rfl (V_move rfl rfl) ?_
    refine G_val rfl rfl rfl rfl (V_move rfl rfl) ?_
    first
      | refine G_val rfl rfl rfl rfl (V_sindexN rfl Tryd.underlying9 rfl rfl rfl (by omega)) ?_
      | refine G_val rfl rfl rfl rfl (V_sindexD rfl Tryd.underlying9 rfl rfl (by omega) (by first | omega | (simp; done) | (simp; omega) | (simp at *; omega))) ?_
    refine G_call (L2 := [_, _]) rfl rfl rfl rfl rfl rfl Tryd.call20 (tl_bare _) [] [] rfl rfl ?_
    rintro v post ⟨rfl, rfl⟩
    show G _ _ _ [_, _] _
    refine G_done ?_
    refine G_if rfl (fun hc2 => ?_) (fun hc2 => ?_)
    · skip
      refine G_region (l := [0, 1, 2, 3]) rfl ?_
      refine G_val rfl rfl rfl rfl (V_move rfl rfl) ?_
      refine G_val rfl rfl rfl rfl (V_move rfl rfl) ?_
      first
        | refine G_val rfl rfl rfl rfl (V_sindexN rfl Tryd.underlying9 rfl rfl rfl (by omega)) ?_
        | refine G_val rfl rfl rfl rfl (V_sindexD rfl Tryd.underlying9 rfl rfl (by omega) (by first | omega | (simp; done) | (simp; omega) | (simp at *; omega))) ?_
      refine G_call (L2 := []) rfl rfl rfl rfl rfl rfl Tryd.call21 (bld_byte _ _ _ _ _ hpx hux (by omega)) [0, 0] [] rfl rfl ?_
      rintro v post ⟨rfl, u1, hu1, rfl⟩
      show G _ _ _ [_, _] _
      rw [← quote_yes (c := s.getD i 0) (by assumption), quoteI_next (by omega)] at hu1 ⊢
      refine G_done ?_
      refine G_inBlock ?_
      refine G_region (l := [0, 1]) rfl ?_
      first
        | refine G_val rfl rfl rfl rfl ((V_add rfl rfl rfl).int (wrap_i64 (by omega))) ?_
        | refine G_val rfl rfl rfl rfl (V_add rfl rfl rfl) ?_
      refine G_val rfl rfl rfl rfl (V_move rfl rfl) ?_
      refine G_done ?_
      refine G_sub ?_ [0, 0] ?_ (ih (i + 1, .pointer (some ⟨b3, 0, none⟩), u1) ?_ ?_)
      · (refine (And.intro ?_ (And.intro ?_ (And.intro ?_ (And.intro ?_ trivial)))) <;> first | rfl | exact slot_int (by omega) | exact slot_int (by simp))
      · exact ⟨_, rfl⟩
      · exact ⟨by omega, .inr rfl, hu1⟩
      · (first | omega | (dsimp only; omega))
    refine GH_start (Lq := []) (isq := []) (m := 23) mixedK rfl rfl ?_
    refine GH_take 0 rfl rfl rfl rfl (by kernel_rfl) (by kernel_rfl) (by kernel_rfl) (fun _ _ => (V_move rfl rfl)) ?_
    refine GH_take 1 rfl rfl rfl rfl (by kernel_rfl) (by kernel_rfl) (by kernel_rfl) (fun _ _ => (V_move rfl rfl)) ?_
    first
      | refine GH_take 2 rfl rfl rfl rfl (by kernel_rfl) (by kernel_rfl) (by kernel_rfl) (fun _ _ => (V_sindexN rfl Tryd.underlying9 rfl rfl rfl (by omega))) ?_
      | refine GH_take 2 rfl rfl rfl rfl (by kernel_rfl) (by kernel_rfl) (by kernel_rfl) (fun _ _ => (V_sindexD rfl Tryd.underlying9 rfl rfl (by omega) (by first | omega | (simp; done) | (simp; omega) | (simp at *; omega)))) ?_
    refine GH_take 3 rfl rfl rfl rfl (by kernel_rfl) (by kernel_rfl) (by kernel_rfl) (fun _ _ => (Val.int (e' := (((s.getD i 0).toNat / 16) : Nat)) (V_shr rfl rfl rfl (by omega)) (shr4 _ (by omega)))) ?_
    refine GH_take 4 rfl rfl rfl rfl (by kernel_rfl) (by kernel_rfl) (by kernel_rfl) (fun _ _ => (V_move rfl rfl)) ?_
    refine GH_take 5 rfl rfl rfl rfl (by kernel_rfl) (by kernel_rfl) (by kernel_rfl) (fun _ _ => (V_move rfl rfl)) ?_
    first
      | refine GH_take 6 rfl rfl rfl rfl (by kernel_rfl) (by kernel_rfl) (by kernel_rfl) (fun _ _ => (V_sindexN rfl Tryd.underlying9 rfl rfl rfl (by omega))) ?_
      | refine GH_take 6 rfl rfl rfl rfl (by kernel_rfl) (by kernel_rfl) (by kernel_rfl) (fun _ _ => (V_sindexD rfl Tryd.underlying9 rfl rfl (by omega) (by first | omega | (simp; done) | (simp; omega) | (simp at *; omega)))) ?_
    refine GH_take 7 rfl rfl rfl rfl (by kernel_rfl) (by kernel_rfl) (by kernel_rfl) (fun _ _ => (Val.int (e' := (((s.getD i 0).toNat / 16) : Nat)) (V_shr rfl rfl rfl (by omega)) (shr4 _ (by omega)))) ?_
    refine GH_take 8 rfl rfl rfl rfl (by kernel_rfl) (by kernel_rfl) (by kernel_rfl) (fun _ _ => (Val.int (e' := ((((s.getD i 0).toNat / 16) + 1 : Nat) : Int)) (V_add rfl rfl rfl) (by rw [wrap_u8 (by omega)]; omega))) ?_
    refine GH_take 9 rfl rfl rfl rfl (by kernel_rfl) (by kernel_rfl) (by kernel_rfl) (fun _ _ => (V_ssliceN (lo := ((s.getD i 0).toNat / 16)) (hi := ((s.getD i 0).toNat / 16) + 1) rfl Tryd.underlying9 rfl rfl rfl rfl rfl (by omega) (by show _ ≤ 16; omega))) ?_
    refine GH_take 10 rfl rfl rfl rfl (by kernel_rfl) (by kernel_rfl) (by kernel_rfl) (fun _ _ => (V_sadd rfl rfl rfl (by first | omega | (simp; done) | (simp; omega) | (simp at *; omega)))) ?_
    refine GH_take 11 rfl rfl rfl rfl (by kernel_rfl) (by kernel_rfl) (by kernel_rfl) (fun _ _ => (V_move rfl rfl)) ?_
    refine GH_take 12 rfl rfl rfl rfl (by kernel_rfl) (by kernel_rfl) (by kernel_rfl) (fun _ _ => (V_move rfl rfl)) ?_
    first
      | refine GH_take 13 rfl rfl rfl rfl (by kernel_rfl) (by kernel_rfl) (by kernel_rfl) (fun _ _ => (V_sindexN rfl Tryd.underlying9 rfl rfl rfl (by omega))) ?_
      | refine GH_take 13 rfl rfl rfl rfl (by kernel_rfl) (by kernel_rfl) (by kernel_rfl) (fun _ _ => (V_sindexD rfl Tryd.underlying9 rfl rfl (by omega) (by first | omega | (simp; done) | (simp; omega) | (simp at *; omega)))) ?_
    refine GH_take 14 rfl rfl rfl rfl (by kernel_rfl) (by kernel_rfl) (by kernel_rfl) (fun _ _ => (Val.int (e' := (((s.getD i 0).toNat % 16) : Nat)) (V_bits .and rfl rfl rfl rfl) (and15 _ (by omega)))) ?_
    refine GH_take 15 rfl rfl rfl rfl (by kernel_rfl) (by kernel_rfl) (by kernel_rfl) (fun _ _ => (V_move rfl rfl)) ?_
    refine GH_take 16 rfl rfl rfl rfl (by kernel_rfl) (by kernel_rfl) (by kernel_rfl) (fun _ _ => (V_move rfl rfl)) ?_
    first
      | refine GH_take 17 rfl rfl rfl rfl (by kernel_rfl) (by kernel_rfl) (by kernel_rfl) (fun _ _ => (V_sindexN rfl Tryd.underlying9 rfl rfl rfl (by omega))) ?_
      | refine GH_take 17 rfl rfl rfl rfl (by kernel_rfl) (by kernel_rfl) (by kernel_rfl) (fun _ _ => (V_sindexD rfl Tryd.underlying9 rfl rfl (by omega) (by first | omega | (simp; done) | (simp; omega) | (simp at *; omega)))) ?_
    refine GH_take 18 rfl rfl rfl rfl (by kernel_rfl) (by kernel_rfl) (by kernel_rfl) (fun _ _ => (Val.int (e' := (((s.getD i 0).toNat % 16) : Nat)) (V_bits .and rfl rfl rfl rfl) (and15 _ (by omega)))) ?_
    refine GH_take 19 rfl rfl rfl rfl (by kernel_rfl) (by kernel_rfl) (by kernel_rfl) (fun _ _ => (Val.int (e' := ((((s.getD i 0).toNat % 16) + 1 : Nat) : Int)) (V_add rfl rfl rfl) (by rw [wrap_u8 (by omega)]; omega))) ?_
    refine GH_take 20 rfl rfl rfl rfl (by kernel_rfl) (by kernel_rfl) (by kernel_rfl) (fun _ _ => (V_ssliceN (lo := ((s.getD i 0).toNat % 16)) (hi := ((s.getD i 0).toNat % 16) + 1) rfl Tryd.underlying9 rfl rfl rfl rfl rfl (by omega) (by show _ ≤ 16; omega))) ?_
    refine GH_take 21 rfl rfl rfl rfl (by kernel_rfl) (by kernel_rfl) (by kernel_rfl) (fun _ _ => (V_sadd rfl rfl rfl (by first | omega | (simp; done) | (simp; omega) | (simp at *; omega)))) ?_
    refine GH_all [22] (by kernel_rfl) (by decide) ?_
    refine (And.intro ?_ trivial)
    · skip
      refine GHop_call (L2 := []) rfl rfl rfl rfl rfl rfl Tryd.call22 (bld_write _ _ _ _ _ hpx hux (by simp only [List.length_append]; rw [hex_cut (by omega), hex_cut (by omega)]; simp; omega)) [0, 0] [] rfl rfl [] (by rintro v post ⟨rfl, u1, hu1, rfl⟩; exact ⟨_, rfl⟩) ?_
      rintro v post ⟨rfl, u1, hu1, rfl⟩
      show GH _ _ _ _ _ _ _ [_, _] _
      rw [hex_cut (by omega), hex_cut (by omega), quote_app (by assumption), quoteI_next (by omega)] at hu1 ⊢
      refine GH_done (by kernel_rfl) ?_
      refine G_inBlock ?_
      refine G_region (l := [0, 1]) rfl ?_
      first
        | refine G_val rfl rfl rfl rfl ((V_add rfl rfl rfl).int (wrap_i64 (by omega))) ?_
        | refine G_val rfl rfl rfl rfl (V_add rfl rfl rfl) ?_
      refine G_val rfl rfl rfl rfl (V_move rfl rfl) ?_
      refine G_done ?_
      refine G_sub ?_ [0, 0] ?_ (ih (i + 1, .pointer (some ⟨b3, 0, none⟩), u1) ?_ ?_)
      · (refine (And.intro ?_ (And.intro ?_ (And.intro ?_ (And.intro ?_ trivial)))) <;> first | rfl | exact slot_int (by omega) | exact slot_int (by simp))
      · exact ⟨_, rfl⟩
      · exact ⟨by omega, .inr rfl, hu1⟩
      · (first | omega | (dsimp only; omega))
  refine G_exit rfl ?_
  refine G_seq ?_
  have hql := quoteI_len (s.take i)
  rw [List.take_of_length_le (by omega)] at hux hql ⊢
  refine G_region (l := [0, 1, 2, 3]) rfl ?_
  refine G_call (L2 := []) rfl rfl rfl rfl rfl rfl Tryd.call23 (bld_string _ _ _ _ hux (by omega)) [0, 0] [] rfl rfl ?_
  rintro v post ⟨rfl, u1, hu1, rfl⟩
  show G _ _ _ [_, _] _
  refine G_val rfl rfl rfl rfl (V_sadd rfl rfl rfl (by first | omega | (simp; done) | (simp; omega) | (simp at *; omega))) ?_
  refine G_val rfl rfl rfl rfl (V_sadd rfl rfl rfl (by first | omega | (simp; done) | (simp; omega) | (simp at *; omega))) ?_
  refine G_val rfl rfl rfl rfl (V_assign rfl rfl) ?_
  refine G_done ?_
  refine G_ret (post := []) Tryd.func9 rfl (RVs_cons (RV_tmp rfl) RVs_nil) [] rfl ?_
  dsimp only [packed]
  exact ⟨str_eq (quoteT_eq s), rfl⟩

set_option maxRecDepth 100000 in
set_option maxHeartbeats 1000000 in
theorem rtl_quote (s : List UInt8) (hs : s.length ≤ 2000000) :
    Ct Tryd.prog 10 [.string (bs s)] [] [] fun v post => v = .string (bs (quoteT s)) ∧ post = [] := by
 refine ct_of Tryd.func10 rfl rfl (fun w0 => ?_)
 show G _ _ [(0, _)] _ _
 refine G_seq ?_
 refine G_region (l := [0]) rfl ?_
 refine G_val rfl rfl rfl rfl (V_assign rfl rfl) ?_
 refine G_done ?_
 refine G_seq ?_
 refine G_region (l := [0]) rfl ?_
 refine G_val rfl rfl rfl rfl (V_assign rfl rfl) ?_
 refine G_done ?_
 refine G_seq ?_
 refine G_region (l := [0]) rfl ?_
 refine G_val rfl rfl rfl rfl (V_assign rfl rfl) ?_
 refine G_done ?_
 refine G_seq ?_
 refine G_seq ?_
 refine G_region (l := [0]) rfl ?_
 refine G_val rfl rfl rfl rfl (V_assign rfl rfl) ?_
 refine G_done ?_
 refine G_block ?_
 refine G_sub ?he4 [] ?hl4 (G_loop (X := Nat) (fun i => i ≤ s.length) (fun i => s.length - i) (fun i => [(0, .string (bs s)), (3, .string (bs [48, 49, 50, 51, 52, 53, 54, 55, 56, 57, 97, 98, 99, 100, 101, 102])), (4, .string (bs ([34] ++ quoteI (s.take i)))), (5, .int .i64 (i : Int))]) (fun i => []) ?round4 0 ?h04)
 case he4 => exact (And.intro rfl (And.intro rfl (And.intro rfl (And.intro rfl trivial))))
 case hl4 => exact ⟨_, rfl⟩
 case h04 => exact Nat.zero_le _
 case round4 =>
  intro i hJ ih
  try dsimp only at hJ ih
  refine G_seq ?_
  refine G_seq ?_
  refine G_region (l := [0, 1, 2, 3]) rfl ?_
  refine G_val rfl rfl rfl rfl (V_move rfl rfl) ?_
  refine G_val rfl rfl rfl rfl (V_move rfl rfl) ?_
  refine G_val rfl rfl rfl rfl (V_slen rfl rfl Tryd.underlying9 rfl) ?_
  refine G_val rfl rfl rfl rfl (V_lss rfl rfl rfl) ?_
  refine G_done ?_
  refine G_ifD rfl (fun hc1 => ?_) (fun hc1 => ?_)
  · skip
    refine G_skip ?_
    refine G_seq ?_
    refine G_block ?_
    refine G_seq ?_
    have hc8 := (s.getD i 0).toNat_lt
    have hql := quoteI_len (s.take i)
    have htl : (s.take i).length = i := by simp; omega
    refine G_region (l := [0, 1, 2, 3, 4]) rfl ?_
    refine G_val rfl rfl rfl rfl (V_move rfl rfl) ?_
    refine G_val rfl rfl rfl rfl (V_move rfl rfl) ?_
    first
      | refine G_val rfl rfl rfl rfl (V_sindexN rfl Tryd.underlying9 rfl rfl rfl (by omega)) ?_
      | refine G_val rfl rfl rfl rfl (V_sindexD rfl Tryd.underlying9 rfl rfl (by omega) (by first | omega | (simp; done) | (simp; omega) | (simp at *; omega))) ?_
    first
      | refine G_val rfl rfl rfl rfl ((V_conv rfl rfl Tryd.underlying5 Tryd.underlying3).int (wrap_i64 (by omega))) ?_
      | refine G_val rfl rfl rfl rfl (V_conv rfl rfl Tryd.underlying5 Tryd.underlying3) ?_
    refine G_val rfl rfl rfl rfl (V_assign rfl rfl) ?_
    refine G_done ?_
    refine G_seq ?_
    refine G_region (l := [0, 1, 2, 3]) rfl ?_
    refine G_val rfl rfl rfl rfl (V_move rfl rfl) ?_
    refine G_val rfl rfl rfl rfl (V_move rfl rfl) ?_
    first
      | refine G_val rfl rfl rfl rfl (V_sindexN rfl Tryd.underlying9 rfl rfl rfl (by omega)) ?_
      | refine G_val rfl rfl rfl rfl (V_sindexD rfl Tryd.underlying9 rfl rfl (by omega) (by first | omega | (simp; done) | (simp; omega) | (simp at *; omega))) ?_
    refine G_call (L2 := []) rfl rfl rfl rfl rfl rfl Tryd.call24 (rtl_bare _) [] [] rfl rfl ?_
    rintro v post ⟨rfl, rfl⟩
    refine G_done ?_
    refine G_if rfl (fun hc2 => ?_) (fun hc2 => ?_)
    · skip
      refine G_region (l := [0, 1, 2, 3, 4, 5, 6, 7]) rfl ?_
      refine G_val rfl rfl rfl rfl (V_move rfl rfl) ?_
      refine G_val rfl rfl rfl rfl (V_move rfl rfl) ?_
      refine G_val rfl rfl rfl rfl (V_move rfl rfl) ?_
      refine G_val rfl rfl rfl rfl (V_move rfl rfl) ?_
      first
        | refine G_val rfl rfl rfl rfl ((V_add rfl rfl rfl).int (wrap_i64 (by omega))) ?_
        | refine G_val rfl rfl rfl rfl (V_add rfl rfl rfl) ?_
      refine G_val rfl rfl rfl rfl (V_ssliceN (lo := i) (hi := i + 1) rfl Tryd.underlying9 rfl rfl rfl rfl rfl (by omega) (by omega)) ?_
      rw [one_cut (by omega)]
      refine G_val rfl rfl rfl rfl (V_sadd rfl rfl rfl (by first | omega | (simp; done) | (simp; omega) | (simp at *; omega))) ?_
      refine G_val rfl rfl rfl rfl (V_assign rfl rfl) ?_
      refine G_done ?_
      refine G_inBlock ?_
      refine G_region (l := [0, 1, 2]) rfl ?_
      refine G_val rfl rfl rfl rfl (V_move rfl rfl) ?_
      first
        | refine G_val rfl rfl rfl rfl ((V_add rfl rfl rfl).int (wrap_i64 (by omega))) ?_
        | refine G_val rfl rfl rfl rfl (V_add rfl rfl rfl) ?_
      refine G_val rfl rfl rfl rfl (V_assign rfl rfl) ?_
      refine G_done ?_
      refine G_sub ?_ [] ?_ (ih (i + 1) ?_ ?_)
      · (refine (And.intro rfl (And.intro rfl (And.intro (slot_str (by first | rw [← quote_yes (c := s.getD i 0) (by assumption), List.append_assoc, quoteI_next (by omega)] | rw [hex_cut (by omega), hex_cut (by omega), quote_app2 (by assumption), List.append_assoc, quoteI_next (by omega)])) (And.intro rfl trivial)))))
      · exact ⟨_, rfl⟩
      · omega
      · (first | omega | (dsimp only; omega))
    refine G_draw mixedK (by kernel_rfl) ?_
    refine GQ_val rfl rfl rfl rfl (V_move rfl rfl) ?_
    refine GQ_val rfl rfl rfl rfl (V_sadd rfl rfl rfl (by first | omega | (simp; done) | (simp; omega) | (simp at *; omega))) ?_
    refine GQ_val rfl rfl rfl rfl (V_move rfl rfl) ?_
    refine GQ_val rfl rfl rfl rfl (V_move rfl rfl) ?_
    refine GQ_val rfl rfl rfl rfl (V_quo rfl rfl rfl (by omega) (by omega) (wrap_i64 (by omega))) ?_
    refine GQ_val rfl rfl rfl rfl (V_move rfl rfl) ?_
    refine GQ_val rfl rfl rfl rfl (V_quo rfl rfl rfl (by omega) (by omega) (wrap_i64 (by omega))) ?_
    first
      | refine GQ_val rfl rfl rfl rfl ((V_add rfl rfl rfl).int (wrap_i64 (by omega))) ?_
      | refine GQ_val rfl rfl rfl rfl (V_add rfl rfl rfl) ?_
    refine GQ_val rfl rfl rfl rfl (V_ssliceN (lo := ((s.getD i 0).toNat / 16)) (hi := ((s.getD i 0).toNat / 16) + 1) rfl Tryd.underlying9 rfl rfl rfl rfl rfl (by omega) (by show _ ≤ 16; omega)) ?_
    refine GQ_val rfl rfl rfl rfl (V_sadd rfl rfl rfl (by first | omega | (simp; done) | (simp; omega) | (simp at *; omega))) ?_
    refine GQ_val rfl rfl rfl rfl (V_move rfl rfl) ?_
    refine GQ_val rfl rfl rfl rfl (V_move rfl rfl) ?_
    refine GQ_val rfl rfl rfl rfl (V_rem rfl rfl rfl (by omega) (by omega)) ?_
    refine GQ_val rfl rfl rfl rfl (V_move rfl rfl) ?_
    refine GQ_val rfl rfl rfl rfl (V_rem rfl rfl rfl (by omega) (by omega)) ?_
    first
      | refine GQ_val rfl rfl rfl rfl ((V_add rfl rfl rfl).int (wrap_i64 (by omega))) ?_
      | refine GQ_val rfl rfl rfl rfl (V_add rfl rfl rfl) ?_
    refine GQ_val rfl rfl rfl rfl (V_ssliceN (lo := ((s.getD i 0).toNat % 16)) (hi := ((s.getD i 0).toNat % 16) + 1) rfl Tryd.underlying9 rfl rfl rfl rfl rfl (by omega) (by show _ ≤ 16; omega)) ?_
    refine GQ_val rfl rfl rfl rfl (V_sadd rfl rfl rfl (by first | omega | (simp; done) | (simp; omega) | (simp at *; omega))) ?_
    refine GQ_val rfl rfl rfl rfl (V_assign rfl rfl) ?_
    refine GQ_done rfl ?_
    refine G_inBlock ?_
    refine G_region (l := [0, 1, 2]) rfl ?_
    refine G_val rfl rfl rfl rfl (V_move rfl rfl) ?_
    first
      | refine G_val rfl rfl rfl rfl ((V_add rfl rfl rfl).int (wrap_i64 (by omega))) ?_
      | refine G_val rfl rfl rfl rfl (V_add rfl rfl rfl) ?_
    refine G_val rfl rfl rfl rfl (V_assign rfl rfl) ?_
    refine G_done ?_
    refine G_sub ?_ [] ?_ (ih (i + 1) ?_ ?_)
    · (refine (And.intro rfl (And.intro rfl (And.intro (slot_str (by first | rw [← quote_yes (c := s.getD i 0) (by assumption), List.append_assoc, quoteI_next (by omega)] | rw [hex_cut (by omega), hex_cut (by omega), quote_app2 (by assumption), List.append_assoc, quoteI_next (by omega)])) (And.intro rfl trivial)))))
    · exact ⟨_, rfl⟩
    · omega
    · (first | omega | (dsimp only; omega))
  refine G_exit rfl ?_
  refine G_seq ?_
  have hql := quoteI_len (s.take i)
  rw [List.take_of_length_le (by omega)] at hql ⊢
  refine G_region (l := [0, 1, 2]) rfl ?_
  refine G_val rfl rfl rfl rfl (V_move rfl rfl) ?_
  refine G_val rfl rfl rfl rfl (V_sadd rfl rfl rfl (by first | omega | (simp; done) | (simp; omega) | (simp at *; omega))) ?_
  refine G_val rfl rfl rfl rfl (V_assign rfl rfl) ?_
  refine G_done ?_
  refine G_ret (post := []) Tryd.func10 rfl (RVs_cons (RV_tmp rfl) RVs_nil) [] rfl ?_
  dsimp only [packed]
  exact ⟨str_eq (quoteT_eq s), rfl⟩

end
end Go.Proofs.YtjnaeoelnmhjfaaDoor

/- Numbers in tens: strconv.Itoa by the shelf's contract, and the document's numbers in tens. -/
set_option linter.unusedSimpArgs false
set_option linter.unusedVariables false
namespace Go.Proofs.YtjnaeoelnmhjfaaDoor
open Go Go.Shelf Go.RowKit

section



def renN : Ren := ⟨fun x => match x with | 171 => 55 | 243 => 66 | 246 => 75 | 283 => 62 | 284 => 63 | 285 => 64 | 286 => 65 | 129 => 71 | 317 => 70 | 318 => 72 | 319 => 73 | 320 => 74 | 337 => 76 | 338 => 77 | n => n, fun x => match x with | 3 => 3 | 9 => 9 | 2 => 2 | 4 => 4 | 171 => 130 | 0 => 0 | 53 => 32 | 37 => 55 | 5 => 5 | 173 => 133 | 212 => 142 | 51 => 143 | 20 => 20 | 213 => 144 | 46 => 64 | 232 => 149 | 233 => 150 | n => n, fun x => match x with | 17 => 0 | 18 => 2 | 19 => 3 | n => n⟩
set_option maxRecDepth 100000 in
theorem laysN : LaysM.n171 Tryd.prog renN := { mixed := mixedK, f129 := by first | kernel_rfl | rfl, f171 := by first | kernel_rfl | rfl, f243 := by first | kernel_rfl | rfl, f246 := by first | kernel_rfl | rfl, f283 := by first | kernel_rfl | rfl, f284 := by first | kernel_rfl | rfl, f285 := by first | kernel_rfl | rfl, f286 := by first | kernel_rfl | rfl, f317 := by first | kernel_rfl | rfl, f318 := by first | kernel_rfl | rfl, f319 := by first | kernel_rfl | rfl, f320 := by first | kernel_rfl | rfl, f337 := by first | kernel_rfl | rfl, f338 := by first | kernel_rfl | rfl, t0 := by first | exact Tryd.underlying0 | exact fun w => rfl | kernel_rfl, a0 := by first | exact Tryd.isAgg0 | exact fun w => rfl | kernel_rfl, z0 := by first | exact Tryd.sizeOf0 | exact fun w => rfl | kernel_rfl, v0 := by first | exact Tryd.zeroValue0 | exact fun w => rfl | kernel_rfl, t2 := by first | exact Tryd.underlying2 | exact fun w => rfl | kernel_rfl, a2 := by first | exact Tryd.isAgg2 | exact fun w => rfl | kernel_rfl, z2 := by first | exact Tryd.sizeOf2 | exact fun w => rfl | kernel_rfl, v2 := by first | exact Tryd.zeroValue2 | exact fun w => rfl | kernel_rfl, t3 := by first | exact Tryd.underlying3 | exact fun w => rfl | kernel_rfl, a3 := by first | exact Tryd.isAgg3 | exact fun w => rfl | kernel_rfl, z3 := by first | exact Tryd.sizeOf3 | exact fun w => rfl | kernel_rfl, v3 := by first | exact Tryd.zeroValue3 | exact fun w => rfl | kernel_rfl, t4 := by first | exact Tryd.underlying4 | exact fun w => rfl | kernel_rfl, a4 := by first | exact Tryd.isAgg4 | exact fun w => rfl | kernel_rfl, z4 := by first | exact Tryd.sizeOf4 | exact fun w => rfl | kernel_rfl, v4 := by first | exact Tryd.zeroValue4 | exact fun w => rfl | kernel_rfl, t5 := by first | exact Tryd.underlying5 | exact fun w => rfl | kernel_rfl, a5 := by first | exact Tryd.isAgg5 | exact fun w => rfl | kernel_rfl, z5 := by first | exact Tryd.sizeOf5 | exact fun w => rfl | kernel_rfl, v5 := by first | exact Tryd.zeroValue5 | exact fun w => rfl | kernel_rfl, t9 := by first | exact Tryd.underlying9 | exact fun w => rfl | kernel_rfl, a9 := by first | exact Tryd.isAgg9 | exact fun w => rfl | kernel_rfl, z9 := by first | exact Tryd.sizeOf9 | exact fun w => rfl | kernel_rfl, v9 := by first | exact Tryd.zeroValue9 | exact fun w => rfl | kernel_rfl, t20 := by first | exact Tryd.underlying20 | exact fun w => rfl | kernel_rfl, a20 := by first | exact Tryd.isAgg20 | exact fun w => rfl | kernel_rfl, z20 := by first | exact Tryd.sizeOf20 | exact fun w => rfl | kernel_rfl, v20 := by first | exact Tryd.zeroValue20 | exact fun w => rfl | kernel_rfl, t37 := by first | exact Tryd.underlying55 | exact fun w => rfl | kernel_rfl, a37 := by first | exact Tryd.isAgg55 | exact fun w => rfl | kernel_rfl, z37 := by first | exact Tryd.sizeOf55 | exact fun w => rfl | kernel_rfl, v37 := by first | exact Tryd.zeroValue55 | exact fun w => rfl | kernel_rfl, t46 := by first | exact Tryd.underlying64 | exact fun w => rfl | kernel_rfl, a46 := by first | exact Tryd.isAgg64 | exact fun w => rfl | kernel_rfl, z46 := by first | exact Tryd.sizeOf64 | exact fun w => rfl | kernel_rfl, v46 := by first | exact Tryd.zeroValue64 | exact fun w => rfl | kernel_rfl, t51 := by first | exact Tryd.underlying143 | exact fun w => rfl | kernel_rfl, a51 := by first | exact Tryd.isAgg143 | exact fun w => rfl | kernel_rfl, z51 := by first | exact Tryd.sizeOf143 | exact fun w => rfl | kernel_rfl, v51 := by first | exact Tryd.zeroValue143 | exact fun w => rfl | kernel_rfl, t53 := by first | exact Tryd.underlying32 | exact fun w => rfl | kernel_rfl, a53 := by first | exact Tryd.isAgg32 | exact fun w => rfl | kernel_rfl, z53 := by first | exact Tryd.sizeOf32 | exact fun w => rfl | kernel_rfl, v53 := by first | exact Tryd.zeroValue32 | exact fun w => rfl | kernel_rfl, t171 := by first | exact Tryd.underlying130 | exact fun w => rfl | kernel_rfl, a171 := by first | exact Tryd.isAgg130 | exact fun w => rfl | kernel_rfl, z171 := by first | exact Tryd.sizeOf130 | exact fun w => rfl | kernel_rfl, v171 := by first | exact Tryd.zeroValue130 | exact fun w => rfl | kernel_rfl, t173 := by first | exact Tryd.underlying133 | exact fun w => rfl | kernel_rfl, a173 := by first | exact Tryd.isAgg133 | exact fun w => rfl | kernel_rfl, z173 := by first | exact Tryd.sizeOf133 | exact fun w => rfl | kernel_rfl, v173 := by first | exact Tryd.zeroValue133 | exact fun w => rfl | kernel_rfl, t212 := by first | exact Tryd.underlying142 | exact fun w => rfl | kernel_rfl, a212 := by first | exact Tryd.isAgg142 | exact fun w => rfl | kernel_rfl, z212 := by first | exact Tryd.sizeOf142 | exact fun w => rfl | kernel_rfl, v212 := by first | exact Tryd.zeroValue142 | exact fun w => rfl | kernel_rfl, t213 := by first | exact Tryd.underlying144 | exact fun w => rfl | kernel_rfl, a213 := by first | exact Tryd.isAgg144 | exact fun w => rfl | kernel_rfl, z213 := by first | exact Tryd.sizeOf144 | exact fun w => rfl | kernel_rfl, t232 := by first | exact Tryd.underlying149 | exact fun w => rfl | kernel_rfl, a232 := by first | exact Tryd.isAgg149 | exact fun w => rfl | kernel_rfl, z232 := by first | exact Tryd.sizeOf149 | exact fun w => rfl | kernel_rfl, v232 := by first | exact Tryd.zeroValue149 | exact fun w => rfl | kernel_rfl, t233 := by first | exact Tryd.underlying150 | exact fun w => rfl | kernel_rfl, a233 := by first | exact Tryd.isAgg150 | exact fun w => rfl | kernel_rfl, z233 := by first | exact Tryd.sizeOf150 | exact fun w => rfl | kernel_rfl, v233 := by first | exact Tryd.zeroValue150 | exact fun w => rfl | kernel_rfl, g17 := by first | kernel_rfl | rfl, g18 := by first | kernel_rfl | rfl, g19 := by first | kernel_rfl | rfl, i0 := by first | kernel_rfl | rfl, i2 := by first | kernel_rfl | rfl, i3 := by first | kernel_rfl | rfl, i4 := by first | kernel_rfl | rfl, i5 := by first | kernel_rfl | rfl, i9 := by first | kernel_rfl | rfl, i20 := by first | kernel_rfl | rfl, i37 := by first | kernel_rfl | rfl, i46 := by first | kernel_rfl | rfl, i51 := by first | kernel_rfl | rfl, i53 := by first | kernel_rfl | rfl, i171 := by first | kernel_rfl | rfl, i173 := by first | kernel_rfl | rfl, i212 := by first | kernel_rfl | rfl, i232 := by first | kernel_rfl | rfl, i233 := by first | kernel_rfl | rfl, m17 := by first | kernel_rfl | rfl, m18 := by first | kernel_rfl | rfl, m19 := by first | kernel_rfl | rfl }


def powC : Array Value := (Lib.pow10Tab.map fun z => Value.int .u64 z).toArray
theorem tab_of {w : World} {T : TypeId} {fr : Nat × Nat} (h : w.heap[0]? = some (.cells powC T fr)) : Lib.TabIs Tryd.prog w "internal/strconv.uint64pow10" .u64 Lib.pow10Tab := by
  unfold Lib.TabIs World.var?
  rw [show Tryd.prog.globalNamed "internal/strconv.uint64pow10" = some 0 from laysN.m17, Option.bind_some, h]
  rfl
theorem chg_grow (w : World) (k : Nat) (os : Array Obj) : Chg w [] (Sort.grow (w.drewN k) os) :=
  ⟨rfl, rfl, rfl, by rw [Sort.size_grow]; exact Nat.le_add_right _ _, fun j hj _ => by show (w.heap ++ os)[j]? = _; rw [Array.getElem?_append_left hj]⟩
theorem tl_itoa (x : Int) (h0 : -9223372036854775808 ≤ x) (h1 : x ≤ 9223372036854775807) (T : TypeId) (fr : Nat × Nat) : Ct Tryd.prog 55 [.int .i64 x] [(some 0, .cells powC T fr)] [] (fun v post => v = .string (bs (Lib.itoa x)) ∧ post = []) := fun w0 hw => by
  have h := Any.strconv_Itoa laysN x h0 h1 w0 (tab_of (T := T) (fr := fr) (hw.liesA 0 _ (List.mem_singleton.2 rfl)))
  refine Calls.mono h ?_
  rintro e w' ⟨he, k, os, hw'⟩
  refine ⟨_, [], he, ⟨rfl, rfl⟩, has_nil _, fun _ _ h => (by cases h), ?_⟩
  subst hw'
  exact chg_grow w0 k os

set_option maxRecDepth 100000 in
set_option maxHeartbeats 1000000 in
theorem tl_num (x : Int) (h0 : -9223372036854775808 ≤ x) (h1 : x ≤ 9223372036854775807) (T0 : TypeId) (r0 : Nat × Nat) :
    Ct Tryd.prog 40 [.int .i64 x] [(some 0, .cells powC T0 r0)] [] fun v post => v = .string (bs (Lib.itoa x)) ∧ post = [] := by
 refine ct_of Tryd.func40 rfl rfl (fun w0 => ?_)
 show G _ _ [(0, _)] _ _
 refine G_seq ?_
 refine G_region (l := [0]) rfl ?_
 refine G_val rfl rfl rfl rfl (V_assign rfl rfl) ?_
 refine G_done ?_
 refine G_seq ?_
 refine G_region (l := [0, 1, 2]) rfl ?_
 refine G_val rfl rfl rfl rfl (V_move rfl rfl) ?_
 refine G_call (L2 := []) rfl rfl rfl rfl rfl rfl Tryd.call55 (tl_itoa x h0 h1 T0 r0) [] [0] rfl rfl ?_
 rintro v post ⟨rfl, rfl⟩
 refine G_val rfl rfl rfl rfl (V_assign rfl rfl) ?_
 refine G_done ?_
 refine G_ret (post := []) Tryd.func40 rfl (RVs_cons (RV_tmp rfl) RVs_nil) [] rfl ?_
 dsimp only [packed]
 exact ⟨rfl, rfl⟩


def decInit (v : Nat) : List UInt8 := if v < 10 then [] else Lib.decDigits (v / 10)
theorem dec_split (v : Nat) : Lib.decDigits v = decInit v ++ [UInt8.ofNat (48 + v % 10)] := by
  unfold decInit
  by_cases h : v < 10
  · rw [if_pos h, Lib.decDigits, dif_pos h, Nat.mod_eq_of_lt h]; rfl
  · rw [if_neg h, Lib.decDigits, dif_neg h]
theorem dec_step {v : Nat} (h : 10 ≤ v) (r : List UInt8) : decInit v ++ r = decInit (v / 10) ++ ([UInt8.ofNat (48 + v / 10 % 10)] ++ r) := by
  rw [← List.append_assoc, ← dec_split]
  unfold decInit; rw [if_neg (by omega)]
theorem dec_end {v : Nat} (h : v < 10) (r : List UInt8) : decInit v ++ r = r := by unfold decInit; rw [if_pos h]; rfl
theorem dec_len : ∀ (n v : Nat), v < 10 ^ (n + 1) → (Lib.decDigits v).length ≤ n + 1
  | 0, v, h => by rw [Lib.decDigits, dif_pos (by omega)]; simp
  | n + 1, v, h => by
    by_cases h1 : v < 10
    · rw [Lib.decDigits, dif_pos h1]; simp
    · rw [Lib.decDigits, dif_neg h1, List.length_append]
      have := dec_len n (v / 10) (by rw [Nat.div_lt_iff_lt_mul (by omega)]; rw [Nat.pow_succ] at h; exact h)
      simp; omega
theorem dec_len20 {v : Nat} (h : v < 18446744073709551616) : (Lib.decDigits v).length ≤ 20 := dec_len 19 v (by omega)
theorem itoa_len {x : Int} (h0 : -9223372036854775808 ≤ x) (h1 : x ≤ 9223372036854775807) : (Lib.itoa x).length ≤ 21 := by
  unfold Lib.itoa
  split
  · have := dec_len20 (v := x.natAbs) (by omega); simp; omega
  · have := dec_len20 (v := x.toNat) (by omega); omega
theorem dig_cut {k : Nat} (h : k < 10) : (([48, 49, 50, 51, 52, 53, 54, 55, 56, 57] : List UInt8).take (k + 1)).drop k = [UInt8.ofNat (48 + k)] := by
  have key : ∀ k < 10, (([48, 49, 50, 51, 52, 53, 54, 55, 56, 57] : List UInt8).take (k + 1)).drop k = [UInt8.ofNat (48 + k)] := by decide
  exact key k h

set_option maxRecDepth 100000 in
set_option maxHeartbeats 1000000 in
theorem rt_tens (v : Nat) (hv : v < 18446744073709551616) :
    Ct Tryd.prog 42 [.int .u64 (v : Int)] [] [] fun v_ post => v_ = .string (bs (Lib.decDigits v)) ∧ post = [] := by
 have hd := dec_len20 hv
 refine ct_of Tryd.func42 rfl rfl (fun w0 => ?_)
 show G _ _ [(0, _)] _ _
 refine G_seq ?_
 refine G_region (l := [0]) rfl ?_
 refine G_val rfl rfl rfl rfl (V_assign rfl rfl) ?_
 refine G_done ?_
 refine G_seq ?_
 refine G_region (l := [0]) rfl ?_
 refine G_val rfl rfl rfl rfl (V_assign rfl rfl) ?_
 refine G_done ?_
 refine G_seq ?_
 refine G_region (l := [0, 1, 2, 3, 4, 5, 6, 7]) rfl ?_
 refine G_val rfl rfl rfl rfl (V_move rfl rfl) ?_
 refine G_val rfl rfl rfl rfl (V_move rfl rfl) ?_
 refine G_val rfl rfl rfl rfl (Val.int (e' := ((v % 10 : Nat) : Int)) (V_rem rfl rfl rfl (by omega) (by omega)) (by omega)) ?_
 refine G_val rfl rfl rfl rfl (V_move rfl rfl) ?_
 refine G_val rfl rfl rfl rfl (Val.int (e' := ((v % 10 : Nat) : Int)) (V_rem rfl rfl rfl (by omega) (by omega)) (by omega)) ?_
 first
   | refine G_val rfl rfl rfl rfl ((V_add rfl rfl rfl).int (wrap_u64 (by omega))) ?_
   | refine G_val rfl rfl rfl rfl (V_add rfl rfl rfl) ?_
 refine G_val rfl rfl rfl rfl (V_ssliceN (lo := v % 10) (hi := v % 10 + 1) rfl Tryd.underlying9 rfl rfl rfl rfl rfl (by omega) (by show _ ≤ 10; omega)) ?_
 rw [dig_cut (by omega)]
 refine G_val rfl rfl rfl rfl (V_assign rfl rfl) ?_
 refine G_done ?_
 refine G_seq ?_
 refine G_block ?_
 refine G_sub ?he3 [] ?hl3 (G_loop (X := Nat × List UInt8) (fun x => match x with | ⟨q, r⟩ => q < 18446744073709551616 ∧ Lib.decDigits v = decInit q ++ r) (fun x => match x with | ⟨q, r⟩ => q) (fun x => match x with | ⟨q, r⟩ => [(0, .int .u64 (q : Int)), (3, .string (bs [48, 49, 50, 51, 52, 53, 54, 55, 56, 57])), (4, .string (bs r))]) (fun x => match x with | ⟨q, r⟩ => []) ?round3 (v, [UInt8.ofNat (48 + v % 10)]) ?h03)
 case he3 => exact (And.intro rfl (And.intro rfl (And.intro rfl trivial)))
 case hl3 => exact ⟨_, rfl⟩
 case h03 => exact ⟨hv, dec_split v⟩
 case round3 =>
  intro x hJ ih
  try dsimp only at hJ ih
  obtain ⟨q, r⟩ := x
  try dsimp only at hJ ih
  obtain ⟨hq, hr⟩ := hJ
  show G _ _ [(0, .int .u64 (q : Int)), (3, .string (bs [48, 49, 50, 51, 52, 53, 54, 55, 56, 57])), (4, .string (bs r))] [] _
  refine G_seq ?_
  refine G_seq ?_
  refine G_region (l := [0, 1]) rfl ?_
  refine G_val rfl rfl rfl rfl (V_move rfl rfl) ?_
  refine G_val rfl rfl rfl rfl (V_geq rfl rfl rfl) ?_
  refine G_done ?_
  refine G_ifD rfl (fun hc1 => ?_) (fun hc1 => ?_)
  · skip
    refine G_skip ?_
    refine G_block ?_
    refine G_seq ?_
    refine G_region (l := [0, 1, 2]) rfl ?_
    refine G_val rfl rfl rfl rfl (V_move rfl rfl) ?_
    refine G_val rfl rfl rfl rfl (Val.int (e' := ((q / 10 : Nat) : Int)) (V_quo rfl rfl rfl (by omega) (by omega) (wrap_u64 (by omega))) (by omega)) ?_
    refine G_val rfl rfl rfl rfl (V_assign rfl rfl) ?_
    refine G_done ?_
    have hl2 : r.length ≤ 20 := by have := congrArg List.length hr; simp only [List.length_append] at this; omega
    refine G_region (l := [0, 1, 2, 3, 4, 5, 6, 7, 8, 9]) rfl ?_
    refine G_val rfl rfl rfl rfl (V_move rfl rfl) ?_
    refine G_val rfl rfl rfl rfl (V_move rfl rfl) ?_
    refine G_val rfl rfl rfl rfl (Val.int (e' := (((q / 10) % 10 : Nat) : Int)) (V_rem rfl rfl rfl (by omega) (by omega)) (by omega)) ?_
    refine G_val rfl rfl rfl rfl (V_move rfl rfl) ?_
    refine G_val rfl rfl rfl rfl (Val.int (e' := (((q / 10) % 10 : Nat) : Int)) (V_rem rfl rfl rfl (by omega) (by omega)) (by omega)) ?_
    first
      | refine G_val rfl rfl rfl rfl ((V_add rfl rfl rfl).int (wrap_u64 (by omega))) ?_
      | refine G_val rfl rfl rfl rfl (V_add rfl rfl rfl) ?_
    refine G_val rfl rfl rfl rfl (V_ssliceN (lo := (q / 10) % 10) (hi := (q / 10) % 10 + 1) rfl Tryd.underlying9 rfl rfl rfl rfl rfl (by omega) (by show _ ≤ 10; omega)) ?_
    rw [dig_cut (by omega)]
    refine G_val rfl rfl rfl rfl (V_move rfl rfl) ?_
    refine G_val rfl rfl rfl rfl (V_sadd rfl rfl rfl (by first | omega | (simp; done) | (simp; omega) | (simp at *; omega))) ?_
    refine G_val rfl rfl rfl rfl (V_assign rfl rfl) ?_
    refine G_done ?_
    refine G_inBlock ?_
    refine G_sub ?_ [] ?_ (ih (q / 10, [UInt8.ofNat (48 + q / 10 % 10)] ++ r) ?_ ?_)
    · (refine (And.intro ?_ (And.intro ?_ (And.intro ?_ trivial))) <;> first | rfl | exact slot_int (by omega) | exact slot_int (by simp))
    · exact ⟨_, rfl⟩
    · exact ⟨by omega, by rw [hr]; exact dec_step (by omega) r⟩
    · (first | omega | (dsimp only; omega))
  refine G_exit rfl ?_
  refine G_seq ?_
  refine G_region (l := [0, 1]) rfl ?_
  refine G_val rfl rfl rfl rfl (V_move rfl rfl) ?_
  refine G_val rfl rfl rfl rfl (V_assign rfl rfl) ?_
  refine G_done ?_
  refine G_ret (post := []) Tryd.func42 rfl (RVs_cons (RV_tmp rfl) RVs_nil) [] rfl ?_
  dsimp only [packed]
  rw [dec_end (by omega)] at hr; exact ⟨str_eq hr.symm, rfl⟩


theorem itoa_neg {x : Int} (h : x < 0) : Lib.itoa x = [45] ++ Lib.decDigits x.natAbs := by unfold Lib.itoa; rw [if_pos h]; rfl
theorem itoa_pos {x : Int} (h : ¬ x < 0) : Lib.itoa x = Lib.decDigits x.toNat := by unfold Lib.itoa; rw [if_neg h]

set_option maxRecDepth 100000 in
set_option maxHeartbeats 1000000 in
theorem rt_int (x : Int) (h0 : -9223372036854775808 ≤ x) (h1 : x ≤ 9223372036854775807) :
    Ct Tryd.prog 44 [.int .i64 x] [] [] fun v post => v = .string (bs (Lib.itoa x)) ∧ post = [] := by
 refine ct_of Tryd.func44 rfl rfl (fun w0 => ?_)
 show G _ _ [(0, _)] _ _
 refine G_seq ?_
 refine G_region (l := [0]) rfl ?_
 refine G_val rfl rfl rfl rfl (V_assign rfl rfl) ?_
 refine G_done ?_
 refine G_seq ?_
 refine G_seq ?_
 refine G_region (l := [0, 1]) rfl ?_
 refine G_val rfl rfl rfl rfl (V_move rfl rfl) ?_
 refine G_val rfl rfl rfl rfl (V_lss rfl rfl rfl) ?_
 refine G_done ?_
 refine G_ifD rfl (fun hc1 => ?_) (fun hc1 => ?_)
 · skip
   refine G_seq ?_
   have hd := dec_len20 (v := x.natAbs) (by omega)
   refine G_region (l := [0, 1, 2, 3, 4, 5, 6, 7]) rfl ?_
   refine G_val rfl rfl rfl rfl (V_move rfl rfl) ?_
   first
     | refine G_val rfl rfl rfl rfl ((V_add rfl rfl rfl).int (wrap_i64 (by omega))) ?_
     | refine G_val rfl rfl rfl rfl (V_add rfl rfl rfl) ?_
   first
     | refine G_val rfl rfl rfl rfl ((V_sub rfl rfl rfl).int (wrap_i64 (by omega))) ?_
     | refine G_val rfl rfl rfl rfl (V_sub rfl rfl rfl) ?_
   first
     | refine G_val rfl rfl rfl rfl ((V_conv rfl rfl Tryd.underlying3 Tryd.underlying32).int (wrap_u64 (by omega))) ?_
     | refine G_val rfl rfl rfl rfl (V_conv rfl rfl Tryd.underlying3 Tryd.underlying32) ?_
   refine G_val rfl rfl rfl rfl (Val.int (e' := (x.natAbs : Int)) (V_add rfl rfl rfl) (by rw [wrap_u64 (by omega)]; omega)) ?_
   refine G_call (L2 := []) rfl rfl rfl rfl rfl rfl Tryd.call42 (rt_tens _ (by omega)) [] [] rfl rfl ?_
   rintro v post ⟨rfl, rfl⟩
   refine G_val rfl rfl rfl rfl (V_sadd rfl rfl rfl (by first | omega | (simp; done) | (simp; omega) | (simp at *; omega))) ?_
   refine G_val rfl rfl rfl rfl (V_assign rfl rfl) ?_
   refine G_done ?_
   refine G_ret (post := []) Tryd.func44 rfl (RVs_cons (RV_tmp rfl) RVs_nil) [] rfl ?_
   dsimp only [packed]
   first | (rw [itoa_neg (by assumption)]; exact ⟨rfl, rfl⟩) | (rw [itoa_pos (by assumption)]; exact ⟨rfl, rfl⟩)
 refine G_skip ?_
 refine G_seq ?_
 refine G_region (l := [0, 1, 2, 3]) rfl ?_
 refine G_val rfl rfl rfl rfl (V_move rfl rfl) ?_
 refine G_val rfl rfl rfl rfl (Val.int (e' := (x.toNat : Int)) (V_conv rfl rfl Tryd.underlying3 Tryd.underlying32) (by rw [wrap_u64 (by omega)]; omega)) ?_
 refine G_call (L2 := []) rfl rfl rfl rfl rfl rfl Tryd.call42 (rt_tens _ (by omega)) [] [] rfl rfl ?_
 rintro v post ⟨rfl, rfl⟩
 refine G_val rfl rfl rfl rfl (V_assign rfl rfl) ?_
 refine G_done ?_
 refine G_ret (post := []) Tryd.func44 rfl (RVs_cons (RV_tmp rfl) RVs_nil) [] rfl ?_
 dsimp only [packed]
 first | (rw [itoa_neg (by assumption)]; exact ⟨rfl, rfl⟩) | (rw [itoa_pos (by assumption)]; exact ⟨rfl, rfl⟩)

end
end Go.Proofs.YtjnaeoelnmhjfaaDoor

/- Numbers in tens: strconv.FormatUint at base 10. -/
set_option linter.unusedSimpArgs false
set_option linter.unusedVariables false
namespace Go.Proofs.YtjnaeoelnmhjfaaDoor
open Go Go.Shelf Go.RowKit

section
theorem infTellU_5 : Tryd.prog.info? 5 = some Tryd.t5 := by kernel_rfl
theorem infTellU_130 : Tryd.prog.info? 130 = some Tryd.t130 := by kernel_rfl


theorem tl_small (i : Nat) (h : i < 100) : Ct Tryd.prog 62 [.int .i64 (i : Int)] [] [] (fun v post => v = .string (bs (Lib.decDigits i)) ∧ post = []) := fun w0 hw => by
  refine Calls.mono (Any.internal_strconv_small (ρ := renN) { laysN with } i h w0) ?_
  rintro e w' ⟨he, rfl⟩
  exact ⟨_, [], he, ⟨rfl, rfl⟩, has_nil _, fun _ _ h => (by cases h), Chg.refl _ _⟩
theorem tl_digits (u : Nat) (h1 : 1 ≤ u) (h2 : u < 18446744073709551616) (T : TypeId) (fr : Nat × Nat) : Ct Tryd.prog 63 [.int .u64 (u : Int)] [(some 0, .cells powC T fr)] [] (fun v post => v = .int .i64 ((Lib.nDigits u : Nat) : Int) ∧ post = []) := fun w0 hw => by
  refine Calls.mono (Any.internal_strconv_numDigits (ρ := renN) { laysN with } u h1 h2 w0 (tab_of (T := T) (fr := fr) (hw.liesA 0 _ (List.mem_singleton.2 rfl)))) ?_
  rintro e w' ⟨he, rfl⟩
  exact ⟨_, [], he, ⟨rfl, rfl⟩, has_nil _, fun _ _ h => (by cases h), Chg.refl _ _⟩
theorem cellw {w : World} {b k : Nat} {cs : Array Value} {T : TypeId} {fr : Nat × Nat} (h : w.heap[b]? = some (.cells cs T fr)) : w.cell? ⟨b, k, none⟩ = cs[k]? := cell_of_row w b k cs T fr h
theorem tl_format (b cap : Nat) (u : Nat) (hu : u < 18446744073709551616) (cs : Array Value) (T : TypeId) (hz : ∀ j, j < Lib.nDigits u → cs[j]? = some (.int .u8 0)) (hn : Lib.nDigits u ≤ 20) :
    Ct Tryd.prog 64 [.slice (some ⟨b, 0, none⟩) (Lib.nDigits u) cap, .int .u64 (u : Int)] [] [(some b, .cells cs T (0, 0))] (fun v post => v = .tuple #[] ∧ ∃ cs1 : Array Value, cs1.size = cs.size ∧ (cs1.toList.take (Lib.nDigits u)) = bcells (Lib.decDigits u) ∧ post = [(some b, .cells cs1 T (0, 0))]) := fun w0 hw => by
  have hb := hw.lies b _ (List.mem_singleton.2 rfl)
  have hH : Sort.Holds (fun (c : UInt8) => Value.int .u8 (c.toNat : Int)) w0 b 0 (Array.replicate (Lib.nDigits u) 0) := fun j hj => by
    rw [Array.size_replicate] at hj
    refine ⟨?_, ?_⟩
    · rw [cellw hb, Nat.zero_add, hz j hj]; simp [hj]
    · unfold World.frozen?; simp [hb]
  have h := Any.internal_strconv_formatBase10 (ρ := renN) { laysN with } b 0 cap u (Array.replicate (Lib.nDigits u) 0) w0 hH (by rw [Array.size_replicate]; exact Lib.lt_pow_nDigits u) hu (by rw [Array.size_replicate]; omega)
  rw [Array.size_replicate] at h
  refine Calls.mono h ?_
  rintro e w' ⟨he, k, v', dk, rfl, hF⟩
  have hsz : dk.size = Lib.nDigits u := hF.size
  have hlt : b < w0.heap.size := by
    rcases Nat.lt_or_ge b w0.heap.size with h | h
    · exact h
    · rw [Array.getElem?_eq_none h] at hb; cases hb
  have hb' : ((Sort.putRow (fun (c : UInt8) => Value.int .u8 (c.toNat : Int)) w0 b 0 dk).drewN k).heap[b]? = some (.cells (Sort.putCells (fun (c : UInt8) => Value.int .u8 (c.toNat : Int)) 0 dk cs) T (0, 0)) := by
    show (w0.heap.modify b _)[b]? = _
    rw [Array.getElem?_modify, if_pos rfl, hb]; rfl
  refine ⟨_, [(some b, .cells (Sort.putCells (fun (c : UInt8) => Value.int .u8 (c.toNat : Int)) 0 dk cs) T (0, 0))], he, ⟨rfl, _, ?_, ?_, rfl⟩, ?_, ?_, ?_⟩
  · simp [Sort.putCells]
  · have hdl := Lib.decDigits_length u
    apply List.ext_getElem?
    intro j
    rw [List.getElem?_take]
    rcases Nat.lt_or_ge j (Lib.nDigits u) with hj | hj
    · rw [if_pos hj, Array.getElem?_toList, Sort.putCells, Array.getElem?_mapIdx, hz j hj, Option.map_some, if_pos ⟨Nat.zero_le _, by omega⟩, Nat.sub_zero, ← Lib.row_is_numeral hF j (by omega)]
      unfold bcells
      rw [List.getElem?_map, List.getElem?_eq_getElem (by omega)]; rfl
    · rw [if_neg (by omega), List.getElem?_eq_none (by unfold bcells; rw [List.length_map]; omega)]
  · exact ⟨fun _ _ h => (by cases h), List.pairwise_singleton _ _, fun b' o' hm => by cases List.mem_singleton.1 hm; exact hb', fun _ h => by cases h⟩
  · intro b' o' hm; cases List.mem_singleton.1 hm; exact .inl (by simp [hkeys])
  · refine ⟨rfl, rfl, rfl, ?_, ?_⟩
    · show _ ≤ (w0.heap.modify b _).size; rw [Array.size_modify]; exact Nat.le_refl _
    · intro j hj hjn
      show (w0.heap.modify b _)[j]? = _
      rw [Array.getElem?_modify, if_neg (by intro hbj; subst hbj; exact hjn (by simp [hkeys]))]


theorem nd_20 {u : Nat} (h : u < 18446744073709551616) : Lib.nDigits u ≤ 20 := by rw [← Lib.decDigits_length]; exact dec_len20 h
theorem take_drop0 {l : List Value} {n : Nat} {x : List Value} (h : l.take n = x) : (l.drop 0).take n = x := by rw [List.drop_zero]; exact h
theorem dd_len (u : Nat) : (Lib.decDigits u).length = Lib.nDigits u := Lib.decDigits_length u

set_option maxRecDepth 100000 in
set_option maxHeartbeats 1000000 in
theorem tl_ufmt (u : Nat) (hu : u < 18446744073709551616) (T0 : TypeId) (r0 : Nat × Nat) :
    Ct Tryd.prog 54 [.int .u64 (u : Int), .int .i64 10] [(some 0, .cells powC T0 r0)] [] fun v post => v = .string (bs (Lib.decDigits u)) ∧ post = [] := by
 have hnd := nd_20 hu
 have hdl := dd_len u
 refine ct_of Tryd.func54 rfl rfl (fun w0 => ?_)
 show G _ _ [(0, _), (1, _)] _ _
 refine G_seq ?_
 refine G_region (l := [0]) rfl ?_
 refine G_val rfl rfl rfl rfl (V_assign rfl rfl) ?_
 refine G_done ?_
 refine G_seq ?_
 refine G_seq ?_
 refine G_region (l := [0, 1]) rfl ?_
 refine G_val rfl rfl rfl rfl (V_move rfl rfl) ?_
 refine G_val rfl rfl rfl rfl (V_eql rfl rfl rfl) ?_
 refine G_done ?_
 refine G_ifD rfl (fun hc1 => ?_) (fun hc1 => ?_)
 rotate_left
 · (first | (exact absurd rfl hc1) | (exfalso; omega) | (exfalso; simp at hc1; done))
 refine G_seq ?_
 refine G_seq ?_
 refine G_region (l := [0, 1]) rfl ?_
 refine G_val rfl rfl rfl rfl (V_move rfl rfl) ?_
 refine G_val rfl rfl rfl rfl (V_lss rfl rfl rfl) ?_
 refine G_done ?_
 refine G_ifD rfl (fun hc2 => ?_) (fun hc2 => ?_)
 · skip
   refine G_seq ?_
   refine G_region (l := [0, 1, 2, 3]) rfl ?_
   refine G_val rfl rfl rfl rfl (V_move rfl rfl) ?_
   first
     | refine G_val rfl rfl rfl rfl ((V_conv rfl rfl Tryd.underlying32 Tryd.underlying3).int (wrap_i64 (by omega))) ?_
     | refine G_val rfl rfl rfl rfl (V_conv rfl rfl Tryd.underlying32 Tryd.underlying3) ?_
   refine G_call (L2 := []) rfl rfl rfl rfl rfl rfl Tryd.call62 (tl_small u (by omega)) [] [] rfl rfl ?_
   rintro v post ⟨rfl, rfl⟩
   refine G_val rfl rfl rfl rfl (V_assign rfl rfl) ?_
   refine G_done ?_
   refine G_ret (post := []) Tryd.func54 rfl (RVs_cons (RV_tmp rfl) RVs_nil) [] rfl ?_
   dsimp only [packed]
   exact ⟨rfl, rfl⟩
 refine G_skip ?_
 refine G_seq ?_
 refine G_region (l := [0]) rfl ?_
 refine G_new rfl rfl rfl rfl (N_allocA rfl infTellU_130 rfl) (fun b5 => ?_)
 refine G_done ?_
 refine G_seq ?_
 refine G_region (l := [0, 1, 2]) rfl ?_
 refine G_val rfl rfl rfl rfl (V_move rfl rfl) ?_
 refine G_call (L2 := [_]) rfl rfl rfl rfl rfl rfl Tryd.call63 (tl_digits u (by omega) hu T0 r0) [] [0] rfl rfl ?_
 rintro v post ⟨rfl, rfl⟩
 show G _ _ _ [_] _
 refine G_val rfl rfl rfl rfl (V_assign rfl rfl) ?_
 refine G_done ?_
 refine G_seq ?_
 refine G_region (l := [0, 1, 2, 3]) rfl ?_
 refine G_val rfl rfl rfl rfl (V_move rfl rfl) ?_
 refine G_val rfl rfl rfl rfl (V_asliceH (h := _) rfl Tryd.underlying130 infTellU_5 rfl rfl rfl (by first | omega | (simp; done) | (simp; omega) | (simp at *; omega))) ?_
 refine G_val rfl rfl rfl rfl (V_move rfl rfl) ?_
 refine G_call (L2 := []) rfl rfl rfl rfl rfl rfl Tryd.call64 (tl_format b5 24 u hu _ _ (by intro j hj; rcases j with _ | _ | _ | _ | _ | _ | _ | _ | _ | _ | _ | _ | _ | _ | _ | _ | _ | _ | _ | _ | j <;> first | rfl | omega) hnd) [0] [] rfl rfl ?_
 rintro v post ⟨rfl, cs1, hs1, ht1, rfl⟩
 show G _ _ _ [_] _
 refine G_done ?_
 refine G_seq ?_
 refine G_region (l := [0, 1, 2, 3]) rfl ?_
 refine G_val rfl rfl rfl rfl (V_move rfl rfl) ?_
 refine G_val rfl rfl rfl rfl (V_asliceH (h := _) rfl Tryd.underlying130 infTellU_5 rfl rfl rfl (by first | omega | (simp; done) | (simp; omega) | (simp at *; omega))) ?_
 refine G_val rfl rfl rfl rfl (V_bytesS (l := (Lib.decDigits u)) rfl rfl Tryd.underlying55 Tryd.underlying5 Tryd.underlying9 (mem_at 1 rfl) hdl (take_drop0 ht1)) ?_
 refine G_val rfl rfl rfl rfl (V_assign rfl rfl) ?_
 refine G_done ?_
 refine G_ret (post := []) Tryd.func54 rfl (RVs_cons (RV_tmp rfl) RVs_nil) [] rfl ?_
 dsimp only [packed]
 exact ⟨rfl, rfl⟩

set_option maxRecDepth 100000 in
set_option maxHeartbeats 1000000 in
theorem tl_uint (u : Nat) (hu : u < 18446744073709551616) (T0 : TypeId) (r0 : Nat × Nat) :
    Ct Tryd.prog 38 [.int .u64 (u : Int), .int .i64 10] [(some 0, .cells powC T0 r0)] [] fun v post => v = .string (bs (Lib.decDigits u)) ∧ post = [] := by
 refine ct_of Tryd.func38 rfl rfl (fun w0 => ?_)
 show G _ _ [(0, _), (1, _)] _ _
 refine G_seq ?_
 refine G_region (l := [0]) rfl ?_
 refine G_val rfl rfl rfl rfl (V_assign rfl rfl) ?_
 refine G_done ?_
 refine G_seq ?_
 refine G_region (l := [0, 1, 2, 3]) rfl ?_
 refine G_val rfl rfl rfl rfl (V_move rfl rfl) ?_
 refine G_val rfl rfl rfl rfl (V_move rfl rfl) ?_
 refine G_call (L2 := []) rfl rfl rfl rfl rfl rfl Tryd.call54 (tl_ufmt u hu T0 r0) [] [0] rfl rfl ?_
 rintro v post ⟨rfl, rfl⟩
 refine G_val rfl rfl rfl rfl (V_assign rfl rfl) ?_
 refine G_done ?_
 refine G_ret (post := []) Tryd.func38 rfl (RVs_cons (RV_tmp rfl) RVs_nil) [] rfl ?_
 dsimp only [packed]
 exact ⟨rfl, rfl⟩

end
end Go.Proofs.YtjnaeoelnmhjfaaDoor

/- The kinds of requests (layer 19), their words and their fields' letters, as plain tables. No program in sight. -/
namespace Go.Proofs.YtjnaeoelnmhjfaaDoor
open Go Go.RowKit

theorem ret_num {k : IntKind} {a b : Int} (h : a = b) : Ending.returned (.int k a) = .returned (.int k b) := by rw [h]
theorem ret_truth {a b : Bool} (h : a = b) : Ending.returned (.bool a) = .returned (.bool b) := by rw [h]
/-- The words, and the letters of the fields, of all kinds. -/
def formTab : List (List UInt8 × List UInt8) := [([], []), ([111, 112, 101, 110], [116, 105, 119]), ([99, 108, 111, 115, 101], [116, 105]), ([115, 117, 98, 109, 105, 116], [116, 105, 107, 99, 112, 120, 100]), ([119, 97, 105, 116], [110, 116, 111]), ([99, 97, 110, 99, 101, 108], [116, 111]), ([115, 116, 97, 116, 117, 115], [116, 111]), ([114, 101, 103, 105, 115, 116, 101, 114], [110, 112, 108]), ([98, 101, 97, 116], [110]), ([112, 111, 108, 108], [110]), ([114, 101, 112, 111, 114, 116], [110, 111, 101, 114, 98]), ([108, 101, 97, 118, 101], [110]), ([112, 97, 117, 115, 101], [110, 98]), ([100, 114, 97, 105, 110], []), ([100, 114, 97, 105, 110, 101, 100], []), ([108, 101, 116, 116, 101, 114, 115], [102, 109]), ([112, 117, 114, 103, 101], [111]), ([115, 116, 97, 116, 115], [])]
def wordOf (k : Nat) : List UInt8 := (formTab.getD k ([], [])).1
def fieldsOf (k : Nat) : List UInt8 := (formTab.getD k ([], [])).2
/-- Is there a kind? -/
def isKind (k : Int) : Bool := decide (1 ≤ k ∧ k ≤ 17)
def wordK (k : Int) : List UInt8 := if 1 ≤ k ∧ k ≤ 17 then wordOf k.toNat else []
def fieldsK (k : Int) : List UInt8 := if 1 ≤ k ∧ k ≤ 17 then fieldsOf k.toNat else []
theorem wordK_yes (k : Nat) (h1 : 1 ≤ k) (h2 : k ≤ 17) : wordK (k : Int) = wordOf k := by
  unfold wordK; rw [if_pos (by omega), Int.toNat_natCast]
theorem wordK_no (k : Int) (h : ¬ (1 ≤ k ∧ k ≤ 17)) : wordK k = [] := if_neg h
theorem fieldsK_yes (k : Nat) (h1 : 1 ≤ k) (h2 : k ≤ 17) : fieldsK (k : Int) = fieldsOf k := by
  unfold fieldsK; rw [if_pos (by omega), Int.toNat_natCast]
theorem fieldsK_no (k : Int) (h : ¬ (1 ≤ k ∧ k ≤ 17)) : fieldsK k = [] := if_neg h

/-- The row that the program lays of them. -/
def formArr : Array Value := (formTab.flatMap fun x => [.string (bs x.1), .string (bs x.2)]).toArray
theorem formArr_at : ∀ k, k < 18 → formArr[k * 2]? = some (.string (bs (wordOf k))) ∧ formArr[k * 2 + 1]? = some (.string (bs (fieldsOf k))) := by
  intro k hk
  match k, hk with
  | 0, _ => exact ⟨rfl, rfl⟩
  | 1, _ => exact ⟨rfl, rfl⟩
  | 2, _ => exact ⟨rfl, rfl⟩
  | 3, _ => exact ⟨rfl, rfl⟩
  | 4, _ => exact ⟨rfl, rfl⟩
  | 5, _ => exact ⟨rfl, rfl⟩
  | 6, _ => exact ⟨rfl, rfl⟩
  | 7, _ => exact ⟨rfl, rfl⟩
  | 8, _ => exact ⟨rfl, rfl⟩
  | 9, _ => exact ⟨rfl, rfl⟩
  | 10, _ => exact ⟨rfl, rfl⟩
  | 11, _ => exact ⟨rfl, rfl⟩
  | 12, _ => exact ⟨rfl, rfl⟩
  | 13, _ => exact ⟨rfl, rfl⟩
  | 14, _ => exact ⟨rfl, rfl⟩
  | 15, _ => exact ⟨rfl, rfl⟩
  | 16, _ => exact ⟨rfl, rfl⟩
  | 17, _ => exact ⟨rfl, rfl⟩
  | _ + 18, h => exact absurd h (by omega)

/-- The row that the reference lays of the words. -/
def wordArr : Array Value := ((formTab.drop 1).map fun x => .string (bs x.1)).toArray
theorem wordArr_at : ∀ k, k < 17 → wordArr[k]? = some (.string (bs (wordOf (k + 1)))) := by
  intro k hk
  match k, hk with
  | 0, _ => rfl
  | 1, _ => rfl
  | 2, _ => rfl
  | 3, _ => rfl
  | 4, _ => rfl
  | 5, _ => rfl
  | 6, _ => rfl
  | 7, _ => rfl
  | 8, _ => rfl
  | 9, _ => rfl
  | 10, _ => rfl
  | 11, _ => rfl
  | 12, _ => rfl
  | 13, _ => rfl
  | 14, _ => rfl
  | 15, _ => rfl
  | 16, _ => rfl
  | _ + 17, h => exact absurd h (by omega)
/-- The kinds that change nothing. -/
def asks (k : Int) : Bool := decide (k = 6 ∨ k = 14 ∨ k = 15 ∨ k = 17)

/-- The place of a text's, a number's letter in a request. -/
def textIdx (c : Int) : Option Nat := if c = 116 then some 1 else if c = 105 then some 2 else if c = 110 then some 3 else if c = 107 then some 4 else if c = 99 then some 5 else if c = 112 then some 6 else none
def numIdx (c : Int) : Option Nat := if c = 111 then some 7 else if c = 101 then some 8 else if c = 119 then some 9 else if c = 120 then some 10 else if c = 108 then some 11 else if c = 114 then some 12 else if c = 100 then some 13 else if c = 102 then some 14 else if c = 109 then some 15 else none
/-- A place in a block, or none. -/
def ptrAt (b : Nat) (i : Option Nat) : Value := .pointer (i.map fun i => ⟨b, i, none⟩)

/-- The kind of a word; 0: it is none's. -/
def kindOf (s : List UInt8) : Nat := ((List.range 17).find? (fun i => wordOf (i + 1) == s)).elim 0 (· + 1)
theorem kindOf_is (s : List UInt8) (k : Nat) (h1 : 1 ≤ k) (h2 : k ≤ 17) (hk : wordOf k = s) (hno : ∀ j, 1 ≤ j → j < k → wordOf j ≠ s) : kindOf s = k := by
  have h : (List.range 17).find? (fun i => wordOf (i + 1) == s) = some (k - 1) := by
    rw [List.find?_range_eq_some]
    refine ⟨by simp [show k - 1 + 1 = k by omega, hk], by simp; omega, fun j hj => ?_⟩
    simpa using hno (j + 1) (by omega) (by omega)
  rw [kindOf, h]
  simp; omega
theorem kindOf_none (s : List UInt8) (hno : ∀ j, 1 ≤ j → j ≤ 17 → wordOf j ≠ s) : kindOf s = 0 := by
  have h : (List.range 17).find? (fun i => wordOf (i + 1) == s) = none := by
    rw [List.find?_eq_none]
    intro j hj
    simpa using hno (j + 1) (by omega) (by have := List.mem_range.1 hj; omega)
  rw [kindOf, h]; rfl
theorem bs_beq (a b : List UInt8) : ((bs a).toList == (bs b).toList) = (a == b) := by
  rw [ByteArray.toList_eq, ByteArray.toList_eq, bs_data, bs_data]

end Go.Proofs.YtjnaeoelnmhjfaaDoor

/- What is left of a request (layer 19): the cells of a request, and of the clean one. No program in sight. -/
namespace Go.Proofs.YtjnaeoelnmhjfaaDoor
open Go Go.RowKit

/-- A request. -/
structure Rq where
  kind : Int
  tx : Nat → List UInt8
  nx : Nat → Int
  flag : Bool
/-- Its cells: the texts lie at 1 to 6, the numbers at 7 to 15. -/
def rqCells (q : Rq) : List Value :=
  [.int .i64 q.kind, .string (bs (q.tx 1)), .string (bs (q.tx 2)), .string (bs (q.tx 3)), .string (bs (q.tx 4)), .string (bs (q.tx 5)), .string (bs (q.tx 6)),
   .int .i64 (q.nx 7), .int .i64 (q.nx 8), .int .i64 (q.nx 9), .int .i64 (q.nx 10), .int .i64 (q.nx 11), .int .i64 (q.nx 12), .int .i64 (q.nx 13), .int .i64 (q.nx 14), .int .i64 (q.nx 15), .bool q.flag]
/-- The request of a kind, with nothing in it. -/
def rqBare (k : Int) : Rq := ⟨k, fun _ => [], fun _ => 0, false⟩
/-- A letter's field is taken over. -/
def rqTake (q out : Rq) (c : UInt8) : Rq :=
  match textIdx (c.toNat : Int) with
  | some i => { out with tx := fun j => if j = i then q.tx i else out.tx j }
  | none => match numIdx (c.toNat : Int) with
    | some i => { out with nx := fun j => if j = i then q.nx i else out.nx j }
    | none => { out with flag := q.flag }
def rqClean (q : Rq) : Rq := (fieldsK q.kind).foldl (rqTake q) (rqBare q.kind)

theorem textIdx_bd (c : Int) (i : Nat) (h : textIdx c = some i) : 1 ≤ i ∧ i ≤ 6 := by
  unfold textIdx at h
  repeat' split at h
  all_goals simp at h
  all_goals omega
theorem numIdx_bd (c : Int) (i : Nat) (h : numIdx c = some i) : 7 ≤ i ∧ i ≤ 15 := by
  unfold numIdx at h
  repeat' split at h
  all_goals simp at h
  all_goals omega
theorem textIdx_num (c : Int) (i : Nat) (h : textIdx c = some i) : numIdx c = none := by
  unfold textIdx at h
  repeat' split at h
  all_goals first | (simp at h; done) | (subst_vars; rfl)
theorem rqTake_text (q o : Rq) (c : UInt8) (i : Nat) (h : textIdx (c.toNat : Int) = some i) : rqTake q o c = { o with tx := fun j => if j = i then q.tx i else o.tx j } := by
  unfold rqTake; rw [h]
theorem rqTake_num (q o : Rq) (c : UInt8) (i : Nat) (h0 : textIdx (c.toNat : Int) = none) (h : numIdx (c.toNat : Int) = some i) : rqTake q o c = { o with nx := fun j => if j = i then q.nx i else o.nx j } := by
  unfold rqTake; rw [h0, h]
theorem rqTake_flag (q o : Rq) (c : UInt8) (h0 : textIdx (c.toNat : Int) = none) (h : numIdx (c.toNat : Int) = none) : rqTake q o c = { o with flag := q.flag } := by
  unfold rqTake; rw [h0, h]
theorem rqCells_text (q : Rq) (i : Nat) (h1 : 1 ≤ i) (h2 : i ≤ 6) : (rqCells q).toArray[i]? = some (.string (bs (q.tx i))) := by
  match i, h1, h2 with
  | 1, _, _ => rfl
  | 2, _, _ => rfl
  | 3, _, _ => rfl
  | 4, _, _ => rfl
  | 5, _, _ => rfl
  | 6, _, _ => rfl
theorem rqCells_num (q : Rq) (i : Nat) (h1 : 7 ≤ i) (h2 : i ≤ 15) : (rqCells q).toArray[i]? = some (.int .i64 (q.nx i)) := by
  match i, h1, h2 with
  | 7, _, _ => rfl
  | 8, _, _ => rfl
  | 9, _, _ => rfl
  | 10, _, _ => rfl
  | 11, _, _ => rfl
  | 12, _, _ => rfl
  | 13, _, _ => rfl
  | 14, _, _ => rfl
  | 15, _, _ => rfl
theorem rqCells_flag (q : Rq) : (rqCells q).toArray[16]? = some (.bool q.flag) := rfl
theorem rqCells_setText (q : Rq) (i : Nat) (h1 : 1 ≤ i) (h2 : i ≤ 6) (l : List UInt8) : (rqCells q).toArray.setIfInBounds i (.string (bs l)) = (rqCells { q with tx := fun j => if j = i then l else q.tx j }).toArray := by
  match i, h1, h2 with
  | 1, _, _ => rfl
  | 2, _, _ => rfl
  | 3, _, _ => rfl
  | 4, _, _ => rfl
  | 5, _, _ => rfl
  | 6, _, _ => rfl
theorem rqCells_setNum (q : Rq) (i : Nat) (h1 : 7 ≤ i) (h2 : i ≤ 15) (n : Int) : (rqCells q).toArray.setIfInBounds i (.int .i64 n) = (rqCells { q with nx := fun j => if j = i then n else q.nx j }).toArray := by
  match i, h1, h2 with
  | 7, _, _ => rfl
  | 8, _, _ => rfl
  | 9, _, _ => rfl
  | 10, _, _ => rfl
  | 11, _, _ => rfl
  | 12, _, _ => rfl
  | 13, _, _ => rfl
  | 14, _, _ => rfl
  | 15, _, _ => rfl
theorem rqCells_setFlag (q : Rq) (b : Bool) : (rqCells q).toArray.setIfInBounds 16 (.bool b) = (rqCells { q with flag := b }).toArray := rfl
/-- The letters are below 128. -/
theorem fieldsOf_small : ∀ k, k < 18 → ∀ j, j < (fieldsOf k).length → ((fieldsOf k).getD j 0).toNat < 128 := by decide
theorem fieldsK_small (k : Int) (j : Nat) (h : j < (fieldsK k).length) : ((fieldsK k)[j]).toNat < 128 := by
  by_cases hk : 1 ≤ k ∧ k ≤ 17
  · obtain ⟨n, rfl⟩ := Int.eq_ofNat_of_zero_le (show 0 ≤ k by omega)
    have e := fieldsK_yes n (by omega) (by omega)
    have := fieldsOf_small n (by omega) j (by rw [← e]; exact h)
    simp only [e]
    rw [List.getD_eq_getElem?_getD, List.getElem?_eq_getElem (by rw [← e]; exact h)] at this
    simpa using this
  · simp [fieldsK_no k hk] at h
theorem fieldsK_len (k : Int) : (fieldsK k).length ≤ 7 := by
  by_cases hk : 1 ≤ k ∧ k ≤ 17
  · obtain ⟨n, rfl⟩ := Int.eq_ofNat_of_zero_le (show 0 ≤ k by omega)
    rw [fieldsK_yes n (by omega) (by omega)]
    have : ∀ k, k < 18 → (fieldsOf k).length ≤ 7 := by decide
    exact this n (by omega)
  · rw [fieldsK_no k hk]; simp

end Go.Proofs.YtjnaeoelnmhjfaaDoor

/- Requests (layer 19), as plain functions: the clean one field by field, which may be; a request's literals. No program in sight. -/
set_option linter.unusedSimpArgs false
set_option linter.unusedVariables false
namespace Go.Proofs.YtjnaeoelnmhjfaaDoor
open Go Go.RowKit

def hasI (k : Int) (c : Int) : Bool := (fieldsK k).any fun x => decide ((x.toNat : Int) = c)
def letT (i : Nat) : Int := if i = 1 then 116 else if i = 2 then 105 else if i = 3 then 110 else if i = 4 then 107 else if i = 5 then 99 else 112
def letN (i : Nat) : Int := if i = 7 then 111 else if i = 8 then 101 else if i = 9 then 119 else if i = 10 then 120 else if i = 11 then 108 else if i = 12 then 114 else if i = 13 then 100 else if i = 14 then 102 else 109
def selT (b : Bool) (s : List UInt8) : List UInt8 := if b then s else []
def selN (b : Bool) (n : Int) : Int := if b then n else 0
def selB (a b : Bool) : Bool := if a then b else false
def refRq (q : Rq) : Rq := ⟨q.kind, fun i => selT (hasI q.kind (letT i)) (q.tx i), fun i => selN (hasI q.kind (letN i)) (q.nx i), selB q.flag (hasI q.kind 98)⟩

theorem kinds17 (k : Int) (h : 1 ≤ k ∧ k ≤ 17) : k = 1 ∨ k = 2 ∨ k = 3 ∨ k = 4 ∨ k = 5 ∨ k = 6 ∨ k = 7 ∨ k = 8 ∨ k = 9 ∨ k = 10 ∨ k = 11 ∨ k = 12 ∨ k = 13 ∨ k = 14 ∨ k = 15 ∨ k = 16 ∨ k = 17 := by omega
theorem refRq_cells (q : Rq) : rqCells (rqClean q) = rqCells (refRq q) := by
  obtain ⟨k, tx, nx, fl⟩ := q
  by_cases h : 1 ≤ k ∧ k ≤ 17
  · rcases fl <;> rcases kinds17 k h with rfl | rfl | rfl | rfl | rfl | rfl | rfl | rfl | rfl | rfl | rfl | rfl | rfl | rfl | rfl | rfl | rfl <;> rfl
  · have h0 := fieldsK_no k h
    have h1 : rqClean ⟨k, tx, nx, fl⟩ = rqBare k := by rw [rqClean, h0]; rfl
    rw [h1]
    cases fl <;> simp [rqCells, rqBare, refRq, hasI, h0, selT, selN, selB]
/-- Cleaned twice is cleaned once. -/
theorem refRq_twice (q : Rq) : refRq (refRq q) = refRq q := by
  unfold refRq
  simp only [Rq.mk.injEq, true_and]
  refine ⟨?_, ?_, ?_⟩
  · funext i; cases hasI q.kind (letT i) <;> rfl
  · funext i; cases hasI q.kind (letN i) <;> rfl
  · cases q.flag <;> cases hasI q.kind 98 <;> rfl
theorem rqClean_kind (q : Rq) : (rqClean q).kind = q.kind := by
  have := congrArg (fun l => l.head?) (refRq_cells q)
  simp [rqCells, refRq] at this
  exact this

/-- May a letter's field be? -/
def okL (q : Rq) (c : UInt8) : Bool := match textIdx (c.toNat : Int) with
  | some i => decide ((q.tx i).length ≤ 100)
  | none => match numIdx (c.toNat : Int) with
    | some i => decide (0 ≤ q.nx i ∧ q.nx i ≤ 1099511627776)
    | none => true
def mayQ (q : Rq) : Bool := if isKind q.kind = true ∧ (fieldsK q.kind).all (okL q) = true then true else false
def texts6 (q : Rq) : List (List UInt8) := [q.tx 1, q.tx 2, q.tx 3, q.tx 4, q.tx 5, q.tx 6]
def nums9 (q : Rq) : List Int := [q.nx 7, q.nx 8, q.nx 9, q.nx 10, q.nx 11, q.nx 12, q.nx 13, q.nx 14, q.nx 15]
def rmayQ (q : Rq) : Bool := if (texts6 (refRq q)).all (fun s => decide (s.length ≤ 100)) = true ∧ (nums9 (refRq q)).all (fun n => decide (0 ≤ n ∧ n ≤ 1099511627776)) = true ∧ isKind q.kind = true then true else false
theorem mayQ_r (q : Rq) : mayQ q = rmayQ q := by
  obtain ⟨k, tx, nx, fl⟩ := q
  unfold mayQ rmayQ
  by_cases h : 1 ≤ k ∧ k ≤ 17
  · have hk : isKind k = true := by unfold isKind; simp [h]
    have iff : ∀ {p r : Prop} [Decidable p] [Decidable r], (p ↔ r) → (if p then true else false) = (if r then true else false) := fun hpr => by simp [hpr]
    apply iff
    simp only [hk, true_and, and_true]
    rcases kinds17 k h with rfl | rfl | rfl | rfl | rfl | rfl | rfl | rfl | rfl | rfl | rfl | rfl | rfl | rfl | rfl | rfl | rfl <;>
      simp [fieldsK, fieldsOf, formTab, texts6, nums9, refRq, okL, textIdx, numIdx, hasI, letT, letN, selT, selN] <;> grind
  · have hk : isKind k = false := by unfold isKind; simp; omega
    simp [hk]
/-- What a clean request may be, the request may. -/
theorem rmayQ_ref (q : Rq) : rmayQ (refRq q) = rmayQ q := by
  unfold rmayQ
  rw [refRq_twice]
  rfl

-- literals
def rqLits (q : Rq) : List Lit :=
  [.int .i64 q.kind, .string (q.tx 1), .string (q.tx 2), .string (q.tx 3), .string (q.tx 4), .string (q.tx 5), .string (q.tx 6),
   .int .i64 (q.nx 7), .int .i64 (q.nx 8), .int .i64 (q.nx 9), .int .i64 (q.nx 10), .int .i64 (q.nx 11), .int .i64 (q.nx 12), .int .i64 (q.nx 13), .int .i64 (q.nx 14), .int .i64 (q.nx 15), .bool q.flag]
theorem rqLits_cells {q p : Rq} (h : rqCells q = rqCells p) : rqLits q = rqLits p := by
  simp only [rqCells, List.cons.injEq, Value.int.injEq, Value.string.injEq, Value.bool.injEq, true_and, and_true] at h
  have hb : ∀ {a b : List UInt8}, bs a = bs b → a = b := fun h => by
    have := congrArg (fun s => s.data.toList) h
    simpa [bs] using this
  obtain ⟨h0, h1, h2, h3, h4, h5, h6, h7⟩ := h
  simp only [rqLits, List.cons.injEq, Lit.int.injEq, Lit.string.injEq, Lit.bool.injEq, true_and, and_true]
  exact ⟨h0, hb h1, hb h2, hb h3, hb h4, hb h5, hb h6, h7⟩
/-- A request as it can be read. -/
def RqOk (q : Rq) : Prop := (-9223372036854775808 ≤ q.kind ∧ q.kind ≤ 9223372036854775807) ∧ (∀ i, (q.tx i).length ≤ 9223372036854775807) ∧ ∀ i, -9223372036854775808 ≤ q.nx i ∧ q.nx i ≤ 9223372036854775807
theorem refRq_ok {q : Rq} (h : RqOk q) : RqOk (refRq q) := by
  obtain ⟨h1, h2, h3⟩ := h
  refine ⟨h1, fun i => ?_, fun i => ?_⟩
  · show (selT _ _).length ≤ _
    unfold selT
    split
    · exact h2 i
    · simp
  · show _ ≤ selN _ _ ∧ selN _ _ ≤ _
    unfold selN
    split
    · exact h3 i
    · omega
theorem fieldsK_ascii (k : Int) (j : Nat) (h : j < (fieldsK k).length) : ((fieldsK k).getD j 0).toNat < 128 := by
  have := fieldsK_small k j h
  rw [List.getD_eq_getElem?_getD, List.getElem?_eq_getElem h]
  simpa using this
end Go.Proofs.YtjnaeoelnmhjfaaDoor

/- The walks of layer 19: requests, and their fields. -/
set_option linter.unusedSimpArgs false
set_option linter.unusedVariables false
namespace Go.Proofs.YtjnaeoelnmhjfaaDoor
open Go Go.RowKit

section
theorem infMsgW_105 : Tryd.prog.info? 105 = some Tryd.t105 := by kernel_rfl
theorem plcMsgW_105 : placesOf Tryd.prog (Tryd.prog.fieldsOf 105) = some [(0, 1), (1, 1)] := by kernel_rfl


theorem may_no1 {q : Rq} (h : (!isKind q.kind) = true) : mayQ q = false := by
  unfold mayQ; simp at h; simp [h]
theorem may_no2 {q : Rq} {k : Nat} (hk : k < (fieldsK q.kind).length) (h : okL q ((fieldsK q.kind).getD k 0) = false) : mayQ q = false := by
  unfold mayQ
  rw [if_neg]
  rintro ⟨_, h2⟩
  rw [List.all_eq_true] at h2
  have := h2 ((fieldsK q.kind).getD k 0) (by rw [List.getD_eq_getElem?_getD, List.getElem?_eq_getElem hk]; simp)
  rw [h] at this
  cases this
theorem may_yes {q : Rq} {k : Nat} (h : (!isKind q.kind) = false) (hk : (fieldsK q.kind).length ≤ k) (ha : ((fieldsK q.kind).take k).all (okL q) = true) : mayQ q = true := by
  unfold mayQ
  rw [List.take_of_length_le hk] at ha
  simp at h
  rw [if_pos ⟨h, ha⟩]
theorem may_next {q : Rq} {k : Nat} (hk : k < (fieldsK q.kind).length) (ha : ((fieldsK q.kind).take k).all (okL q) = true) (h : okL q ((fieldsK q.kind).getD k 0) = true) : ((fieldsK q.kind).take (k + 1)).all (okL q) = true := by
  rw [List.take_succ_eq_append_getElem hk, List.all_append, ha]
  rw [List.getD_eq_getElem?_getD, List.getElem?_eq_getElem hk] at h
  simpa using h
theorem okL_text {q : Rq} {c : UInt8} {i : Nat} (h : textIdx (c.toNat : Int) = some i) : okL q c = decide ((q.tx i).length ≤ 100) := by unfold okL; rw [h]
theorem okL_num {q : Rq} {c : UInt8} {i : Nat} (h0 : textIdx (c.toNat : Int) = none) (h : numIdx (c.toNat : Int) = some i) : okL q c = decide (0 ≤ q.nx i ∧ q.nx i ≤ 1099511627776) := by unfold okL; rw [h0, h]
theorem okL_flag {q : Rq} {c : UInt8} (h0 : textIdx (c.toNat : Int) = none) (h : numIdx (c.toNat : Int) = none) : okL q c = true := by unfold okL; rw [h0, h]
theorem fold_next (q : Rq) (k : Nat) (hk : k < (fieldsK q.kind).length) : ((fieldsK q.kind).take (k + 1)).foldl (rqTake q) (rqBare q.kind) = rqTake q (((fieldsK q.kind).take k).foldl (rqTake q) (rqBare q.kind)) ((fieldsK q.kind).getD k 0) := by
  rw [List.take_succ_eq_append_getElem hk, List.foldl_append]
  rw [List.getD_eq_getElem?_getD, List.getElem?_eq_getElem hk]
  rfl
def rqAt (q : Rq) (k : Nat) : Rq := ((fieldsK q.kind).take k).foldl (rqTake q) (rqBare q.kind)
theorem rqAt_text (q : Rq) (k i : Nat) (hk : k < (fieldsK q.kind).length) (h : textIdx (((fieldsK q.kind).getD k 0).toNat : Int) = some i) : (rqCells (rqAt q k)).toArray.setIfInBounds i (.string (bs (q.tx i))) = (rqCells (rqAt q (k + 1))).toArray := by
  have hb := textIdx_bd _ _ h
  rw [rqCells_setText _ i hb.1 hb.2]
  unfold rqAt
  rw [fold_next q k hk, rqTake_text _ _ _ i h]
theorem rqAt_num (q : Rq) (k i : Nat) (hk : k < (fieldsK q.kind).length) (h0 : textIdx (((fieldsK q.kind).getD k 0).toNat : Int) = none) (h : numIdx (((fieldsK q.kind).getD k 0).toNat : Int) = some i) : (rqCells (rqAt q k)).toArray.setIfInBounds i (.int .i64 (q.nx i)) = (rqCells (rqAt q (k + 1))).toArray := by
  have hb := numIdx_bd _ _ h
  rw [rqCells_setNum _ i hb.1 hb.2]
  unfold rqAt
  rw [fold_next q k hk, rqTake_num _ _ _ i h0 h]
theorem rqAt_flag (q : Rq) (k : Nat) (hk : k < (fieldsK q.kind).length) (h0 : textIdx (((fieldsK q.kind).getD k 0).toNat : Int) = none) (h : numIdx (((fieldsK q.kind).getD k 0).toNat : Int) = none) : (rqCells (rqAt q k)).toArray.setIfInBounds 16 (.bool q.flag) = (rqCells (rqAt q (k + 1))).toArray := by
  rw [rqCells_setFlag]
  unfold rqAt
  rw [fold_next q k hk, rqTake_flag _ _ _ h0 h]
theorem rqAt_end (q : Rq) (k : Nat) (hk : (fieldsK q.kind).length ≤ k) : rqAt q k = rqClean q := by
  unfold rqAt rqClean
  rw [List.take_of_length_le hk]

set_option maxRecDepth 100000 in
set_option maxHeartbeats 1000000 in
theorem msg_is (k : Int) :
    Ct Tryd.prog 59 [.int .i64 k] [] [] fun v post => v = .bool (isKind k) ∧ post = [] := by
 refine ct_of Tryd.func59 rfl rfl (fun w0 => ?_)
 show G _ _ [(0, _)] _ _
 refine G_seq ?_
 refine G_region (l := [0]) rfl ?_
 refine G_val rfl rfl rfl rfl (V_assign rfl rfl) ?_
 refine G_done ?_
 refine G_seq ?_
 refine G_region (l := [0, 1, 2, 3, 4, 5, 6]) rfl ?_
 refine G_val rfl rfl rfl rfl (V_move rfl rfl) ?_
 refine G_val rfl rfl rfl rfl (V_geq rfl rfl rfl) ?_
 refine G_val rfl rfl rfl rfl (V_move rfl rfl) ?_
 refine G_splitD 5 rfl (fun hc1 => ?_) (fun hc1 => ?_)
 · skip
   refine G_val rfl rfl rfl rfl (V_move rfl rfl) ?_
   refine G_val rfl rfl rfl rfl (V_leq rfl rfl rfl) ?_
   refine G_val rfl rfl rfl rfl (V_pickT rfl rfl rfl) ?_
   refine G_val rfl rfl rfl rfl (V_assign rfl rfl) ?_
   refine G_done ?_
   refine G_ret (post := []) Tryd.func59 rfl (RVs_cons (RV_tmp rfl) RVs_nil) [] rfl ?_
   dsimp only [packed]
   refine ⟨bool_eq ?_, rfl⟩; unfold isKind; first | (symm; simp; omega) | (simp; omega)
 refine G_off rfl rfl rfl rfl ?_
 refine G_off rfl rfl rfl rfl ?_
 refine G_val rfl rfl rfl rfl (V_pickF rfl rfl rfl) ?_
 refine G_val rfl rfl rfl rfl (V_assign rfl rfl) ?_
 refine G_done ?_
 refine G_ret (post := []) Tryd.func59 rfl (RVs_cons (RV_tmp rfl) RVs_nil) [] rfl ?_
 dsimp only [packed]
 refine ⟨bool_eq ?_, rfl⟩; unfold isKind; first | (symm; simp; omega) | (simp; omega)

set_option maxRecDepth 100000 in
set_option maxHeartbeats 1000000 in
theorem msg_forms  :
    Ct Tryd.prog 60 [] [] [] fun v post => ∃ b, v = .slice (some ⟨b, 0, none⟩) 18 18 ∧ post = [(some b, .cells formArr 105 (0, 0))] := by
 refine ct_of Tryd.func60 rfl rfl (fun w0 => ?_)
 show G _ _ [] _ _
 refine G_seq ?_
 refine G_region (l := [0]) rfl ?_
 refine G_val rfl rfl rfl rfl (V_assign rfl rfl) ?_
 refine G_done ?_
 refine G_seq ?_
 refine G_region (l := [0, 1, 2, 3, 4, 5, 6, 7, 8, 9, 10, 11, 12, 13, 14, 15, 16, 17, 18, 19]) rfl ?_
 refine G_val rfl rfl rfl rfl (V_buildS (cs := [_, _]) rfl Tryd.underlying105 infMsgW_105 rfl plcMsgW_105 rfl rfl rfl) ?_
 refine G_val rfl rfl rfl rfl (V_buildS (cs := [_, _]) rfl Tryd.underlying105 infMsgW_105 rfl plcMsgW_105 rfl rfl rfl) ?_
 refine G_val rfl rfl rfl rfl (V_buildS (cs := [_, _]) rfl Tryd.underlying105 infMsgW_105 rfl plcMsgW_105 rfl rfl rfl) ?_
 refine G_val rfl rfl rfl rfl (V_buildS (cs := [_, _]) rfl Tryd.underlying105 infMsgW_105 rfl plcMsgW_105 rfl rfl rfl) ?_
 refine G_val rfl rfl rfl rfl (V_buildS (cs := [_, _]) rfl Tryd.underlying105 infMsgW_105 rfl plcMsgW_105 rfl rfl rfl) ?_
 refine G_val rfl rfl rfl rfl (V_buildS (cs := [_, _]) rfl Tryd.underlying105 infMsgW_105 rfl plcMsgW_105 rfl rfl rfl) ?_
 refine G_val rfl rfl rfl rfl (V_buildS (cs := [_, _]) rfl Tryd.underlying105 infMsgW_105 rfl plcMsgW_105 rfl rfl rfl) ?_
 refine G_val rfl rfl rfl rfl (V_buildS (cs := [_, _]) rfl Tryd.underlying105 infMsgW_105 rfl plcMsgW_105 rfl rfl rfl) ?_
 refine G_val rfl rfl rfl rfl (V_buildS (cs := [_, _]) rfl Tryd.underlying105 infMsgW_105 rfl plcMsgW_105 rfl rfl rfl) ?_
 refine G_val rfl rfl rfl rfl (V_buildS (cs := [_, _]) rfl Tryd.underlying105 infMsgW_105 rfl plcMsgW_105 rfl rfl rfl) ?_
 refine G_val rfl rfl rfl rfl (V_buildS (cs := [_, _]) rfl Tryd.underlying105 infMsgW_105 rfl plcMsgW_105 rfl rfl rfl) ?_
 refine G_val rfl rfl rfl rfl (V_buildS (cs := [_, _]) rfl Tryd.underlying105 infMsgW_105 rfl plcMsgW_105 rfl rfl rfl) ?_
 refine G_val rfl rfl rfl rfl (V_buildS (cs := [_, _]) rfl Tryd.underlying105 infMsgW_105 rfl plcMsgW_105 rfl rfl rfl) ?_
 refine G_val rfl rfl rfl rfl (V_buildS (cs := [_, _]) rfl Tryd.underlying105 infMsgW_105 rfl plcMsgW_105 rfl rfl rfl) ?_
 refine G_val rfl rfl rfl rfl (V_buildS (cs := [_, _]) rfl Tryd.underlying105 infMsgW_105 rfl plcMsgW_105 rfl rfl rfl) ?_
 refine G_val rfl rfl rfl rfl (V_buildS (cs := [_, _]) rfl Tryd.underlying105 infMsgW_105 rfl plcMsgW_105 rfl rfl rfl) ?_
 refine G_val rfl rfl rfl rfl (V_buildS (cs := [_, _]) rfl Tryd.underlying105 infMsgW_105 rfl plcMsgW_105 rfl rfl rfl) ?_
 refine G_val rfl rfl rfl rfl (V_buildS (cs := [_, _]) rfl Tryd.underlying105 infMsgW_105 rfl plcMsgW_105 rfl rfl rfl) ?_
 refine G_new rfl rfl rfl rfl (N_buildAll (s := 2) (cs := [_, _, _, _, _, _, _, _, _, _, _, _, _, _, _, _, _, _, _, _, _, _, _, _, _, _, _, _, _, _, _, _, _, _, _, _]) rfl Tryd.underlying128 infMsgW_105 rfl rfl rfl rfl rfl rfl rfl rfl rfl) (fun b19 => ?_)
 refine G_val rfl rfl rfl rfl (V_assign rfl rfl) ?_
 refine G_done ?_
 refine G_ret (post := [_]) Tryd.func60 rfl (RVs_cons (RV_tmp rfl) RVs_nil) [0] rfl ?_
 dsimp only [packed]
 exact ⟨_, rfl, rfl⟩


theorem formArr_ext : ∀ m, m < 18 → formArr.extract (0 + m * 2) (0 + m * 2 + 2) = #[.string (bs (wordOf m)), .string (bs (fieldsOf m))] := by
  intro m hm
  match m, hm with
  | 0, _ => rfl
  | 1, _ => rfl
  | 2, _ => rfl
  | 3, _ => rfl
  | 4, _ => rfl
  | 5, _ => rfl
  | 6, _ => rfl
  | 7, _ => rfl
  | 8, _ => rfl
  | 9, _ => rfl
  | 10, _ => rfl
  | 11, _ => rfl
  | 12, _ => rfl
  | 13, _ => rfl
  | 14, _ => rfl
  | 15, _ => rfl
  | 16, _ => rfl
  | 17, _ => rfl
  | _ + 18, h => exact absurd h (by omega)
def formV (k : Int) : Value := .agg #[.string (bs (wordK k)), .string (bs (fieldsK k))]
theorem formV_no {k : Int} (h : (!isKind k) = true) : formV k = .agg #[.string (bs []), .string (bs [])] := by
  have h : ¬ (1 ≤ k ∧ k ≤ 17) := by
    intro hk
    unfold isKind at h
    simp [hk] at h
  unfold formV
  rw [wordK_no k h, fieldsK_no k h]
theorem formV_yes {m : Nat} (h1 : 1 ≤ m) (h2 : m ≤ 17) : formV (m : Int) = .agg #[.string (bs (wordOf m)), .string (bs (fieldsOf m))] := by
  unfold formV
  rw [wordK_yes m h1 h2, fieldsK_yes m h1 h2]

set_option maxRecDepth 100000 in
set_option maxHeartbeats 1000000 in
theorem msg_of (k : Int) :
    Ct Tryd.prog 50 [.int .i64 k] [] [] fun v post => v = formV k ∧ post = [] := by
 refine ct_of Tryd.func50 rfl rfl (fun w0 => ?_)
 show G _ _ [(0, _)] _ _
 refine G_seq ?_
 refine G_region (l := [0]) rfl ?_
 refine G_new rfl rfl rfl rfl (N_allocA rfl infMsgW_105 rfl) (fun b2 => ?_)
 refine G_done ?_
 refine G_seq ?_
 refine G_seq ?_
 refine G_region (l := [0, 1, 2]) rfl ?_
 refine G_val rfl rfl rfl rfl (V_move rfl rfl) ?_
 refine G_call (L2 := [_]) rfl rfl rfl rfl rfl rfl Tryd.call59 (msg_is _) [] [] rfl rfl ?_
 rintro v post ⟨rfl, rfl⟩
 show G _ _ _ [_] _
 refine G_val rfl rfl rfl rfl (V_not rfl rfl) ?_
 refine G_done ?_
 refine G_if rfl (fun hc1 => ?_) (fun hc1 => ?_)
 · skip
   refine G_seq ?_
   refine G_region (l := [0, 1]) rfl ?_
   refine G_val rfl rfl rfl rfl (V_buildS (cs := [_, _]) rfl Tryd.underlying105 infMsgW_105 rfl plcMsgW_105 rfl rfl rfl) ?_
   refine G_put (l1 := []) (L' := [_]) rfl rfl rfl rfl (P_storeA (s := 2) rfl rfl rfl (mem_at 0 rfl) (by first | rfl | (simp [bcells_length, rqCells]; done) | (simp [bcells_length, rqCells]; omega) | (simp [bcells_length, *, rqCells]; done)) infMsgW_105 rfl (by first | rfl | (simp [bcells_length, rqCells]; done) | (simp [bcells_length, rqCells]; omega) | (simp [bcells_length, *, rqCells]; done)) (by first | rfl | exact bcells_all _ | (simp [Value.oneCell', rqCells]; done) | (simp [Value.oneCell', *, rqCells]; done))) rfl ?_
   refine G_done ?_
   refine G_ret (post := []) Tryd.func50 rfl (RVs_cons (RV_cell (s := 2) rfl (mem_at 0 rfl) Tryd.underlying105 rfl infMsgW_105 rfl (by first | rfl | (simp [bcells_length, rqCells]; done) | (simp [bcells_length, rqCells]; omega) | (simp [bcells_length, *, rqCells]; done))) RVs_nil) [] rfl ?_
   dsimp only [packed]
   first | exact ⟨(formV_no (by assumption)).symm, rfl⟩ | exact ⟨(formV_yes (by omega) (by omega)).symm, rfl⟩
 refine G_skip ?_
 refine G_seq ?_
 have hkk : 1 ≤ k ∧ k ≤ 17 := by
   have h := hc1
   unfold isKind at h
   simp at h
   omega
 obtain ⟨m, rfl⟩ := Int.eq_ofNat_of_zero_le (show 0 ≤ k by omega)
 refine G_region (l := [0, 1, 2, 3, 4]) rfl ?_
 refine G_call (L2 := [_]) rfl rfl rfl rfl rfl rfl Tryd.call60 (msg_forms) [] [] rfl rfl ?_
 rintro v post ⟨bf, rfl, rfl⟩
 show G _ _ _ [_, _] _
 refine G_val rfl rfl rfl rfl (V_move rfl rfl) ?_
 first
   | refine G_val rfl rfl rfl rfl (V_indexAddrN (s := 2) rfl Tryd.underlying128 infMsgW_105 rfl rfl rfl rfl (by omega)) ?_
   | refine G_val rfl rfl rfl rfl (V_indexAddr (s := 2) rfl Tryd.underlying128 infMsgW_105 rfl rfl rfl (by omega) (by first | omega | (simp [rqCells]; done) | (simp [rqCells]; omega) | (simp [rqCells] at *; omega))) ?_
 refine G_val rfl rfl rfl rfl (V_loadA (s := 2) (vs := #[.string (bs (wordOf m)), .string (bs (fieldsOf m))]) rfl rfl (mem_at 0 rfl) Tryd.underlying105 rfl infMsgW_105 rfl (formArr_ext m (by omega)) rfl) ?_
 refine G_put (l1 := [_]) (L' := [_, _]) rfl rfl rfl rfl (P_storeA (s := 2) rfl rfl rfl (mem_at 1 rfl) (by first | rfl | (simp [bcells_length, rqCells]; done) | (simp [bcells_length, rqCells]; omega) | (simp [bcells_length, *, rqCells]; done)) infMsgW_105 rfl (by first | rfl | (simp [bcells_length, rqCells]; done) | (simp [bcells_length, rqCells]; omega) | (simp [bcells_length, *, rqCells]; done)) (by first | rfl | exact bcells_all _ | (simp [Value.oneCell', rqCells]; done) | (simp [Value.oneCell', *, rqCells]; done))) rfl ?_
 refine G_done ?_
 refine G_ret (post := []) Tryd.func50 rfl (RVs_cons (RV_cell (s := 2) rfl (mem_at 1 rfl) Tryd.underlying105 rfl infMsgW_105 rfl (by first | rfl | (simp [bcells_length, rqCells]; done) | (simp [bcells_length, rqCells]; omega) | (simp [bcells_length, *, rqCells]; done))) RVs_nil) [] rfl ?_
 dsimp only [packed]
 first | exact ⟨(formV_no (by assumption)).symm, rfl⟩ | exact ⟨(formV_yes (by omega) (by omega)).symm, rfl⟩

set_option maxRecDepth 100000 in
set_option maxHeartbeats 1000000 in
theorem msg_fields (k : Int) :
    Ct Tryd.prog 26 [.int .i64 k] [] [] fun v post => v = .string (bs (fieldsK k)) ∧ post = [] := by
 refine ct_of Tryd.func26 rfl rfl (fun w0 => ?_)
 show G _ _ [(0, _)] _ _
 refine G_seq ?_
 refine G_region (l := [0]) rfl ?_
 refine G_val rfl rfl rfl rfl (V_assign rfl rfl) ?_
 refine G_done ?_
 refine G_seq ?_
 refine G_region (l := [0, 1, 2, 3]) rfl ?_
 refine G_val rfl rfl rfl rfl (V_move rfl rfl) ?_
 refine G_call (L2 := []) rfl rfl rfl rfl rfl rfl Tryd.call50 (msg_of _) [] [] rfl rfl ?_
 rintro v post ⟨rfl, rfl⟩
 refine G_val rfl rfl rfl rfl (V_field1 rfl Tryd.underlying105 rfl Tryd.underlying9 rfl rfl rfl) ?_
 refine G_val rfl rfl rfl rfl (V_assign rfl rfl) ?_
 refine G_done ?_
 refine G_ret (post := []) Tryd.func26 rfl (RVs_cons (RV_tmp rfl) RVs_nil) [] rfl ?_
 dsimp only [packed]
 exact ⟨rfl, rfl⟩

set_option maxRecDepth 100000 in
set_option maxHeartbeats 1000000 in
theorem msg_word (k : Int) :
    Ct Tryd.prog 25 [.int .i64 k] [] [] fun v post => v = .string (bs (wordK k)) ∧ post = [] := by
 refine ct_of Tryd.func25 rfl rfl (fun w0 => ?_)
 show G _ _ [(0, _)] _ _
 refine G_seq ?_
 refine G_region (l := [0]) rfl ?_
 refine G_val rfl rfl rfl rfl (V_assign rfl rfl) ?_
 refine G_done ?_
 refine G_seq ?_
 refine G_region (l := [0, 1, 2, 3]) rfl ?_
 refine G_val rfl rfl rfl rfl (V_move rfl rfl) ?_
 refine G_call (L2 := []) rfl rfl rfl rfl rfl rfl Tryd.call50 (msg_of _) [] [] rfl rfl ?_
 rintro v post ⟨rfl, rfl⟩
 refine G_val rfl rfl rfl rfl (V_field1 rfl Tryd.underlying105 rfl Tryd.underlying9 rfl rfl rfl) ?_
 refine G_val rfl rfl rfl rfl (V_assign rfl rfl) ?_
 refine G_done ?_
 refine G_ret (post := []) Tryd.func25 rfl (RVs_cons (RV_tmp rfl) RVs_nil) [] rfl ?_
 dsimp only [packed]
 exact ⟨rfl, rfl⟩


theorem letter3 (c : Int) : (∃ i, textIdx c = some i ∧ numIdx c = none ∧ 1 ≤ i ∧ i ≤ 6) ∨ (∃ i, textIdx c = none ∧ numIdx c = some i ∧ 7 ≤ i ∧ i ≤ 15) ∨ (textIdx c = none ∧ numIdx c = none) := by
  rcases htx : textIdx c with _ | i
  · rcases hnx : numIdx c with _ | i
    · exact .inr (.inr ⟨rfl, rfl⟩)
    · have hb := numIdx_bd _ _ hnx
      exact .inr (.inl ⟨i, rfl, rfl, hb.1, hb.2⟩)
  · have hb := textIdx_bd _ _ htx
    exact .inl ⟨i, rfl, textIdx_num _ _ htx, hb.1, hb.2⟩

end
end Go.Proofs.YtjnaeoelnmhjfaaDoor
