/- Structs and slices that are built out of parts. No program in sight. -/
import Derived.Test.YtkekkalgebgokaaDoorG6
set_option linter.unusedSimpArgs false
set_option linter.unusedVariables false
namespace Go.Proofs.YtkekkalgebgokaaDoor
open Go Go.RowKit

/-- Cells with others laid over them, from a place on. -/
def ovl : List Value → Nat → List Value → List Value
  | zs, _, [] => zs
  | zs, off, v :: vs => ovl (zs.set off v) (off + 1) vs
def ovls : List Value → List (Nat × List Value) → List Value
  | zs, [] => zs
  | zs, (off, vs) :: r => ovls (ovl zs off vs) r
theorem ovl_length : ∀ (vs zs : List Value) (off : Nat), (ovl zs off vs).length = zs.length
  | [], _, _ => rfl
  | v :: vs, zs, off => by simp [ovl, ovl_length vs]
theorem fold_ovl (off : Nat) : ∀ (vs : List Value) (j : Nat) (zs : Array Value), (vs.zipIdx j).foldl (fun a (p : Value × Nat) => a.setIfInBounds (off + p.2) p.1) zs = (ovl zs.toList (off + j) vs).toArray
  | [], _, zs => by simp [ovl]
  | v :: vs, j, zs => by
    simp only [List.zipIdx_cons, List.foldl_cons]
    rw [fold_ovl off vs (j + 1)]
    simp [ovl, Nat.add_assoc]
/-- What a build lays where. -/
def fillOf (pl : List (Nat × Nat)) (n : Nat) : List (Nat × Value) → Option (List (Nat × List Value))
  | [] => some []
  | (i, v) :: r => match pl[i]? with
    | none => none
    | some (off, size) => match Nat.beq v.cells.size size && Nat.ble (off + v.cells.size) n with
      | false => none
      | true => match fillOf pl n r with
        | none => none
        | some l => some ((off, v.cells.toList) :: l)
theorem fill_of (pl : List (Nat × Nat)) (n : Nat) : ∀ (parts : List (Nat × Value)) (zs : Array Value) (ol : List (Nat × List Value)), zs.size = n → fillOf pl n parts = some ol →
    Instr.fill (fun i => pl.toArray[i]?) zs parts = some (ovls zs.toList ol).toArray
  | [], zs, ol, _, h => by
    simp only [fillOf, Option.some.injEq] at h
    subst h
    simp [Instr.fill, ovls]
  | (i, v) :: r, zs, ol, hn, h => by
    simp only [fillOf] at h
    split at h
    · cases h
    · rename_i off size hp
      split at h
      · cases h
      · rename_i hb
        split at h
        · cases h
        · rename_i l hl
          simp only [Option.some.injEq] at h
          subst h
          rw [Bool.and_eq_true] at hb
          have h1 := Nat.eq_of_beq_eq_true hb.1
          have h2 := Nat.le_of_ble_eq_true hb.2
          have hp' : pl.toArray[i]? = some (off, size) := by simpa using hp
          simp only [Instr.fill, hp']
          rw [if_neg (by simp [h1, hn]; omega)]
          have e : v.cells.zipIdx.foldl (fun cs (x : Value × Nat) => cs.setIfInBounds (off + x.2) x.1) zs = (ovl zs.toList off v.cells.toList).toArray := by
            rw [← Array.foldl_toList, Array.toList_zipIdx]
            exact fold_ovl off v.cells.toList 0 zs
          have ih := fill_of pl n r (ovl zs.toList off v.cells.toList).toArray l (by simp [ovl_length]; simpa using hn) hl
          simp only [ovls]
          rw [← ih]
          exact congrArg (fun z => Instr.fill (fun i => pl.toArray[i]?) z r) e

def placesOf (P : Program) (fs : Array Field) : Option (List (Nat × Nat)) := fs.toList.mapM (fun f => (P.info? f.type).map fun i => (f.offset, i.size))

section
variable {c : Cx} {n : Nat} {env : List (Nat × Value)} {L : List (Option Nat × Obj)} {k : List Item} {o : Oper}
theorem V_buildS {t : TypeId} {parts : Array (Nat × Operand)} {vs cs : List Value} {fs : Array Field} {ti : TypeInfo} {zs : List Value} {pl : List (Nat × Nat)} {ol : List (Nat × List Value)} (hop : o.op = .build t parts) (hu : c.P.underlying t = some (.struct fs)) (hi : c.P.info? t = some ti) (hz : ti.zero = some (.agg zs.toArray)) (hpl : placesOf c.P fs = some pl)
    (hx : fevs env (parts.toList.map (·.2)) = some vs) (hol : fillOf pl zs.length ((parts.toList.map (·.1)).zip vs) = some ol) (hcs : ovls zs ol = cs) : Val c n env L o (.agg cs.toArray) := by
  subst hcs
  refine V_build hop hx ?_
  unfold Program.built
  simp only [hi, hu, hz]
  unfold placesOf at hpl
  simp only [hpl, Value.cells]
  have := fill_of pl zs.length ((parts.toList.map (·.1)).zip vs) zs.toArray ol (by simp) hol
  simpa using this
/-- A slice built out of parts. -/
theorem N_buildSlice {t e len s : Nat} {parts : Array (Nat × Operand)} {vs cs : List Value} {ti : TypeInfo} {zs : List Value} {z : Value} {ol : List (Nat × List Value)} (hop : o.op = .buildSlice t len parts) (hu : c.P.underlying t = some (.slice e)) (hi : c.P.info? e = some ti) (hsz : ti.size = s) (hz : ti.zero = some z) (hzs : ((Array.range (len * s)).map (z.cells[· % z.cells.size]!)).toList = zs) (hl : Nat.ble (len * s) 16777216 = true) (hpos : Nat.beq (len * s) 0 = false)
    (hx : fevs env (parts.toList.map (·.2)) = some vs) (hol : fillOf ((List.range len).map fun i => (i * s, s)) zs.length ((parts.toList.map (·.1)).zip vs) = some ol) (hcs : ovls zs ol = cs) :
    New c n env L o (fun b => .slice (some ⟨b, 0, none⟩) len len) (.cells cs.toArray e (0, 0)) := fun a w hk _ => by
  subst hcs hsz
  have hl' : ¬ 16777216 < len * ti.size := by simpa using hl
  have hp' : ¬ len * ti.size = 0 := fun e => by rw [e] at hpos; simp at hpos
  have h1 := hk.evals hx
  have h2 : (parts.map fun (i, x) => (i, a.eval x)).toList = (parts.toList.map (·.1)).zip vs := by
    rw [← h1]
    simp only [Array.toList_map, List.map_map]
    generalize parts.toList = ps
    induction ps with
    | nil => rfl
    | cons p ps ih => simp [ih]
  have h3 := fill_of ((List.range len).map fun i => (i * ti.size, ti.size)) zs.length ((parts.toList.map (·.1)).zip vs) zs.toArray ol (by simp) hol
  have hplace : ∀ i, i < len → ((List.range len).map fun i => (i * ti.size, ti.size)).toArray[i]? = some (i * ti.size, ti.size) := fun i hi => by simp [hi]
  have fillEq : ∀ (ps : List (Nat × Value)) (zz : Array Value) r, Instr.fill (fun i => ((List.range len).map fun i => (i * ti.size, ti.size)).toArray[i]?) zz ps = some r → Instr.fill (fun i => some (i * ti.size, ti.size)) zz ps = some r := by
    intro ps
    induction ps with
    | nil => exact fun zz r h => h
    | cons p ps ih =>
      obtain ⟨i, v⟩ := p
      intro zz r h
      simp only [Instr.fill] at h ⊢
      by_cases hi : i < len
      · rw [hplace i hi] at h
        simp only at h
        split at h
        · cases h
        · rename_i hc
          rw [if_neg hc]
          exact ih _ _ h
      · have : ((List.range len).map fun i => (i * ti.size, ti.size)).toArray[i]? = none := by simp; omega
        rw [this] at h
        cases h
  have h4 := fillEq _ _ _ h3
  have hzs' : (Array.range (len * ti.size)).map (fun x => z.cells[x % z.cells.size]!) = zs.toArray := by
    apply Array.toList_inj.1
    simpa using hzs
  simp only [execOp, hop]
  simp [Instr.buildSlice, run_underlying hu, sizeOf, typeInfo, hi, hl', hp', zeroValue, hz, hzs']
  rw [Array.toList_map] at h2
  rw [h2]
  simp [h4, newRow]
/-- The cells of values, one behind the other. -/
def flat : List Value → List Value
  | [] => []
  | v :: vs => v.cells.toList ++ flat vs
def sized (s : Nat) : List Value → Bool
  | [] => true
  | v :: vs => Nat.beq v.cells.size s && sized s vs
theorem ovl_mid : ∀ (vs pre zs : List Value), vs.length ≤ zs.length → ovl (pre ++ zs) pre.length vs = pre ++ vs ++ zs.drop vs.length
  | [], pre, zs, _ => by simp [ovl]
  | v :: vs, pre, [], h => by simp at h
  | v :: vs, pre, z :: zs, h => by
    have ih := ovl_mid vs (pre ++ [v]) zs (by simpa using h)
    simp only [ovl]
    rw [List.set_append_right _ _ (Nat.le_refl _), Nat.sub_self, List.set_cons_zero]
    simp only [List.length_append, List.length_cons, List.length_nil, Nat.zero_add, List.append_assoc, List.singleton_append] at ih
    rw [ih]
    simp
theorem zip_range_succ (i : Nat) (v : Value) (vs : List Value) (m : Nat) : (List.range' i (m + 1)).zip (v :: vs) = (i, v) :: (List.range' (i + 1) m).zip vs := by
  simp [List.range'_succ]
theorem fill_all (len s : Nat) : ∀ (vs pre zs : List Value) (i : Nat), sized s vs = true → i + vs.length = len → pre.length = i * s → zs.length = vs.length * s → ∃ ol, fillOf ((List.range len).map fun i => (i * s, s)) (len * s) ((List.range' i vs.length).zip vs) = some ol ∧ ovls (pre ++ zs) ol = pre ++ flat vs
  | [], pre, zs, i, _, _, _, hz => by
    have : zs = [] := List.length_eq_zero_iff.1 (by simpa using hz)
    subst this
    exact ⟨[], rfl, by simp [ovls, flat]⟩
  | v :: vs, pre, zs, i, hs, hl, hp, hz => by
    simp only [sized, Bool.and_eq_true] at hs
    have h1 := Nat.eq_of_beq_eq_true hs.1
    have hlen : v.cells.toList.length = s := by simpa using h1
    have hl' : i + 1 + vs.length = len := by simp only [List.length_cons] at hl; omega
    have hz' : zs.length = s + vs.length * s := by rw [hz, List.length_cons, Nat.succ_mul]; omega
    obtain ⟨ol, ho, hov⟩ := fill_all len s vs (pre ++ v.cells.toList) (zs.drop s) (i + 1) hs.2 hl' (by rw [List.length_append, hlen, hp, Nat.succ_mul]) (by rw [List.length_drop, hz']; omega)
    refine ⟨(i * s, v.cells.toList) :: ol, ?_, ?_⟩
    · rw [List.length_cons, zip_range_succ]
      unfold fillOf
      have hi : ((List.range len).map fun i => (i * s, s))[i]? = some (i * s, s) := by
        rw [List.getElem?_map, List.getElem?_range (by omega)]; rfl
      simp only [hi]
      have hb : (Nat.beq v.cells.size s && Nat.ble (i * s + v.cells.size) (len * s)) = true := by
        rw [Bool.and_eq_true]
        refine ⟨by rw [h1]; exact Nat.beq_refl s, Nat.ble_eq_true_of_le ?_⟩
        rw [h1, ← hl', Nat.add_mul, Nat.add_mul]
        omega
      rw [hb]
      simp only [ho]
    · simp only [ovls]
      rw [← hp, ovl_mid v.cells.toList pre zs (by rw [hlen, hz']; omega), hlen, hov]
      simp [flat]
theorem N_buildAll {t e len s : Nat} {parts : Array (Nat × Operand)} {vs cs : List Value} {ti : TypeInfo} {z : Value} (hop : o.op = .buildSlice t len parts) (hu : c.P.underlying t = some (.slice e)) (hi : c.P.info? e = some ti) (hsz : ti.size = s) (hz : ti.zero = some z) (hl : Nat.ble (len * s) 16777216 = true) (hpos : Nat.beq (len * s) 0 = false)
    (hidx : parts.toList.map (·.1) = List.range' 0 len) (hx : fevs env (parts.toList.map (·.2)) = some vs) (hlen : vs.length = len) (hok : sized s vs = true) (hcs : flat vs = cs) :
    New c n env L o (fun b => .slice (some ⟨b, 0, none⟩) len len) (.cells cs.toArray e (0, 0)) := by
  subst hcs
  have hzl : ((Array.range (len * s)).map (z.cells[· % z.cells.size]!)).toList.length = vs.length * s := by simp [hlen]
  obtain ⟨ol, ho, hov⟩ := fill_all len s vs [] ((Array.range (len * s)).map (z.cells[· % z.cells.size]!)).toList 0 hok (by omega) (by simp) hzl
  refine N_buildSlice (zs := ((Array.range (len * s)).map (z.cells[· % z.cells.size]!)).toList) (ol := ol) hop hu hi hsz hz rfl hl hpos hx ?_ (by simpa using hov)
  rw [hzl, hidx, hlen]
  rw [hlen] at ho
  exact ho
end
end Go.Proofs.YtkekkalgebgokaaDoor
