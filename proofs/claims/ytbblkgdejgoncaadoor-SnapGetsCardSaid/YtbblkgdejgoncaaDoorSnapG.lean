/- The law SnapGets: of any blocks that lie on a disk the program gets, by any epoch and size, what the document gets of them, or it says why not; the call returns true and leaves its arguments as they were. -/
import Derived.Test.YtbblkgdejgoncaaDoorSnapL
set_option linter.unusedSimpArgs false
set_option linter.unusedVariables false
namespace Go.Proofs.YtbblkgdejgoncaaDoor
open Go.ChangeShapes Go.WideShapes Go.ChangeAt Go.RowKit

section
theorem infSnapG_4 : Tryd.prog.info? 4 = some Tryd.t4 := by kernel_rfl
theorem infSnapG_9 : Tryd.prog.info? 9 = some Tryd.t9 := by kernel_rfl
theorem infSnapG_22 : Tryd.prog.info? 22 = some Tryd.t22 := by kernel_rfl
theorem infSnapG_128 : Tryd.prog.info? 128 = some Tryd.t128 := by kernel_rfl


structure La where
  e : Nat
  i : Nat
  d : List UInt8
def laCells (x : La) : List Value := [.int .u32 (x.e : Int), .int .u32 (x.i : Int), .string (bs x.d)]
theorem la_len (x : La) : (laCells x).length = 3 := rfl
structure LaOk (x : La) : Prop where
  e1 : x.e < 4294967296
  i1 : x.i < 4294967296
  d1 : x.d.length ≤ 9223372036854775807
instance : Inhabited La := ⟨⟨0, 0, []⟩⟩
def pad48 (d : List UInt8) : List UInt8 := (d ++ List.replicate (48 - d.length) 0).take 48
theorem pad48_len (d : List UInt8) : (pad48 d).length = 48 := by unfold pad48; simp; omega
/-- The block that is laid. -/
def layB (x : La) : List UInt8 := if x.e = 0 then zs64 else sealL x.e x.i (pad48 x.d)
theorem lay_E (x : La) : sealE x.e (pad48 x.d) = if x.e = 0 then 1 else 0 := by
  unfold sealE; rw [pad48_len]; simp
theorem layB_len (x : La) : (layB x).length = 64 := by
  unfold layB; split
  · simp [zs64]
  · exact sealL_length ((sealE_cases _ _).2 (by rw [pad48_len]; omega))
theorem pad_nextG (s : List UInt8) (k : Nat) : s ++ List.replicate k 0 ++ [0] = s ++ List.replicate (k + 1) 0 := by
  rw [List.append_assoc]; congr 1; exact (List.replicate_succ' ..).symm
theorem pad48_end (d : List UInt8) (k : Nat) (h1 : 48 ≤ d.length + k) (h2 : k = 0 ∨ d.length + k ≤ 48) : (d ++ List.replicate k 0).take 48 = pad48 d := by
  unfold pad48
  rcases h2 with rfl | h2
  · by_cases h : 48 ≤ d.length
    · rw [show 48 - d.length = 0 by omega]
    · omega
  · rw [show k = 48 - d.length by omega]


theorem layB_no {x : La} (h : ¬ ((sealE x.e (pad48 x.d) : Nat) : Int) = 0) : layB x = zs64 := by
  have hE := lay_E x
  unfold layB; split
  · rfl
  · rename_i h0; rw [if_neg h0] at hE; omega
theorem layB_yes {x : La} (h : ((sealE x.e (pad48 x.d) : Nat) : Int) = 0) : layB x = sealL x.e x.i (pad48 x.d) := by
  have hE := lay_E x
  unfold layB; split
  · rename_i h0; rw [if_pos h0] at hE; omega
  · rfl

set_option maxRecDepth 100000 in
set_option maxHeartbeats 1000000 in
theorem lay_block (x : La) (hx : LaOk x) :
    Ct Tryd.prog 18 [.agg (laCells x).toArray] [] [] fun v post => v = .string (bs (layB x)) ∧ post = [] := by
 have hd1 := hx.d1
 have he1 := hx.e1
 have hi1 := hx.i1
 have hp48 := pad48_len x.d
 refine ct_of Tryd.func18 rfl rfl (fun w0 => ?_)
 show G _ _ [(0, _)] _ _
 refine G_seq ?_
 refine G_region (l := [0, 1]) rfl ?_
 refine G_new rfl rfl rfl rfl (N_boxA rfl rfl) (fun b1 => ?_)
 refine G_val rfl rfl rfl rfl (V_assign rfl rfl) ?_
 refine G_done ?_
 refine G_seq ?_
 refine G_region (l := [0, 1, 2]) rfl ?_
 refine G_val rfl rfl rfl rfl (V_fieldAddr (fo := 2) rfl Tryd.underlying39 rfl infSnapG_9 rfl rfl rfl) ?_
 refine G_val rfl rfl rfl rfl (V_load1 rfl rfl (mem_at 0 rfl) rfl Tryd.underlying9 rfl) ?_
 refine G_val rfl rfl rfl rfl (V_assign rfl rfl) ?_
 refine G_done ?_
 refine G_seq ?_
 refine G_block ?_
 refine G_sub ?he2 [0] ?hl2 (G_loop (X := Nat) (fun k => k = 0 ∨ x.d.length + k ≤ 48) (fun k => 48 - (x.d.length + k)) (fun k => [(1, .pointer (some ⟨b1, 0, none⟩)), (3, .string (bs (x.d ++ List.replicate k 0)))]) (fun k => [(some b1, .cells (laCells x).toArray 39 (0, 0))]) ?round2 0 ?h02)
 case he2 => refine (And.intro rfl (And.intro (by simp; rfl) trivial))
 case hl2 => exact ⟨_, rfl⟩
 case h02 => exact .inl rfl
 case round2 =>
  intro k hJ ih
  try dsimp only at hJ ih
  refine G_seq ?_
  refine G_seq ?_
  refine G_region (l := [0, 1, 2]) rfl ?_
  refine G_val rfl rfl rfl rfl (V_move rfl rfl) ?_
  refine G_val rfl rfl rfl rfl (V_slen rfl rfl Tryd.underlying9 rfl) ?_
  refine G_val rfl rfl rfl rfl (V_lss rfl rfl rfl) ?_
  refine G_done ?_
  refine G_ifD rfl (fun hc1 => ?_) (fun hc1 => ?_)
  · skip
    refine G_skip ?_
    refine G_block ?_
    refine G_region (l := [0, 1, 2]) rfl ?_
    refine G_val rfl rfl rfl rfl (V_move rfl rfl) ?_
    refine G_val rfl rfl rfl rfl (V_sadd rfl rfl rfl (by first | omega | (simp [wCells, kCells, wCells, kCells, wCells, kCells, wCells, kCells, wCells, kCells, wCells, kCells, laCells]; done) | (simp [wCells, kCells, wCells, kCells, wCells, kCells, wCells, kCells, wCells, kCells, wCells, kCells, laCells]; omega) | (simp [wCells, kCells, wCells, kCells, wCells, kCells, wCells, kCells, wCells, kCells, wCells, kCells, laCells] at *; omega))) ?_
    refine G_val rfl rfl rfl rfl (V_assign rfl rfl) ?_
    refine G_done ?_
    refine G_inBlock ?_
    refine G_sub ?_ [0] ?_ (ih (k + 1) ?_ ?_)
    · (refine (And.intro rfl (And.intro (slot_str (pad_nextG x.d k)) trivial)))
    · exact ⟨_, rfl⟩
    · (simp only [List.length_append, List.length_replicate] at *; omega)
    · (simp only [List.length_append, List.length_replicate] at *; omega)
  refine G_exit rfl ?_
  refine G_seq ?_
  simp only [List.length_append, List.length_replicate] at *
  refine G_draw mixedK (by kernel_rfl) ?_
  refine GQ_val rfl rfl rfl rfl (V_fieldAddr (fo := 0) rfl Tryd.underlying39 rfl infSnapG_22 rfl rfl rfl) ?_
  refine GQ_val rfl rfl rfl rfl (V_load1 rfl rfl (mem_at 0 rfl) rfl Tryd.underlying22 rfl) ?_
  refine GQ_val rfl rfl rfl rfl (V_fieldAddr (fo := 1) rfl Tryd.underlying39 rfl infSnapG_22 rfl rfl rfl) ?_
  refine GQ_val rfl rfl rfl rfl (V_load1 rfl rfl (mem_at 0 rfl) rfl Tryd.underlying22 rfl) ?_
  refine GQ_val rfl rfl rfl rfl (V_move rfl rfl) ?_
  refine GQ_val rfl rfl rfl rfl (V_ssliceHN (hi := 48) rfl Tryd.underlying9 rfl rfl rfl (by simp only [List.length_append, List.length_replicate]; omega)) ?_
  rw [pad48_end x.d k (by omega) (by omega)]
  refine GQ_call rfl rfl rfl rfl rfl rfl Tryd.call62 (rseal_seal x.e x.i (pad48 x.d) he1 hi1 (by omega)) [] rfl (fun v post hp => (hp : _ ∧ _).1) ?_
  refine GQ_val rfl rfl rfl rfl (V_move rfl rfl) ?_
  refine GQ_val rfl rfl rfl rfl (V_extract rfl rfl rfl) ?_
  refine GQ_val rfl rfl rfl rfl (V_extract rfl rfl rfl) ?_
  refine GQ_val rfl rfl rfl rfl (V_assign rfl rfl) ?_
  refine GQ_val rfl rfl rfl rfl (V_assign rfl rfl) ?_
  refine GQ_done rfl ?_
  refine G_seq ?_
  refine G_seq ?_
  refine G_region (l := [0, 1]) rfl ?_
  refine G_val rfl rfl rfl rfl (V_move rfl rfl) ?_
  refine G_val rfl rfl rfl rfl (V_neq rfl rfl rfl) ?_
  refine G_done ?_
  refine G_ifD rfl (fun hc2 => ?_) (fun hc2 => ?_)
  · skip
    refine G_seq ?_
    refine G_region (l := [0, 1]) rfl ?_
    refine G_call (L2 := [_]) rfl rfl rfl rfl rfl rfl Tryd.call30 (rd_zero) [] [] rfl rfl ?_
    rintro v post ⟨rfl, rfl⟩
    show G _ _ _ [_] _
    refine G_val rfl rfl rfl rfl (V_assign rfl rfl) ?_
    refine G_done ?_
    refine G_ret (post := []) Tryd.func18 rfl (RVs_cons (RV_tmp rfl) RVs_nil) [] rfl ?_
    dsimp only [packed]
    first
      | (rw [layB_no (by assumption)]; exact ⟨rfl, rfl⟩)
      | (rw [layB_yes (Classical.not_not.1 (by assumption))]; exact ⟨rfl, rfl⟩)
  refine G_skip ?_
  refine G_seq ?_
  refine G_region (l := [0, 1]) rfl ?_
  refine G_val rfl rfl rfl rfl (V_move rfl rfl) ?_
  refine G_val rfl rfl rfl rfl (V_assign rfl rfl) ?_
  refine G_done ?_
  refine G_ret (post := []) Tryd.func18 rfl (RVs_cons (RV_tmp rfl) RVs_nil) [] rfl ?_
  dsimp only [packed]
  first
    | (rw [layB_no (by assumption)]; exact ⟨rfl, rfl⟩)
    | (rw [layB_yes (Classical.not_not.1 (by assumption))]; exact ⟨rfl, rfl⟩)


def layBs (l : List La) : List (List UInt8) := l.map layB
theorem layBs_64 (l : List La) : ∀ b ∈ layBs l, b.length = 64 := by
  intro b hb
  obtain ⟨x, _, rfl⟩ := List.mem_map.1 hb
  exact layB_len x
theorem layBs_next {l : List La} {i : Nat} {x : La} (h : l[i]? = some x) : (layBs (l.take i)).map strC ++ [strC (layB x)] = (layBs (l.take (i + 1))).map strC := by
  rw [take_succ_of h]; unfold layBs; simp
theorem layBs_len (l : List La) : (layBs l).length = l.length := by unfold layBs; rw [List.length_map]
theorem layBs_nil : layBs [] = [] := rfl
def getD_ (l : List La) (i : Nat) : Dk := wrsK (newD (l.length + 1)) 1 (layBs (l.take i))
theorem get_start (l : List La) : getD_ l 0 = newD (l.length + 1) := rfl
theorem get_next {l : List La} {i : Nat} {x : La} (h : l[i]? = some x) : getD_ l (i + 1) = (getD_ l i).write (1 + (i : Int)) (layB x) ∧ (getD_ l i).writeE (1 + (i : Int)) (layB x) = 0 := by
  have hlt : i < l.length := (List.getElem?_eq_some_iff.1 h).1
  have e0 : layBs (l.take (i + 1)) = layBs (l.take i) ++ [layB x] := by rw [take_succ_of h]; unfold layBs; simp
  have hl : (layBs (l.take i)).length = i := by unfold layBs; rw [List.length_map, List.length_take]; omega
  have hn : (newD (l.length + 1)).L.length = l.length + 1 := by simp [newD]
  obtain ⟨g1, g2, g3, g4⟩ := wrs_lively (layBs (l.take i)) (newD (l.length + 1)) 1 (newD_lively _) (layBs_64 _) (by omega) (by rw [hl, hn]; omega)
  have hw := write_lively g4 (a := 1 + (i : Int)) (s := layB x) (by rw [g2, hn]; omega) (layB_len x)
  refine ⟨?_, hw.1⟩
  unfold getD_
  rw [e0]
  have hgen : ∀ (bl : List (List UInt8)) (k : Dk) (a : Int) (b : List UInt8), wrsE k a bl = 0 → (wrsK k a bl).writeE (a + (bl.length : Int)) b = 0 → wrsK k a (bl ++ [b]) = (wrsK k a bl).write (a + (bl.length : Int)) b := by
    intro bl
    induction bl with
    | nil => intro k a b _ h; simp only [List.nil_append, List.length_nil, wrsK] at *; rw [show a + ((0 : Nat) : Int) = a by omega] at *; rw [if_neg (by omega)]
    | cons c bl ih =>
      intro k a b h1 h2
      rw [List.length_cons] at h2 ⊢
      by_cases hc : k.writeE a c = 0
      · have e1 : wrsK k a (c :: bl) = wrsK (k.write a c) (a + 1) bl := by rw [wrsK, if_neg (by omega)]
        have e2 : wrsE k a (c :: bl) = wrsE (k.write a c) (a + 1) bl := by rw [wrsE, if_neg (by omega)]
        rw [e1] at h2 ⊢
        rw [e2] at h1
        rw [List.cons_append, wrsK, if_neg (by omega), show a + ((bl.length + 1 : Nat) : Int) = a + 1 + (bl.length : Int) by omega] at *
        exact ih _ _ _ h1 h2
      · exfalso; rw [wrsE, if_pos hc] at h1; exact hc h1
  have := hgen (layBs (l.take i)) (newD (l.length + 1)) 1 (layB x) g1 (by rw [hl]; exact hw.1)
  rw [hl] at this
  exact this
theorem get_W (l : List La) (i : Nat) (hi : i ≤ l.length) : (getD_ l i).W.length ≤ i := by
  have := wrs_W (layBs (l.take i)) (newD (l.length + 1)) 1
  have h0 : (newD (l.length + 1)).W.length = 0 := rfl
  have hl : (layBs (l.take i)).length = i := by unfold layBs; rw [List.length_map, List.length_take]; omega
  unfold getD_; omega
/-- What is read of the disk when all is laid. -/
theorem get_all (l : List La) (h1 : 1 ≤ l.length) (h2 : l.length ≤ 20) : (getD_ l l.length).dead = false ∧ (getD_ l l.length).L.length = l.length + 1 ∧ rdB (getD_ l l.length) 1 l.length = layBs l := by
  have hn : (newD (l.length + 1)).L.length = l.length + 1 := by simp [newD]
  have hl : (layBs l).length = l.length := by unfold layBs; rw [List.length_map]
  have e0 : getD_ l l.length = wrsK (newD (l.length + 1)) 1 (layBs l) := by unfold getD_; rw [List.take_length]
  obtain ⟨g1, g2, g3, g4⟩ := wrs_lively (layBs l) (newD (l.length + 1)) 1 (newD_lively _) (layBs_64 _) (by omega) (by rw [hl, hn]; omega)
  have hok := wrs_ok (layBs l) (newD (l.length + 1)) 1 (newD_ok _ (by omega) (by omega))
  rw [e0]
  refine ⟨g4.dead, by rw [g2, hn], ?_⟩
  apply List.ext_getElem?
  intro i
  by_cases hi : i < l.length
  · rw [rdB_at hi, show (1 : Int) + (i : Int) = ((1 + i : Nat) : Int) by omega, (read_view hok g4.dead (i := 1 + i) (by rw [g2, hn]; omega)).1]
    have hv : view (wrsK (newD (l.length + 1)) 1 (layBs l)) = applyW (newD (l.length + 1)).L (places ((1 : Nat) : Int) (layBs l)) := by unfold view; rw [g2, g3]; rfl
    rw [hv, applyW_places _ _ _ (by rw [hl, hn]; omega) (1 + i) (by rw [hn]; omega), hl, if_pos (by omega), show 1 + i - 1 = i by omega, List.getD_eq_getElem?_getD, List.getElem?_eq_getElem (by omega)]; rfl
  · rw [List.getElem?_eq_none (by rw [rdB_len]; omega), List.getElem?_eq_none (by omega)]
theorem catD_end {bl : List (List UInt8)} {e m z i : Nat} (h : okTo bl e m) (hm : m ≤ bl.length) (hz : z ≤ i) (hi : 48 * m ≤ i) (hp : ∀ j, z ≤ j → j < i → j < 48 * m → ((catD (bl.take m)).getD j 0) = 0) : ∀ x ∈ (catD (bl.take m)).drop z, x = 0 := by
  have hl := okTo_len h hm
  intro x hx
  obtain ⟨j, hj, rfl⟩ := List.getElem_of_mem hx
  rw [List.length_drop] at hj
  have := hp (z + j) (by omega) (by omega) (by omega)
  rw [List.getD_eq_getElem?_getD, List.getElem?_eq_getElem (by omega)] at this
  rw [List.getElem_drop]; exact this
theorem get_big {bl : List (List UInt8)} {e : Nat} {z : Int} (h : (bl.length : Int) * 48 < z) : ¬ getOk bl e z := fun x => by
  have h1 := x.1
  have h2 := x.2.1
  have h3 := manyS_room z.toNat
  omega
theorem byte_zero {c : UInt8} (h : ((c.toNat : Nat) : Int) = 0) : c = 0 := by
  apply UInt8.toNat_inj.1
  have : (0 : UInt8).toNat = 0 := rfl
  omega
theorem rest_not {l : List UInt8} {z j : Nat} (h1 : z ≤ j) (h2 : j < l.length) (h3 : ¬ (((l.getD j 0).toNat : Nat) : Int) = 0) : ¬ ∀ x ∈ l.drop z, x = 0 := fun h => by
  have := h (l.getD j 0) (by
    rw [List.getD_eq_getElem?_getD, List.getElem?_eq_getElem h2]
    rw [List.mem_iff_getElem]
    exact ⟨j - z, by rw [List.length_drop]; omega, by rw [List.getElem_drop]; simp only [Option.getD_some]; congr 1; omega⟩)
  rw [this] at h3
  exact h3 rfl
theorem get_yes_n {bl : List (List UInt8)} {e z : Nat} (h1 : manyS z ≤ bl.length) (h2 : okTo bl e (manyS z)) (h3 : ∀ x ∈ (catD (bl.take (manyS z))).drop z, x = 0) : getT bl e (z : Int) = (catD (bl.take (manyS z))).take z ∧ getE bl e (z : Int) = 0 := by
  have hg : getOk bl e (z : Int) := by unfold getOk; rw [Int.toNat_natCast]; exact ⟨by omega, h1, h2, h3⟩
  have := get_yes hg
  rwa [Int.toNat_natCast] at this
theorem layBs_at {l : List La} {i : Nat} {x : La} (h : l[i]? = some x) : ((layBs (l.take (i + 1))).map strC)[i]? = some (strC (layB x)) := by
  unfold layBs; simp [h]
theorem gets_0 (l : List La) (z : Int) : gotT (getD_ l l.length) 1 (l.length : Int) 0 z = [] ∧ gotE (getD_ l l.length) 1 (l.length : Int) 0 z = 1 := got_no (by unfold regE; rw [if_pos (by omega)]; decide)
theorem gets_1 (l : List La) (h1 : 1 ≤ l.length) (h2 : l.length ≤ 20) {e : Nat} (he : ¬ (e : Int) = 0) (z : Int) : gotT (getD_ l l.length) 1 (l.length : Int) e z = getT (layBs l) e z ∧ gotE (getD_ l l.length) 1 (l.length : Int) e z = getE (layBs l) e z := by
  obtain ⟨_, g2, g3⟩ := get_all l h1 h2
  have := got_yes (k := getD_ l l.length) (f := 1) (b := (l.length : Int)) (e := e) (z := z) (by rw [g2, regE_ok]; omega)
  rw [Int.toNat_natCast, g3] at this
  exact this
theorem gets_2 (l : List La) (h1 : 1 ≤ l.length) (h2 : l.length ≤ 20) {e : Nat} (he : ¬ (e : Int) = 0) {z : Int} (hz : 5000 < z) : gotT (getD_ l l.length) 1 (l.length : Int) e z = [] ∧ gotE (getD_ l l.length) 1 (l.length : Int) e z = 18 := by
  obtain ⟨a, b⟩ := gets_1 l h1 h2 he z
  obtain ⟨c, d⟩ := get_no (get_big (bl := layBs l) (e := e) (z := z) (by unfold layBs; rw [List.length_map]; omega))
  exact ⟨a.trans c, b.trans d⟩

set_option maxRecDepth 100000 in
set_option maxHeartbeats 1000000 in
theorem rsn_getN (o1 : Option Nat) (p1 q1 : Nat) (c1 : Array Value) (T1 : TypeId) (f1 : Nat × Nat) (ls : List (List UInt8)) (hs : Sees 1 o1 p1 q1 c1 (ls.map strC) ls.length) (hl : ∀ b ∈ ls, b.length = 64) (hn : ls.length ≤ 100000) (e z : Nat) (he : e < 4294967296) (hzl : z ≤ 1000000) :
    Ct Tryd.prog 22 [sv o1 p1 ls.length q1, .int .u32 (e : Int), .int .i64 (z : Int)] [(o1, .cells c1 T1 f1)] [] fun v post => v = .tuple #[.string (bs (getT ls e (z : Int))), .int .i64 (getE ls e (z : Int))] ∧ post = [] := by
 have hk1 := hs.le
 have hk2 := hs.max
 have hroom := manyS_room z
 refine ct_of Tryd.func22 rfl rfl (fun w0 => ?_)
 show G _ _ [(0, _), (1, _), (2, _)] _ _
 refine G_seq ?_
 refine G_region (l := [0, 1]) rfl ?_
 refine G_val rfl rfl rfl rfl (V_assign rfl rfl) ?_
 refine G_val rfl rfl rfl rfl (V_assign rfl rfl) ?_
 refine G_done ?_
 refine G_seq ?_
 refine G_seq ?_
 refine G_region (l := [0, 1, 2, 3, 4, 5, 6, 7, 8]) rfl ?_
 refine G_val rfl rfl rfl rfl (V_move rfl rfl) ?_
 refine G_val rfl rfl rfl rfl (V_lss rfl rfl rfl) ?_
 refine G_val rfl rfl rfl rfl (V_move rfl rfl) ?_
 refine G_splitD 14 rfl (fun hc1 => ?_) (fun hc1 => ?_)
 · (first | (exact absurd rfl hc1) | (exact absurd hc1 (by decide)) | (exact absurd (by decide) hc1) | (exfalso; omega))
 refine G_val rfl rfl rfl rfl (V_move rfl rfl) ?_
 refine G_call (L2 := []) rfl rfl rfl rfl rfl rfl Tryd.call25 (rsn_many z (by omega)) [] [] rfl rfl ?_
 rintro v post ⟨rfl, rfl⟩
 refine G_val rfl rfl rfl rfl (V_move rfl rfl) ?_
 refine G_val rfl rfl rfl rfl (V_len rfl rfl Tryd.underlying24 rfl) ?_
 refine G_val rfl rfl rfl rfl (V_gtr rfl rfl rfl) ?_
 refine G_val rfl rfl rfl rfl (V_pickF rfl rfl rfl) ?_
 refine G_done ?_
 refine G_ifD rfl (fun hc2 => ?_) (fun hc2 => ?_)
 · skip
   refine G_seq ?_
   refine G_region (l := [0, 1]) rfl ?_
   refine G_val rfl rfl rfl rfl (V_assign rfl rfl) ?_
   refine G_val rfl rfl rfl rfl (V_assign rfl rfl) ?_
   refine G_done ?_
   refine G_ret (post := []) Tryd.func22 rfl (RVs_cons (RV_tmp rfl) (RVs_cons (RV_tmp rfl) RVs_nil)) [] rfl ?_
   dsimp only [packed]
   first
     | (suffices hz : ls.length < manyS z by (obtain ⟨e1, e2⟩ := get_no (getOk_small (bl := ls) (e := e) hz); rw [e1, e2]; exact ⟨rfl, rfl⟩)
        omega)
     | (suffices hz : i < manyS z ∧ ¬ (openOk x = true ∧ openE x = e ∧ openI x = i) by (obtain ⟨e1, e2⟩ := get_no (getOk_bad (bl := ls) (e := e) (z := z) (i := i) hz.1 hxg hz.2); rw [e1, e2]; exact ⟨rfl, rfl⟩)
        exact ⟨by omega, by rintro ⟨x1, x2, x3⟩; first | omega | simp_all⟩)
     | (suffices hz : j < 48 * manyS z ∧ ¬ (((catD (ls.take (manyS z))).getD j 0).toNat : Int) = 0 by (obtain ⟨e1, e2⟩ := get_no (getOk_rest (bl := ls) (e := e) (z := z) (rest_not hj1 (by omega) hz.2)); rw [e1, e2]; exact ⟨rfl, rfl⟩)
        exact ⟨by omega, by assumption⟩)
     | (suffices hz : 48 * manyS z ≤ j by (obtain ⟨e1, e2⟩ := get_yes_n (bl := ls) (e := e) (z := z) (by omega) hok (catD_end hok (by omega) hj1 hz hj3); rw [e1, e2]; exact ⟨rfl, rfl⟩)
        omega)
 refine G_skip ?_
 refine G_seq ?_
 refine G_region (l := [0]) rfl ?_
 refine G_val rfl rfl rfl rfl (V_assign rfl rfl) ?_
 refine G_done ?_
 refine G_seq ?_
 refine G_seq ?_
 refine G_region (l := [0]) rfl ?_
 refine G_val rfl rfl rfl rfl (V_assign rfl rfl) ?_
 refine G_done ?_
 refine G_block ?_
 refine G_sub ?he5 [] ?hl5 (G_loop (X := Nat) (fun i => i ≤ manyS z ∧ okTo ls e i) (fun i => manyS z - i) (fun i => [(0, sv o1 p1 ls.length q1), (1, .int .u32 (e : Int)), (2, .int .i64 (z : Int)), (8, .string (bs (catD (ls.take i)))), (9, .int .i64 (i : Int))]) (fun i => []) ?round5 0 ?h05)
 case he5 => exact (And.intro rfl (And.intro rfl (And.intro rfl (And.intro rfl (And.intro rfl trivial)))))
 case hl5 => exact ⟨_, rfl⟩
 case h05 => exact ⟨Nat.zero_le _, fun j hj => by omega⟩
 case round5 =>
  intro i hJ ih
  try dsimp only at hJ ih
  obtain ⟨hi, hok⟩ := hJ
  refine G_seq ?_
  refine G_seq ?_
  refine G_region (l := [0, 1, 2, 3]) rfl ?_
  refine G_val rfl rfl rfl rfl (V_move rfl rfl) ?_
  refine G_val rfl rfl rfl rfl (V_move rfl rfl) ?_
  refine G_call (L2 := []) rfl rfl rfl rfl rfl rfl Tryd.call25 (rsn_many z (by omega)) [] [] rfl rfl ?_
  rintro v post ⟨rfl, rfl⟩
  refine G_val rfl rfl rfl rfl (V_lss rfl rfl rfl) ?_
  refine G_done ?_
  refine G_ifD rfl (fun hc3 => ?_) (fun hc3 => ?_)
  · skip
    refine G_skip ?_
    refine G_seq ?_
    refine G_block ?_
    refine G_seq ?_
    obtain ⟨x, hx⟩ := getI (show i < ls.length by omega)
    obtain ⟨b1, rfl⟩ := hs.isSome (by omega)
    have hx64 := hl x (List.mem_of_getElem? hx)
    have hxg : ls.getD i [] = x := by rw [List.getD_eq_getElem?_getD, hx]; rfl
    have hq1 := openE_lt x
    have hq2 := openI_lt x
    have hq3 := openD_len x
    have hcl := okTo_len hok (by omega)
    refine G_region (l := [0, 1, 2, 3, 4, 5, 6]) rfl ?_
    refine G_val rfl rfl rfl rfl (V_move rfl rfl) ?_
    refine G_val rfl rfl rfl rfl (V_move rfl rfl) ?_
    first
      | refine G_val rfl rfl rfl rfl (V_indexAddrN (s := 1) rfl Tryd.underlying24 infSnapG_9 rfl rfl rfl rfl (by omega)) ?_
      | refine G_val rfl rfl rfl rfl (V_indexAddr (s := 1) rfl Tryd.underlying24 infSnapG_9 rfl rfl rfl (by omega) (by first | omega | (simp [wCells, kCells, wCells, kCells, wCells, kCells, wCells, kCells, wCells, kCells, wCells, kCells, laCells]; done) | (simp [wCells, kCells, wCells, kCells, wCells, kCells, wCells, kCells, wCells, kCells, wCells, kCells, laCells]; omega) | (simp [wCells, kCells, wCells, kCells, wCells, kCells, wCells, kCells, wCells, kCells, wCells, kCells, laCells] at *; omega))) ?_
    refine G_val rfl rfl rfl rfl (V_load1 rfl rfl (mem_at 0 rfl) (nth_of (hs.cell hx)) Tryd.underlying9 rfl) ?_
    refine G_call (L2 := []) rfl rfl rfl rfl rfl rfl Tryd.call71 (rseal_open x (by omega)) [] [] rfl rfl ?_
    rintro v post ⟨rfl, rfl⟩
    refine G_new rfl rfl rfl rfl (N_allocA rfl infSnapG_128 rfl) (fun b10 => ?_)
    refine G_put (l1 := []) (L' := [_]) rfl rfl rfl rfl (P_storeA (s := 4) rfl rfl rfl (mem_at 0 rfl) (by first | rfl | (simp [bcells_length, wCells, kCells, wCells, kCells, wCells, kCells, wCells, kCells, wCells, kCells, wCells, kCells, laCells]; done) | (simp [bcells_length, wCells, kCells, wCells, kCells, wCells, kCells, wCells, kCells, wCells, kCells, wCells, kCells, laCells]; omega) | (simp [bcells_length, *, wCells, kCells, wCells, kCells, wCells, kCells, wCells, kCells, wCells, kCells, wCells, kCells, laCells]; done)) infSnapG_128 rfl (by first | rfl | (simp [bcells_length, wCells, kCells, wCells, kCells, wCells, kCells, wCells, kCells, wCells, kCells, wCells, kCells, laCells]; done) | (simp [bcells_length, wCells, kCells, wCells, kCells, wCells, kCells, wCells, kCells, wCells, kCells, wCells, kCells, laCells]; omega) | (simp [bcells_length, *, wCells, kCells, wCells, kCells, wCells, kCells, wCells, kCells, wCells, kCells, wCells, kCells, laCells]; done)) (by first | rfl | exact bcells_all _ | (simp [Value.oneCell', wCells, kCells, wCells, kCells, wCells, kCells, wCells, kCells, wCells, kCells, wCells, kCells, laCells]; done) | (simp [Value.oneCell', *, wCells, kCells, wCells, kCells, wCells, kCells, wCells, kCells, wCells, kCells, wCells, kCells, laCells]; done))) rfl ?_
    refine G_done ?_
    refine G_seq ?_
    refine G_seq ?_
    refine G_region (l := [0, 1, 2, 3, 4, 5, 6, 7, 8, 9, 10, 11, 12, 13, 14, 15]) rfl ?_
    refine G_val rfl rfl rfl rfl (V_fieldAddr (fo := 3) rfl Tryd.underlying128 rfl infSnapG_4 rfl rfl rfl) ?_
    refine G_val rfl rfl rfl rfl (V_load1 rfl rfl (mem_at 1 rfl) rfl Tryd.underlying4 rfl) ?_
    refine G_val rfl rfl rfl rfl (V_not rfl rfl) ?_
    refine G_val rfl rfl rfl rfl (V_move rfl rfl) ?_
    refine G_split 35 rfl (fun hc4 => ?_) (fun hc4 => ?_)
    · skip
      refine G_off rfl rfl rfl rfl ?_
      refine G_off rfl rfl rfl rfl ?_
      refine G_off rfl rfl rfl rfl ?_
      refine G_off rfl rfl rfl rfl ?_
      refine G_val rfl rfl rfl rfl (V_pickT rfl rfl rfl) ?_
      refine G_val rfl rfl rfl rfl (V_move rfl rfl) ?_
      refine G_off rfl rfl rfl rfl ?_
      refine G_off rfl rfl rfl rfl ?_
      refine G_off rfl rfl rfl rfl ?_
      refine G_off rfl rfl rfl rfl ?_
      refine G_off rfl rfl rfl rfl ?_
      refine G_val rfl rfl rfl rfl (V_pickT rfl rfl rfl) ?_
      refine G_done ?_
      refine G_then rfl ?_
      refine G_seq ?_
      refine G_region (l := [0, 1]) rfl ?_
      refine G_val rfl rfl rfl rfl (V_assign rfl rfl) ?_
      refine G_val rfl rfl rfl rfl (V_assign rfl rfl) ?_
      refine G_done ?_
      refine G_ret (post := []) Tryd.func22 rfl (RVs_cons (RV_tmp rfl) (RVs_cons (RV_tmp rfl) RVs_nil)) [] rfl ?_
      dsimp only [packed]
      first
        | (suffices hz : ls.length < manyS z by (obtain ⟨e1, e2⟩ := get_no (getOk_small (bl := ls) (e := e) hz); rw [e1, e2]; exact ⟨rfl, rfl⟩)
           omega)
        | (suffices hz : i < manyS z ∧ ¬ (openOk x = true ∧ openE x = e ∧ openI x = i) by (obtain ⟨e1, e2⟩ := get_no (getOk_bad (bl := ls) (e := e) (z := z) (i := i) hz.1 hxg hz.2); rw [e1, e2]; exact ⟨rfl, rfl⟩)
           exact ⟨by omega, by rintro ⟨x1, x2, x3⟩; first | omega | simp_all⟩)
        | (suffices hz : j < 48 * manyS z ∧ ¬ (((catD (ls.take (manyS z))).getD j 0).toNat : Int) = 0 by (obtain ⟨e1, e2⟩ := get_no (getOk_rest (bl := ls) (e := e) (z := z) (rest_not hj1 (by omega) hz.2)); rw [e1, e2]; exact ⟨rfl, rfl⟩)
           exact ⟨by omega, by assumption⟩)
        | (suffices hz : 48 * manyS z ≤ j by (obtain ⟨e1, e2⟩ := get_yes_n (bl := ls) (e := e) (z := z) (by omega) hok (catD_end hok (by omega) hj1 hz hj3); rw [e1, e2]; exact ⟨rfl, rfl⟩)
           omega)
    refine G_val rfl rfl rfl rfl (V_fieldAddr (fo := 0) rfl Tryd.underlying128 rfl infSnapG_22 rfl rfl rfl) ?_
    refine G_val rfl rfl rfl rfl (V_load1 rfl rfl (mem_at 1 rfl) rfl Tryd.underlying22 rfl) ?_
    refine G_val rfl rfl rfl rfl (V_move rfl rfl) ?_
    refine G_val rfl rfl rfl rfl (V_neq rfl rfl rfl) ?_
    refine G_val rfl rfl rfl rfl (V_pickF rfl rfl rfl) ?_
    refine G_val rfl rfl rfl rfl (V_move rfl rfl) ?_
    refine G_splitD 41 rfl (fun hc5 => ?_) (fun hc5 => ?_)
    · skip
      refine G_off rfl rfl rfl rfl ?_
      refine G_off rfl rfl rfl rfl ?_
      refine G_off rfl rfl rfl rfl ?_
      refine G_off rfl rfl rfl rfl ?_
      refine G_off rfl rfl rfl rfl ?_
      refine G_val rfl rfl rfl rfl (V_pickT rfl rfl rfl) ?_
      refine G_done ?_
      refine G_then rfl ?_
      refine G_seq ?_
      refine G_region (l := [0, 1]) rfl ?_
      refine G_val rfl rfl rfl rfl (V_assign rfl rfl) ?_
      refine G_val rfl rfl rfl rfl (V_assign rfl rfl) ?_
      refine G_done ?_
      refine G_ret (post := []) Tryd.func22 rfl (RVs_cons (RV_tmp rfl) (RVs_cons (RV_tmp rfl) RVs_nil)) [] rfl ?_
      dsimp only [packed]
      first
        | (suffices hz : ls.length < manyS z by (obtain ⟨e1, e2⟩ := get_no (getOk_small (bl := ls) (e := e) hz); rw [e1, e2]; exact ⟨rfl, rfl⟩)
           omega)
        | (suffices hz : i < manyS z ∧ ¬ (openOk x = true ∧ openE x = e ∧ openI x = i) by (obtain ⟨e1, e2⟩ := get_no (getOk_bad (bl := ls) (e := e) (z := z) (i := i) hz.1 hxg hz.2); rw [e1, e2]; exact ⟨rfl, rfl⟩)
           exact ⟨by omega, by rintro ⟨x1, x2, x3⟩; first | omega | simp_all⟩)
        | (suffices hz : j < 48 * manyS z ∧ ¬ (((catD (ls.take (manyS z))).getD j 0).toNat : Int) = 0 by (obtain ⟨e1, e2⟩ := get_no (getOk_rest (bl := ls) (e := e) (z := z) (rest_not hj1 (by omega) hz.2)); rw [e1, e2]; exact ⟨rfl, rfl⟩)
           exact ⟨by omega, by assumption⟩)
        | (suffices hz : 48 * manyS z ≤ j by (obtain ⟨e1, e2⟩ := get_yes_n (bl := ls) (e := e) (z := z) (by omega) hok (catD_end hok (by omega) hj1 hz hj3); rw [e1, e2]; exact ⟨rfl, rfl⟩)
           omega)
    refine G_val rfl rfl rfl rfl (V_fieldAddr (fo := 1) rfl Tryd.underlying128 rfl infSnapG_22 rfl rfl rfl) ?_
    refine G_val rfl rfl rfl rfl (V_load1 rfl rfl (mem_at 1 rfl) rfl Tryd.underlying22 rfl) ?_
    refine G_val rfl rfl rfl rfl (V_move rfl rfl) ?_
    first
      | refine G_val rfl rfl rfl rfl ((V_conv rfl rfl Tryd.underlying3 Tryd.underlying22).int (wrap_u32 (by omega))) ?_
      | refine G_val rfl rfl rfl rfl (V_conv rfl rfl Tryd.underlying3 Tryd.underlying22) ?_
    refine G_val rfl rfl rfl rfl (V_neq rfl rfl rfl) ?_
    refine G_val rfl rfl rfl rfl (V_pickF rfl rfl rfl) ?_
    refine G_done ?_
    refine G_ifD rfl (fun hc6 => ?_) (fun hc6 => ?_)
    · skip
      refine G_seq ?_
      refine G_region (l := [0, 1]) rfl ?_
      refine G_val rfl rfl rfl rfl (V_assign rfl rfl) ?_
      refine G_val rfl rfl rfl rfl (V_assign rfl rfl) ?_
      refine G_done ?_
      refine G_ret (post := []) Tryd.func22 rfl (RVs_cons (RV_tmp rfl) (RVs_cons (RV_tmp rfl) RVs_nil)) [] rfl ?_
      dsimp only [packed]
      first
        | (suffices hz : ls.length < manyS z by (obtain ⟨e1, e2⟩ := get_no (getOk_small (bl := ls) (e := e) hz); rw [e1, e2]; exact ⟨rfl, rfl⟩)
           omega)
        | (suffices hz : i < manyS z ∧ ¬ (openOk x = true ∧ openE x = e ∧ openI x = i) by (obtain ⟨e1, e2⟩ := get_no (getOk_bad (bl := ls) (e := e) (z := z) (i := i) hz.1 hxg hz.2); rw [e1, e2]; exact ⟨rfl, rfl⟩)
           exact ⟨by omega, by rintro ⟨x1, x2, x3⟩; first | omega | simp_all⟩)
        | (suffices hz : j < 48 * manyS z ∧ ¬ (((catD (ls.take (manyS z))).getD j 0).toNat : Int) = 0 by (obtain ⟨e1, e2⟩ := get_no (getOk_rest (bl := ls) (e := e) (z := z) (rest_not hj1 (by omega) hz.2)); rw [e1, e2]; exact ⟨rfl, rfl⟩)
           exact ⟨by omega, by assumption⟩)
        | (suffices hz : 48 * manyS z ≤ j by (obtain ⟨e1, e2⟩ := get_yes_n (bl := ls) (e := e) (z := z) (by omega) hok (catD_end hok (by omega) hj1 hz hj3); rw [e1, e2]; exact ⟨rfl, rfl⟩)
           omega)
    refine G_skip ?_
    refine G_region (l := [0, 1, 2, 3, 4]) rfl ?_
    refine G_val rfl rfl rfl rfl (V_move rfl rfl) ?_
    refine G_val rfl rfl rfl rfl (V_fieldAddr (fo := 2) rfl Tryd.underlying128 rfl infSnapG_9 rfl rfl rfl) ?_
    refine G_val rfl rfl rfl rfl (V_load1 rfl rfl (mem_at 1 rfl) rfl Tryd.underlying9 rfl) ?_
    refine G_val rfl rfl rfl rfl (V_sadd rfl rfl rfl (by first | omega | (simp [wCells, kCells, wCells, kCells, wCells, kCells, wCells, kCells, wCells, kCells, wCells, kCells, laCells]; done) | (simp [wCells, kCells, wCells, kCells, wCells, kCells, wCells, kCells, wCells, kCells, wCells, kCells, laCells]; omega) | (simp [wCells, kCells, wCells, kCells, wCells, kCells, wCells, kCells, wCells, kCells, wCells, kCells, laCells] at *; omega))) ?_
    rw [← catD_next hx]
    refine G_val rfl rfl rfl rfl (V_assign rfl rfl) ?_
    refine G_done ?_
    refine G_inBlock ?_
    refine G_region (l := [0, 1, 2]) rfl ?_
    refine G_val rfl rfl rfl rfl (V_move rfl rfl) ?_
    first
      | refine G_val rfl rfl rfl rfl ((V_add rfl rfl rfl).int (wrap_i64 (by omega))) ?_
      | refine G_val rfl rfl rfl rfl (V_add rfl rfl rfl) ?_
    refine G_val rfl rfl rfl rfl (V_assign rfl rfl) ?_
    refine G_done ?_
    refine G_sub ?_ [] ?_ (ih (i + 1) ?_ ?_)
    · (refine (And.intro ?_ (And.intro ?_ (And.intro ?_ (And.intro ?_ (And.intro ?_ trivial))))) <;> first | rfl | exact slot_int (by omega) | exact slot_int (by simp))
    · exact ⟨_, rfl⟩
    · exact ⟨by omega, okTo_next hok (by rw [hxg]; exact okB_iff.2 ⟨by simp_all, by omega, by omega⟩)⟩
    · (first | omega | (dsimp only; omega))
  refine G_exit rfl ?_
  refine G_seq ?_
  refine G_seq ?_
  obtain rfl : i = manyS z := by omega
  have hcl := okTo_len hok (by omega)
  refine G_region (l := [0, 1]) rfl ?_
  refine G_val rfl rfl rfl rfl (V_move rfl rfl) ?_
  refine G_val rfl rfl rfl rfl (V_assign rfl rfl) ?_
  refine G_done ?_
  refine G_block ?_
  refine G_sub ?he12 [] ?hl12 (G_loop (X := Nat) (fun j => z ≤ j ∧ (j ≤ 48 * manyS z ∨ j = z) ∧ ∀ t, z ≤ t → t < j → t < 48 * manyS z → (catD (ls.take (manyS z))).getD t 0 = 0) (fun j => 48 * manyS z - j) (fun j => [(2, .int .i64 (z : Int)), (8, .string (bs (catD (ls.take (manyS z))))), (11, .int .i64 (j : Int))]) (fun j => []) ?round12 z ?h012)
  case he12 => exact (And.intro rfl (And.intro rfl (And.intro rfl trivial)))
  case hl12 => exact ⟨_, rfl⟩
  case h012 => exact ⟨Nat.le_refl _, .inr rfl, fun t h1 h2 => by omega⟩
  case round12 =>
   intro j hJ ih
   try dsimp only at hJ ih
   obtain ⟨hj1, hj2, hj3⟩ := hJ
   refine G_seq ?_
   refine G_seq ?_
   refine G_region (l := [0, 1, 2, 3]) rfl ?_
   refine G_val rfl rfl rfl rfl (V_move rfl rfl) ?_
   refine G_val rfl rfl rfl rfl (V_move rfl rfl) ?_
   refine G_val rfl rfl rfl rfl (V_slen rfl rfl Tryd.underlying9 rfl) ?_
   refine G_val rfl rfl rfl rfl (V_lss rfl rfl rfl) ?_
   refine G_done ?_
   refine G_ifD rfl (fun hc4 => ?_) (fun hc4 => ?_)
   · skip
     refine G_skip ?_
     refine G_seq ?_
     refine G_block ?_
     refine G_seq ?_
     have hj48 : j < 48 * manyS z := by omega
     refine G_region (l := [0, 1, 2, 3]) rfl ?_
     refine G_val rfl rfl rfl rfl (V_move rfl rfl) ?_
     refine G_val rfl rfl rfl rfl (V_move rfl rfl) ?_
     first
       | refine G_val rfl rfl rfl rfl (V_sindexN rfl Tryd.underlying9 rfl rfl rfl (by omega)) ?_
       | refine G_val rfl rfl rfl rfl (V_sindexD rfl Tryd.underlying9 rfl rfl (by omega) (by first | omega | (simp [wCells, kCells, wCells, kCells, wCells, kCells, wCells, kCells, wCells, kCells, wCells, kCells, laCells]; done) | (simp [wCells, kCells, wCells, kCells, wCells, kCells, wCells, kCells, wCells, kCells, wCells, kCells, laCells]; omega) | (simp [wCells, kCells, wCells, kCells, wCells, kCells, wCells, kCells, wCells, kCells, wCells, kCells, laCells] at *; omega))) ?_
     refine G_val rfl rfl rfl rfl (V_neq rfl rfl rfl) ?_
     refine G_done ?_
     refine G_ifD rfl (fun hc5 => ?_) (fun hc5 => ?_)
     · skip
       refine G_seq ?_
       refine G_region (l := [0, 1]) rfl ?_
       refine G_val rfl rfl rfl rfl (V_assign rfl rfl) ?_
       refine G_val rfl rfl rfl rfl (V_assign rfl rfl) ?_
       refine G_done ?_
       refine G_ret (post := []) Tryd.func22 rfl (RVs_cons (RV_tmp rfl) (RVs_cons (RV_tmp rfl) RVs_nil)) [] rfl ?_
       dsimp only [packed]
       first
         | (suffices hz : ls.length < manyS z by (obtain ⟨e1, e2⟩ := get_no (getOk_small (bl := ls) (e := e) hz); rw [e1, e2]; exact ⟨rfl, rfl⟩)
            omega)
         | (suffices hz : i < manyS z ∧ ¬ (openOk x = true ∧ openE x = e ∧ openI x = i) by (obtain ⟨e1, e2⟩ := get_no (getOk_bad (bl := ls) (e := e) (z := z) (i := i) hz.1 hxg hz.2); rw [e1, e2]; exact ⟨rfl, rfl⟩)
            exact ⟨by omega, by rintro ⟨x1, x2, x3⟩; first | omega | simp_all⟩)
         | (suffices hz : j < 48 * manyS z ∧ ¬ (((catD (ls.take (manyS z))).getD j 0).toNat : Int) = 0 by (obtain ⟨e1, e2⟩ := get_no (getOk_rest (bl := ls) (e := e) (z := z) (rest_not hj1 (by omega) hz.2)); rw [e1, e2]; exact ⟨rfl, rfl⟩)
            exact ⟨by omega, by assumption⟩)
         | (suffices hz : 48 * manyS z ≤ j by (obtain ⟨e1, e2⟩ := get_yes_n (bl := ls) (e := e) (z := z) (by omega) hok (catD_end hok (by omega) hj1 hz hj3); rw [e1, e2]; exact ⟨rfl, rfl⟩)
            omega)
     refine G_skip ?_
     refine G_inBlock ?_
     refine G_region (l := [0, 1, 2]) rfl ?_
     refine G_val rfl rfl rfl rfl (V_move rfl rfl) ?_
     first
       | refine G_val rfl rfl rfl rfl ((V_add rfl rfl rfl).int (wrap_i64 (by omega))) ?_
       | refine G_val rfl rfl rfl rfl (V_add rfl rfl rfl) ?_
     refine G_val rfl rfl rfl rfl (V_assign rfl rfl) ?_
     refine G_done ?_
     refine G_sub ?_ [] ?_ (ih (j + 1) ?_ ?_)
     · (refine (And.intro ?_ (And.intro ?_ (And.intro ?_ trivial))) <;> first | rfl | exact slot_int (by omega) | exact slot_int (by simp))
     · exact ⟨_, rfl⟩
     · exact ⟨by omega, by omega, fun t h1 h2 h3 => by rcases Nat.lt_or_ge t j with h4 | h4; exact hj3 t h1 h4 h3; obtain rfl : t = j := (by omega); exact byte_zero (Classical.not_not.1 (by assumption))⟩
     · omega
   refine G_exit rfl ?_
   refine G_seq ?_
   refine G_region (l := [0, 1, 2, 3, 4]) rfl ?_
   refine G_val rfl rfl rfl rfl (V_move rfl rfl) ?_
   refine G_val rfl rfl rfl rfl (V_move rfl rfl) ?_
   first
     | refine G_val rfl rfl rfl rfl (V_ssliceHN (hi := _) rfl Tryd.underlying9 rfl rfl rfl (by first | omega | (simp [wCells, kCells, wCells, kCells, wCells, kCells, wCells, kCells, wCells, kCells, wCells, kCells, laCells]; done) | (simp [wCells, kCells, wCells, kCells, wCells, kCells, wCells, kCells, wCells, kCells, wCells, kCells, laCells]; omega) | (simp [wCells, kCells, wCells, kCells, wCells, kCells, wCells, kCells, wCells, kCells, wCells, kCells, laCells] at *; omega))) ?_
     | refine G_val rfl rfl rfl rfl (V_ssliceH rfl Tryd.underlying9 rfl rfl (by first | omega | (simp [wCells, kCells, wCells, kCells, wCells, kCells, wCells, kCells, wCells, kCells, wCells, kCells, laCells]; done) | (simp [wCells, kCells, wCells, kCells, wCells, kCells, wCells, kCells, wCells, kCells, wCells, kCells, laCells]; omega) | (simp [wCells, kCells, wCells, kCells, wCells, kCells, wCells, kCells, wCells, kCells, wCells, kCells, laCells] at *; omega)) (by first | omega | (simp [wCells, kCells, wCells, kCells, wCells, kCells, wCells, kCells, wCells, kCells, wCells, kCells, laCells]; done) | (simp [wCells, kCells, wCells, kCells, wCells, kCells, wCells, kCells, wCells, kCells, wCells, kCells, laCells]; omega) | (simp [wCells, kCells, wCells, kCells, wCells, kCells, wCells, kCells, wCells, kCells, wCells, kCells, laCells] at *; omega))) ?_
   refine G_val rfl rfl rfl rfl (V_assign rfl rfl) ?_
   refine G_val rfl rfl rfl rfl (V_assign rfl rfl) ?_
   refine G_done ?_
   refine G_ret (post := []) Tryd.func22 rfl (RVs_cons (RV_tmp rfl) (RVs_cons (RV_tmp rfl) RVs_nil)) [] rfl ?_
   dsimp only [packed]
   first
     | (suffices hz : ls.length < manyS z by (obtain ⟨e1, e2⟩ := get_no (getOk_small (bl := ls) (e := e) hz); rw [e1, e2]; exact ⟨rfl, rfl⟩)
        omega)
     | (suffices hz : i < manyS z ∧ ¬ (openOk x = true ∧ openE x = e ∧ openI x = i) by (obtain ⟨e1, e2⟩ := get_no (getOk_bad (bl := ls) (e := e) (z := z) (i := i) hz.1 hxg hz.2); rw [e1, e2]; exact ⟨rfl, rfl⟩)
        exact ⟨by omega, by rintro ⟨x1, x2, x3⟩; first | omega | simp_all⟩)
     | (suffices hz : j < 48 * manyS z ∧ ¬ (((catD (ls.take (manyS z))).getD j 0).toNat : Int) = 0 by (obtain ⟨e1, e2⟩ := get_no (getOk_rest (bl := ls) (e := e) (z := z) (rest_not hj1 (by omega) hz.2)); rw [e1, e2]; exact ⟨rfl, rfl⟩)
        exact ⟨by omega, by assumption⟩)
     | (suffices hz : 48 * manyS z ≤ j by (obtain ⟨e1, e2⟩ := get_yes_n (bl := ls) (e := e) (z := z) (by omega) hok (catD_end hok (by omega) hj1 hz hj3); rw [e1, e2]; exact ⟨rfl, rfl⟩)
        omega)

set_option maxRecDepth 100000 in
set_option maxHeartbeats 1000000 in
theorem rsn_get_neg (x y : Value) (ls : List (List UInt8)) (e : Nat) (z : Int) (hzn : z < 0) :
    Ct Tryd.prog 22 [x, y, .int .i64 z] [] [] fun v post => v = .tuple #[.string (bs (getT ls e z)), .int .i64 (getE ls e z)] ∧ post = [] := by
 refine ct_of Tryd.func22 rfl rfl (fun w0 => ?_)
 show G _ _ [(0, _), (1, _), (2, _)] _ _
 refine G_seq ?_
 refine G_region (l := [0, 1]) rfl ?_
 refine G_val rfl rfl rfl rfl (V_assign rfl rfl) ?_
 refine G_val rfl rfl rfl rfl (V_assign rfl rfl) ?_
 refine G_done ?_
 refine G_seq ?_
 refine G_seq ?_
 refine G_region (l := [0, 1, 2, 3, 4, 5, 6, 7, 8]) rfl ?_
 refine G_val rfl rfl rfl rfl (V_move rfl rfl) ?_
 refine G_val rfl rfl rfl rfl (V_lss rfl rfl rfl) ?_
 refine G_val rfl rfl rfl rfl (V_move rfl rfl) ?_
 refine G_splitD 14 rfl (fun hc1 => ?_) (fun hc1 => ?_)
 rotate_left
 · (first | (exact absurd rfl hc1) | (exact absurd hc1 (by decide)) | (exact absurd (by decide) hc1) | (exfalso; omega))
 refine G_off rfl rfl rfl rfl ?_
 refine G_off rfl rfl rfl rfl ?_
 refine G_off rfl rfl rfl rfl ?_
 refine G_off rfl rfl rfl rfl ?_
 refine G_off rfl rfl rfl rfl ?_
 refine G_val rfl rfl rfl rfl (V_pickT rfl rfl rfl) ?_
 refine G_done ?_
 refine G_then rfl ?_
 refine G_seq ?_
 refine G_region (l := [0, 1]) rfl ?_
 refine G_val rfl rfl rfl rfl (V_assign rfl rfl) ?_
 refine G_val rfl rfl rfl rfl (V_assign rfl rfl) ?_
 refine G_done ?_
 refine G_ret (post := []) Tryd.func22 rfl (RVs_cons (RV_tmp rfl) (RVs_cons (RV_tmp rfl) RVs_nil)) [] rfl ?_
 dsimp only [packed]
 obtain ⟨e1, e2⟩ := get_no (bl := ls) (e := e) (getOk_neg hzn); rw [e1, e2]; exact ⟨rfl, rfl⟩


theorem rsn_get (o1 : Option Nat) (p1 q1 : Nat) (c1 : Array Value) (T1 : TypeId) (f1 : Nat × Nat) (ls : List (List UInt8)) (hs : Sees 1 o1 p1 q1 c1 (ls.map strC) ls.length) (hl : ∀ b ∈ ls, b.length = 64) (hn : ls.length ≤ 100000) (e : Nat) (z : Int) (he : e < 4294967296) (hz : z ≤ 1000000) : Ct Tryd.prog 22 [sv o1 p1 ls.length q1, .int .u32 (e : Int), .int .i64 z] [(o1, .cells c1 T1 f1)] [] (fun v post => v = .tuple #[.string (bs (getT ls e z)), .int .i64 (getE ls e z)] ∧ post = []) := by
  rcases Int.lt_or_le z 0 with h | h
  · have hq := rsn_get_neg (sv o1 p1 ls.length q1) (.int .u32 (e : Int)) ls e z h
    exact fun w0 hw => hq w0 ⟨fun _ _ h => (by cases h), hw.apart, hw.lies, fun _ h => (by cases h)⟩
  · obtain ⟨m, rfl⟩ := Int.eq_ofNat_of_zero_le h
    exact rsn_getN o1 p1 q1 c1 T1 f1 ls hs hl hn e m he (by omega)
theorem rsn_getL (l : List La) (v : Sl) (hv : Own 1 v ((layBs l).map strC) l.length) (hn : l.length ≤ 20) (e : Nat) (z : Int) (he : e < 4294967296) (hz : z ≤ 1000000) : Ct Tryd.prog 22 [v.v l.length, .int .u32 (e : Int), .int .i64 z] [(v.ob, .cells v.cs 9 v.fz)] [] (fun w post => w = .tuple #[.string (bs (getT (layBs l) e z)), .int .i64 (getE (layBs l) e z)] ∧ post = []) := by
  have h := rsn_get v.ob 0 v.cap v.cs 9 v.fz (layBs l) (by rw [layBs_len]; exact hv.sees) (layBs_64 l) (by rw [layBs_len]; omega) e z he hz
  rw [layBs_len] at h
  exact h

end
end Go.Proofs.YtbblkgdejgoncaaDoor
