/- The law SnapPuts: any text that is put on any region of a disk of twenty blocks makes of it, block by block, what the document makes, or the program says why it does not; what was put is got; the call returns true and leaves its arguments as they were. -/
import Derived.Test.YtbblkgdejgoncaaDoorSnapL
import Derived.Test.YtbblkgdejgoncaaDoorLawT
set_option linter.unusedSimpArgs false
set_option linter.unusedVariables false
namespace Go.Proofs.YtbblkgdejgoncaaDoor
open Go.ChangeShapes Go.WideShapes Go.ChangeAt Go.RowKit

section
theorem infLawSnapPuts_3 : Tryd.prog.info? 3 = some Tryd.t3 := by kernel_rfl
theorem infLawSnapPuts_9 : Tryd.prog.info? 9 = some Tryd.t9 := by kernel_rfl
theorem infLawSnapPuts_22 : Tryd.prog.info? 22 = some Tryd.t22 := by kernel_rfl


theorem pad_nextS (s : List UInt8) (k : Nat) : s ++ List.replicate k 0 ++ [0] = s ++ List.replicate (k + 1) 0 := by
  rw [List.append_assoc]; congr 1; exact (List.replicate_succ' ..).symm
theorem mul48l (i : Nat) (h : i ≤ 1000000) : IntKind.i64.wrap ((48 : Int) * (i : Int)) = ((i * 48 : Nat) : Int) := by rw [wrap_i64 (by omega)]; omega
theorem add48l (i : Nat) (h : i ≤ 1000000) : IntKind.i64.wrap (((i * 48 : Nat) : Int) + 48) = (((i + 1) * 48 : Nat) : Int) := by rw [wrap_i64 (by omega)]; omega
def blksTo (e : Nat) (s : List UInt8) (i : Nat) : List (List UInt8) := (List.range i).map (blkS e s)
theorem blksTo_next (e : Nat) (s : List UInt8) (i : Nat) : (blksTo e s i).map strC ++ [strC (blkS e s i)] = (blksTo e s (i + 1)).map strC := by
  unfold blksTo; rw [List.range_succ, List.map_append, List.map_append]; rfl

set_option maxRecDepth 100000 in
set_option maxHeartbeats 1000000 in
theorem rsn_blocks (s : List UInt8) (e : Nat) (hs : s.length ≤ 1000000) (he : e < 4294967296) (he0 : 0 < e) :
    Ct Tryd.prog 28 [.string (bs s), .int .u32 (e : Int)] [] [] fun v post => ∃ u : Sl, Own 1 u ((blksS e s).map strC) (manyS s.length) ∧ v = u.v (manyS s.length) ∧ post = [(u.ob, .cells u.cs 9 u.fz)] := by
 have hroom := manyS_room s.length
 have hpl := padS_len s
 refine ct_of Tryd.func28 rfl rfl (fun w0 => ?_)
 show G _ _ [(0, _), (1, _)] _ _
 refine G_seq ?_
 refine G_region (l := [0]) rfl ?_
 refine G_val rfl rfl rfl rfl (V_assign rfl rfl) ?_
 refine G_done ?_
 refine G_seq ?_
 refine G_region (l := [0, 1]) rfl ?_
 refine G_val rfl rfl rfl rfl (V_move rfl rfl) ?_
 refine G_val rfl rfl rfl rfl (V_assign rfl rfl) ?_
 refine G_done ?_
 refine G_seq ?_
 refine G_block ?_
 refine G_sub ?he2 [] ?hl2 (G_loop (X := Nat) (fun k => s.length + k ≤ 48 * manyS s.length) (fun k => 48 * manyS s.length - (s.length + k)) (fun k => [(0, .string (bs s)), (1, .int .u32 (e : Int)), (5, .string (bs (s ++ List.replicate k 0)))]) (fun k => []) ?round2 0 ?h02)
 case he2 => refine (And.intro rfl (And.intro rfl (And.intro (by simp; rfl) trivial)))
 case hl2 => exact ⟨_, rfl⟩
 case h02 => omega
 case round2 =>
  intro k hJ ih
  try dsimp only at hJ ih
  refine G_seq ?_
  refine G_seq ?_
  refine G_region (l := [0, 1, 2, 3, 4, 5, 6]) rfl ?_
  refine G_val rfl rfl rfl rfl (V_move rfl rfl) ?_
  refine G_val rfl rfl rfl rfl (V_slen rfl rfl Tryd.underlying9 rfl) ?_
  refine G_val rfl rfl rfl rfl (V_move rfl rfl) ?_
  refine G_val rfl rfl rfl rfl (V_slen rfl rfl Tryd.underlying9 rfl) ?_
  refine G_call (L2 := []) rfl rfl rfl rfl rfl rfl Tryd.call25 (rsn_many _ (by first | omega | (simp [wCells, kCells, wCells, kCells, wCells, kCells, wCells, kCells, wCells, kCells, wCells, kCells]; done) | (simp [wCells, kCells, wCells, kCells, wCells, kCells, wCells, kCells, wCells, kCells, wCells, kCells]; omega) | (simp [wCells, kCells, wCells, kCells, wCells, kCells, wCells, kCells, wCells, kCells, wCells, kCells] at *; omega))) [] [] rfl rfl ?_
  rintro v post ⟨rfl, rfl⟩
  first
    | refine G_val rfl rfl rfl rfl ((V_mul rfl rfl rfl).int (wrap_i64 (by omega))) ?_
    | refine G_val rfl rfl rfl rfl (V_mul rfl rfl rfl) ?_
  refine G_val rfl rfl rfl rfl (V_lss rfl rfl rfl) ?_
  refine G_done ?_
  refine G_ifD rfl (fun hc1 => ?_) (fun hc1 => ?_)
  · skip
    refine G_skip ?_
    refine G_block ?_
    refine G_region (l := [0, 1, 2]) rfl ?_
    refine G_val rfl rfl rfl rfl (V_move rfl rfl) ?_
    refine G_val rfl rfl rfl rfl (V_sadd rfl rfl rfl (by first | omega | (simp [wCells, kCells, wCells, kCells, wCells, kCells, wCells, kCells, wCells, kCells, wCells, kCells]; done) | (simp [wCells, kCells, wCells, kCells, wCells, kCells, wCells, kCells, wCells, kCells, wCells, kCells]; omega) | (simp [wCells, kCells, wCells, kCells, wCells, kCells, wCells, kCells, wCells, kCells, wCells, kCells] at *; omega))) ?_
    refine G_val rfl rfl rfl rfl (V_assign rfl rfl) ?_
    refine G_done ?_
    refine G_inBlock ?_
    refine G_sub ?_ [] ?_ (ih (k + 1) ?_ ?_)
    · (refine (And.intro rfl (And.intro rfl (And.intro (slot_str (pad_nextS s k)) trivial))))
    · exact ⟨_, rfl⟩
    · (simp only [List.length_append, List.length_replicate] at *; omega)
    · (simp only [List.length_append, List.length_replicate] at *; omega)
  refine G_exit rfl ?_
  refine G_seq ?_
  obtain rfl : k = 48 * manyS s.length - s.length := by simp only [List.length_append, List.length_replicate] at *; omega
  rw [pad_app s rfl]
  refine G_region (l := [0, 1]) rfl ?_
  refine G_new rfl rfl rfl rfl (N_build0 rfl Tryd.underlying24 infLawSnapPuts_9) (fun b20 => ?_)
  refine G_val rfl rfl rfl rfl (V_assign rfl rfl) ?_
  refine G_done ?_
  refine G_seq ?_
  refine G_seq ?_
  refine G_region (l := [0]) rfl ?_
  refine G_val rfl rfl rfl rfl (V_assign rfl rfl) ?_
  refine G_done ?_
  refine G_block ?_
  refine G_sub ?he6 [0] ?hl6 (G_loop (X := Nat × Sl) (fun x => match x with | ⟨i, u⟩ => i ≤ manyS s.length ∧ Own 1 u ((blksTo e s i).map strC) i) (fun x => match x with | ⟨i, u⟩ => manyS s.length - i) (fun x => match x with | ⟨i, u⟩ => [(0, .string (bs s)), (1, .int .u32 (e : Int)), (5, .string (bs (padS s))), (6, u.v i), (7, .int .i64 (i : Int))]) (fun x => match x with | ⟨i, u⟩ => [(u.ob, .cells u.cs 9 u.fz)]) ?round6 (0, ⟨some b20, #[], (0, 0), 0⟩) ?h06)
  case he6 => exact (And.intro rfl (And.intro rfl (And.intro rfl (And.intro rfl (And.intro rfl trivial)))))
  case hl6 => exact ⟨_, rfl⟩
  case h06 => exact ⟨Nat.zero_le _, own_empty 1 b20⟩
  case round6 =>
   intro x hJ ih
   try dsimp only at hJ ih
   obtain ⟨i, u⟩ := x
   try dsimp only at hJ ih
   obtain ⟨hi, hux⟩ := hJ
   show G _ _ [(0, .string (bs s)), (1, .int .u32 (e : Int)), (5, .string (bs (padS s))), (6, u.v i), (7, .int .i64 (i : Int))] [(u.ob, .cells u.cs 9 u.fz)] _
   refine G_seq ?_
   refine G_seq ?_
   refine G_region (l := [0, 1, 2, 3, 4]) rfl ?_
   refine G_val rfl rfl rfl rfl (V_move rfl rfl) ?_
   refine G_val rfl rfl rfl rfl (V_move rfl rfl) ?_
   refine G_val rfl rfl rfl rfl (V_slen rfl rfl Tryd.underlying9 rfl) ?_
   refine G_call (L2 := [_]) rfl rfl rfl rfl rfl rfl Tryd.call25 (rsn_many _ (by first | omega | (simp [wCells, kCells, wCells, kCells, wCells, kCells, wCells, kCells, wCells, kCells, wCells, kCells]; done) | (simp [wCells, kCells, wCells, kCells, wCells, kCells, wCells, kCells, wCells, kCells, wCells, kCells]; omega) | (simp [wCells, kCells, wCells, kCells, wCells, kCells, wCells, kCells, wCells, kCells, wCells, kCells] at *; omega))) [] [] rfl rfl ?_
   rintro v post ⟨rfl, rfl⟩
   show G _ _ _ [_] _
   refine G_val rfl rfl rfl rfl (V_lss rfl rfl rfl) ?_
   refine G_done ?_
   refine G_ifD rfl (fun hc2 => ?_) (fun hc2 => ?_)
   · skip
     refine G_skip ?_
     refine G_seq ?_
     refine G_block ?_
     refine G_seq ?_
     have hxE := blkS_E s he0 (show i < manyS s.length by omega)
     have hx48 := pieceS_len s (show i < manyS s.length by omega)
     refine G_region (l := [0, 1, 2, 3, 4, 5, 6, 7, 8, 9, 10, 11, 12, 13, 14, 15]) rfl ?_
     refine G_val rfl rfl rfl rfl (V_move rfl rfl) ?_
     refine G_val rfl rfl rfl rfl (V_move rfl rfl) ?_
     first
       | refine G_val rfl rfl rfl rfl ((V_conv rfl rfl Tryd.underlying3 Tryd.underlying22).int (wrap_u32 (by omega))) ?_
       | refine G_val rfl rfl rfl rfl (V_conv rfl rfl Tryd.underlying3 Tryd.underlying22) ?_
     refine G_val rfl rfl rfl rfl (V_move rfl rfl) ?_
     refine G_val rfl rfl rfl rfl (V_move rfl rfl) ?_
     refine G_val rfl rfl rfl rfl (Val.int (e' := ((i * 48 : Nat) : Int)) (V_mul rfl rfl rfl) (mul48l i (by omega))) ?_
     refine G_val rfl rfl rfl rfl (V_move rfl rfl) ?_
     refine G_val rfl rfl rfl rfl (Val.int (e' := ((i * 48 : Nat) : Int)) (V_mul rfl rfl rfl) (mul48l i (by omega))) ?_
     refine G_val rfl rfl rfl rfl (Val.int (e' := (((i + 1) * 48 : Nat) : Int)) (V_add rfl rfl rfl) (add48l i (by omega))) ?_
     refine G_val rfl rfl rfl rfl (V_ssliceN (lo := i * 48) (hi := (i + 1) * 48) rfl Tryd.underlying9 rfl rfl rfl rfl rfl (by omega) (by omega)) ?_
     rw [piece_cutS]
     refine G_call (L2 := [_]) rfl rfl rfl rfl rfl rfl Tryd.call62 ((rseal_seal e i (pieceS s i) he (by omega) (by omega)).weaken (fun v post h => by rw [hxE] at h; exact h)) [] [] rfl rfl ?_
     rintro v post ⟨rfl, rfl⟩
     show G _ _ _ [_] _
     refine G_val rfl rfl rfl rfl (V_move rfl rfl) ?_
     refine G_val rfl rfl rfl rfl (V_extract rfl rfl rfl) ?_
     refine G_val rfl rfl rfl rfl (V_extract rfl rfl rfl) ?_
     refine G_val rfl rfl rfl rfl (V_assign rfl rfl) ?_
     refine G_val rfl rfl rfl rfl (V_assign rfl rfl) ?_
     refine G_done ?_
     rw [show sealL e i (pieceS s i) = blkS e s i from rfl]
     refine G_region (l := [0, 1, 2, 3, 4]) rfl ?_
     refine G_val rfl rfl rfl rfl (V_move rfl rfl) ?_
     refine G_val rfl rfl rfl rfl (V_move rfl rfl) ?_
     refine G_new rfl rfl rfl rfl (N_buildAll (s := 1) (cs := [_]) rfl Tryd.underlying24 infLawSnapPuts_9 rfl rfl rfl rfl rfl rfl rfl rfl rfl) (fun b44 => ?_)
     refine G_append (l1 := [_]) (s := u) (nn := i) (m := 1) (news := [strC (blkS e s i)]) (bt := 16) rfl rfl rfl rfl Tryd.underlying24 Tryd.underlying24 (by first | exact .inl rfl | exact .inr ⟨_, rfl⟩) infLawSnapPuts_9 rfl rfl rfl rfl rfl rfl hux rfl (src_mem (mem_at 0 rfl) rfl rfl (by simp [strC, Value.oneCell'])) (by omega) (by omega) ?_
     intro u1 hu1 _
     show G _ _ _ [_, _] _
     refine G_val rfl rfl rfl rfl (V_assign rfl rfl) ?_
     refine G_done ?_
     refine G_inBlock ?_
     refine G_region (l := [0, 1, 2]) rfl ?_
     refine G_val rfl rfl rfl rfl (V_move rfl rfl) ?_
     first
       | refine G_val rfl rfl rfl rfl ((V_add rfl rfl rfl).int (wrap_i64 (by omega))) ?_
       | refine G_val rfl rfl rfl rfl (V_add rfl rfl rfl) ?_
     refine G_val rfl rfl rfl rfl (V_assign rfl rfl) ?_
     refine G_done ?_
     refine G_sub ?_ [1] ?_ (ih (i + 1, u1) ?_ ?_)
     · (refine (And.intro ?_ (And.intro ?_ (And.intro ?_ (And.intro ?_ (And.intro ?_ trivial))))) <;> first | rfl | exact slot_int (by omega) | exact slot_int (by simp))
     · exact ⟨_, rfl⟩
     · exact ⟨by omega, by rw [← blksTo_next]; exact hu1⟩
     · (first | omega | (dsimp only; omega))
   refine G_exit rfl ?_
   refine G_seq ?_
   refine G_region (l := [0, 1]) rfl ?_
   refine G_val rfl rfl rfl rfl (V_move rfl rfl) ?_
   refine G_val rfl rfl rfl rfl (V_assign rfl rfl) ?_
   refine G_done ?_
   refine G_ret (post := [_]) Tryd.func28 rfl (RVs_cons (RV_tmp rfl) RVs_nil) [0] rfl ?_
   dsimp only [packed]
   obtain rfl : i = manyS s.length := by omega
   exact ⟨u, hux, rfl, rfl⟩


theorem regE_20 {f b : Int} {e : Nat} (h : regE 20 f b e = 0) : 0 ≤ f ∧ 1 ≤ b ∧ f + b ≤ 20 ∧ 0 < e := by rw [regE_ok] at h; omega
theorem put_len20 {f b : Int} {e : Nat} {s : List UInt8} : (putK (newD 20) f b e s).L.length = 20 := by rw [put_len]; simp [newD]
theorem new_len (n : Nat) : (newD n).L.length = n := by simp [newD]
/-- What the law says, block by block. -/
theorem puts_read {f b : Int} {e : Nat} {s : List UInt8} (hr : regE 20 f b e = 0) (hm : (manyS s.length : Int) ≤ b) (i : Nat) (hi : i < 20) :
    (putK (newD 20) f b e s).readE (i : Int) = 0 ∧ (putK (newD 20) f b e s).readS (i : Int) = if f ≤ (i : Int) ∧ (i : Int) - f < (manyS s.length : Int) then blkS e s (i - f.toNat) else zs64 := by
  obtain ⟨h1, h2, h3, h4⟩ := regE_20 hr
  obtain ⟨g, rfl⟩ := Int.eq_ofNat_of_zero_le h1
  have hn := newD_ok 20 (by omega) (by omega)
  obtain ⟨e1, e2, e3, e4, e5⟩ := view_put (k := newD 20) (s := s) hn (newD_lively 20) (by rw [new_len]; exact hr) hm
  obtain ⟨r1, r2⟩ := read_view (put_ok hn (g : Int) b e s) e2.dead (i := i) (by rw [put_len, new_len]; exact hi)
  refine ⟨r2, ?_⟩
  rw [r1, e5 i (by rw [new_len]; exact hi), Int.toNat_natCast]
  by_cases hc : g ≤ i ∧ i < g + manyS s.length
  · rw [if_pos hc, if_pos (by omega)]
  · rw [if_neg hc, if_neg (by omega)]
    show (List.replicate 20 (List.replicate 64 (0 : UInt8))).getD i [] = _
    rw [List.getD_eq_getElem?_getD, List.getElem?_replicate, if_pos hi]; rfl
theorem puts_got {f b : Int} {e : Nat} {s : List UInt8} (he : e < 4294967296) (hr : regE 20 f b e = 0) (hm : (manyS s.length : Int) ≤ b) :
    putE (newD 20) f b e s = 0 ∧ (putK (newD 20) f b e s).dead = false ∧ gotT (putK (newD 20) f b e s) f b e (s.length : Int) = s ∧ gotE (putK (newD 20) f b e s) f b e (s.length : Int) = 0 := by
  obtain ⟨h1, h2, h3, h4⟩ := regE_20 hr
  obtain ⟨g, rfl⟩ := Int.eq_ofNat_of_zero_le h1
  have hn := newD_ok 20 (by omega) (by omega)
  obtain ⟨e1, e2, _⟩ := view_put (k := newD 20) (s := s) hn (newD_lively 20) (by rw [new_len]; exact hr) hm
  obtain ⟨a, c⟩ := put_got (k := newD 20) (s := s) hn (newD_lively 20) he (by rw [new_len]; exact hr) hm
  exact ⟨e1, e2.dead, a, c⟩
/-- The three ways of a Put. -/
theorem puts_cases (f b : Int) (e : Nat) (s : List UInt8) : (¬ regE 20 f b e = 0 ∧ putE (newD 20) f b e s = 1 ∧ regE 20 f b e = 1 ∧ (putK (newD 20) f b e s).W.length = 0) ∨ (regE 20 f b e = 0 ∧ b < (manyS s.length : Int) ∧ putE (newD 20) f b e s = 17 ∧ (putK (newD 20) f b e s).W.length = 0) ∨ (regE 20 f b e = 0 ∧ (manyS s.length : Int) ≤ b ∧ putE (newD 20) f b e s = 0) := by
  by_cases h : regE 20 f b e = 0
  · rcases Int.lt_or_le b (manyS s.length : Int) with h1 | h1
    · obtain ⟨e1, e2⟩ := put_full (k := newD 20) (s := s) (f := f) (b := b) (e := e) (by rw [new_len]; exact h) h1
      exact .inr (.inl ⟨h, h1, e2, by rw [e1]; rfl⟩)
    · obtain ⟨h1', h2, h3, h4⟩ := regE_20 h
      obtain ⟨g, rfl⟩ := Int.eq_ofNat_of_zero_le h1'
      obtain ⟨e1, _⟩ := view_put (k := newD 20) (s := s) (newD_ok 20 (by omega) (by omega)) (newD_lively 20) (by rw [new_len]; exact h) h1
      exact .inr (.inr ⟨h, h1, e1⟩)
  · obtain ⟨e1, e2⟩ := put_no (k := newD 20) (s := s) (f := f) (b := b) (e := e) (by rw [new_len]; exact h)
    exact .inl ⟨h, e2, regE_one h, by rw [e1]; rfl⟩
theorem new_W (n : Nat) : (newD n).W.length ≤ 100000 := Nat.zero_le _
attribute [local irreducible] putK putE gotT gotE newD

set_option maxRecDepth 100000 in
set_option maxHeartbeats 4000000 in
theorem snapPuts_all (f b : Int) (e : Nat) (s : List UInt8) (hf0 : -9223372036854775808 ≤ f) (hf1 : f ≤ 9223372036854775807) (hb0 : -9223372036854775808 ≤ b) (hb1 : b ≤ 9223372036854775807) (he : e < 4294967296) (hsl : s.length ≤ 9223372036854775807) :
    Ct Tryd.prog 6 [.agg #[.int .i64 f, .int .i64 b, .int .u32 (e : Int)], .string (bs s)] [] [] fun v post => v = .bool true ∧ post = [] := by
 refine ct_of Tryd.func6 rfl rfl (fun w0 => ?_)
 show G _ _ [(0, _), (1, _)] _ _
 refine G_seq ?_
 refine G_region (l := [0, 1]) rfl ?_
 refine G_new rfl rfl rfl rfl (N_boxA rfl rfl) (fun b2 => ?_)
 refine G_val rfl rfl rfl rfl (V_assign rfl rfl) ?_
 refine G_done ?_
 refine G_seq ?_
 refine G_seq ?_
 refine G_region (l := [0, 1, 2]) rfl ?_
 refine G_val rfl rfl rfl rfl (V_move rfl rfl) ?_
 refine G_val rfl rfl rfl rfl (V_slen rfl rfl Tryd.underlying9 rfl) ?_
 refine G_val rfl rfl rfl rfl (V_gtr rfl rfl rfl) ?_
 refine G_done ?_
 refine G_ifD rfl (fun hc1 => ?_) (fun hc1 => ?_)
 · skip
   refine G_seq ?_
   refine G_region (l := [0, 1]) rfl ?_
   refine G_call (L2 := [_]) rfl rfl rfl rfl rfl rfl Tryd.call16 (snl_live) [] [] rfl rfl ?_
   rintro v post ⟨rfl, rfl⟩
   show G _ _ _ [_] _
   refine G_val rfl rfl rfl rfl (V_assign rfl rfl) ?_
   refine G_done ?_
   refine G_ret (post := []) Tryd.func6 rfl (RVs_cons (RV_tmp rfl) RVs_nil) [] rfl ?_
   dsimp only [packed]
   exact ⟨rfl, rfl⟩
 refine G_skip ?_
 refine G_seq ?_
 refine G_region (l := [0, 1, 2, 3, 4, 5]) rfl ?_
 refine G_call (L2 := [_]) rfl rfl rfl rfl rfl rfl Tryd.call17 (dk_new 20 (by omega) (by omega)) [] [] rfl rfl ?_
 rintro v post ⟨d, lb, lcap, lcs, rfl, h, rfl⟩
 show G _ _ _ [_, _, _, _] _
 refine G_val rfl rfl rfl rfl (V_move rfl rfl) ?_
 refine G_val rfl rfl rfl rfl (V_extract rfl rfl rfl) ?_
 refine G_val rfl rfl rfl rfl (V_extract rfl rfl rfl) ?_
 refine G_val rfl rfl rfl rfl (V_assign rfl rfl) ?_
 refine G_val rfl rfl rfl rfl (V_assign rfl rfl) ?_
 refine G_done ?_
 refine G_seq ?_
 rcases puts_cases f b e s with ⟨c1, c2, c3, c4⟩ | ⟨c1, c2, c3, c4⟩ | ⟨c1, c2, c3⟩
 · skip
   refine G_region (l := [0, 1, 2, 3, 4, 5, 6, 7, 8, 9, 10]) rfl ?_
   refine G_val rfl rfl rfl rfl (V_move rfl rfl) ?_
   refine G_val rfl rfl rfl rfl (V_fieldAddr (fo := 0) rfl Tryd.underlying48 rfl infLawSnapPuts_3 rfl rfl rfl) ?_
   refine G_val rfl rfl rfl rfl (V_load1 rfl rfl (mem_at 3 rfl) rfl Tryd.underlying3 rfl) ?_
   refine G_val rfl rfl rfl rfl (V_fieldAddr (fo := 1) rfl Tryd.underlying48 rfl infLawSnapPuts_3 rfl rfl rfl) ?_
   refine G_val rfl rfl rfl rfl (V_load1 rfl rfl (mem_at 3 rfl) rfl Tryd.underlying3 rfl) ?_
   refine G_val rfl rfl rfl rfl (V_fieldAddr (fo := 2) rfl Tryd.underlying48 rfl infLawSnapPuts_22 rfl rfl rfl) ?_
   refine G_val rfl rfl rfl rfl (V_load1 rfl rfl (mem_at 3 rfl) rfl Tryd.underlying22 rfl) ?_
   refine G_val rfl rfl rfl rfl (V_move rfl rfl) ?_
   refine G_call (L2 := [_]) rfl rfl rfl rfl rfl rfl Tryd.call23 ((sn_put d 20 lb lcap lcs slNil (newD 20) h f b e hf0 hf1 hb0 hb1 he s (new_W 20) (by omega)).weaken (fun v post h => by rw [c2] at h; exact h)) [0, 0, 0] [] rfl rfl ?_
   rintro v post ⟨rfl, lcs1, uw1, h1, rfl⟩
   show G _ _ _ [_, _, _, _] _
   refine G_call (L2 := [_, _, _, _]) rfl rfl rfl rfl rfl rfl Tryd.call19 (sl_num _) [] [] rfl rfl ?_
   rintro v post ⟨rfl, rfl⟩
   show G _ _ _ [_, _, _, _] _
   refine G_val rfl rfl rfl rfl (V_assign rfl rfl) ?_
   refine G_done ?_
   refine G_seq ?_
   refine G_region (l := [0, 1, 2, 3, 4, 5, 6, 7]) rfl ?_
   refine G_val rfl rfl rfl rfl (V_fieldAddr (fo := 0) rfl Tryd.underlying48 rfl infLawSnapPuts_3 rfl rfl rfl) ?_
   refine G_val rfl rfl rfl rfl (V_load1 rfl rfl (mem_at 3 rfl) rfl Tryd.underlying3 rfl) ?_
   refine G_val rfl rfl rfl rfl (V_fieldAddr (fo := 1) rfl Tryd.underlying48 rfl infLawSnapPuts_3 rfl rfl rfl) ?_
   refine G_val rfl rfl rfl rfl (V_load1 rfl rfl (mem_at 3 rfl) rfl Tryd.underlying3 rfl) ?_
   refine G_val rfl rfl rfl rfl (V_fieldAddr (fo := 2) rfl Tryd.underlying48 rfl infLawSnapPuts_22 rfl rfl rfl) ?_
   refine G_val rfl rfl rfl rfl (V_load1 rfl rfl (mem_at 3 rfl) rfl Tryd.underlying22 rfl) ?_
   refine G_call (L2 := [_, _, _, _]) rfl rfl rfl rfl rfl rfl Tryd.call24 ((rsn_wrong 20 f b (by omega) hf0 hf1 hb0 hb1 e).weaken (fun v post h => by rw [c3] at h; exact h)) [] [] rfl rfl ?_
   rintro v post ⟨rfl, rfl⟩
   show G _ _ _ [_, _, _, _] _
   refine G_val rfl rfl rfl rfl (V_assign rfl rfl) ?_
   refine G_done ?_
   refine G_seq ?_
   refine G_seq ?_
   refine G_draw mixedK (by kernel_rfl) ?_
   refine GQ_val rfl rfl rfl rfl (V_move rfl rfl) ?_
   refine GQ_val rfl rfl rfl rfl (V_eql rfl rfl rfl) ?_
   refine GQ_val rfl rfl rfl rfl (V_move rfl rfl) ?_
   refine GQ_splitD 43 rfl (fun hc2 => ?_) (fun hc2 => ?_)
   · (first | (exact absurd rfl hc2) | (exact absurd hc2 (by decide)) | (exact absurd (by decide) hc2) | (exfalso; omega))
   refine GQ_off rfl rfl rfl rfl ?_
   refine GQ_off rfl rfl rfl rfl ?_
   refine GQ_off rfl rfl rfl rfl ?_
   refine GQ_off rfl rfl rfl rfl ?_
   refine GQ_off rfl rfl rfl rfl ?_
   refine GQ_off rfl rfl rfl rfl ?_
   refine GQ_val rfl rfl rfl rfl (V_pickF rfl rfl rfl) ?_
   refine GQ_done rfl ?_
   refine G_else rfl ?_
   refine G_skip ?_
   refine G_seq ?_
   refine G_seq ?_
   refine G_region (l := [0, 1, 2, 3, 4, 5, 6, 7, 8, 9, 10, 11, 12, 13, 14, 15, 16]) rfl ?_
   refine G_val rfl rfl rfl rfl (V_move rfl rfl) ?_
   refine G_call (L2 := [_, _, _, _]) rfl rfl rfl rfl rfl rfl Tryd.call19 (sl_num _) [] [] rfl rfl ?_
   rintro v post ⟨rfl, rfl⟩
   show G _ _ _ [_, _, _, _] _
   refine G_val rfl rfl rfl rfl (V_neq rfl rfl rfl) ?_
   refine G_val rfl rfl rfl rfl (V_move rfl rfl) ?_
   refine G_splitD 54 rfl (fun hc3 => ?_) (fun hc3 => ?_)
   · (first | (exact absurd rfl hc3) | (exact absurd hc3 (by decide)) | (exact absurd (by decide) hc3) | (exfalso; omega))
   refine G_val rfl rfl rfl rfl (V_move rfl rfl) ?_
   refine G_val rfl rfl rfl rfl (V_move rfl rfl) ?_
   refine G_val rfl rfl rfl rfl (V_neq rfl rfl rfl) ?_
   refine G_val rfl rfl rfl rfl (V_pickF rfl rfl rfl) ?_
   refine G_val rfl rfl rfl rfl (V_move rfl rfl) ?_
   refine G_splitD 59 rfl (fun hc4 => ?_) (fun hc4 => ?_)
   · (first | (exact absurd rfl hc4) | (exact absurd hc4 (by decide)) | (exact absurd (by decide) hc4) | (exfalso; omega))
   refine G_val rfl rfl rfl rfl (V_move rfl rfl) ?_
   refine G_val rfl rfl rfl rfl (V_slen rfl rfl Tryd.underlying9 rfl) ?_
   refine G_call (L2 := [_, _, _, _]) rfl rfl rfl rfl rfl rfl Tryd.call26 (sn_many _ (by first | omega | (simp; done) | (simp; omega) | (simp at *; omega))) [] [] rfl rfl ?_
   rintro v post ⟨rfl, rfl⟩
   show G _ _ _ [_, _, _, _] _
   refine G_val rfl rfl rfl rfl (V_move rfl rfl) ?_
   refine G_val rfl rfl rfl rfl (V_slen rfl rfl Tryd.underlying9 rfl) ?_
   refine G_call (L2 := [_, _, _, _]) rfl rfl rfl rfl rfl rfl Tryd.call25 (rsn_many _ (by first | omega | (simp [wCells, kCells, wCells, kCells, wCells, kCells, wCells, kCells, wCells, kCells, wCells, kCells]; done) | (simp [wCells, kCells, wCells, kCells, wCells, kCells, wCells, kCells, wCells, kCells, wCells, kCells]; omega) | (simp [wCells, kCells, wCells, kCells, wCells, kCells, wCells, kCells, wCells, kCells, wCells, kCells] at *; omega))) [] [] rfl rfl ?_
   rintro v post ⟨rfl, rfl⟩
   show G _ _ _ [_, _, _, _] _
   refine G_val rfl rfl rfl rfl (V_neq rfl rfl rfl) ?_
   refine G_val rfl rfl rfl rfl (V_pickF rfl rfl rfl) ?_
   refine G_done ?_
   refine G_ifD rfl (fun hc5 => ?_) (fun hc5 => ?_)
   · (first | (exact absurd rfl hc5) | (exact absurd hc5 (by decide)) | (exact absurd (by decide) hc5) | (exfalso; omega))
   refine G_skip ?_
   refine G_seq ?_
   refine G_seq ?_
   refine G_region (l := [0, 1]) rfl ?_
   refine G_val rfl rfl rfl rfl (V_move rfl rfl) ?_
   refine G_val rfl rfl rfl rfl (V_neq rfl rfl rfl) ?_
   refine G_done ?_
   refine G_ifD rfl (fun hc6 => ?_) (fun hc6 => ?_)
   rotate_left
   · (first | (exact absurd rfl hc6) | (exact absurd hc6 (by decide)) | (exact absurd (by decide) hc6) | (exfalso; omega))
   refine G_seq ?_
   refine G_region (l := [0, 1, 2, 3, 4, 5, 6]) rfl ?_
   refine G_val rfl rfl rfl rfl (V_move rfl rfl) ?_
   refine G_call (L2 := [_, _, _, _]) rfl rfl rfl rfl rfl rfl Tryd.call27 ((dk_waiting d 20 lb lcap lcs1 uw1 (putK (newD 20) f b e s) h1).weaken (fun v post h => by rw [c4] at h; exact h)) [] [0] rfl rfl ?_
   rintro v post ⟨rfl, rfl⟩
   show G _ _ _ [_, _, _, _] _
   refine G_val rfl rfl rfl rfl (V_eql rfl rfl rfl) ?_
   refine G_val rfl rfl rfl rfl (V_move rfl rfl) ?_
   refine G_splitD 73 rfl (fun hc7 => ?_) (fun hc7 => ?_)
   rotate_left
   · (first | (exact absurd rfl hc7) | (exact absurd hc7 (by decide)) | (exact absurd (by decide) hc7) | (exfalso; omega))
   refine G_call (L2 := [_, _, _, _]) rfl rfl rfl rfl rfl rfl Tryd.call16 (snl_live) [] [] rfl rfl ?_
   rintro v post ⟨rfl, rfl⟩
   show G _ _ _ [_, _, _, _] _
   refine G_val rfl rfl rfl rfl (V_pickT rfl rfl rfl) ?_
   refine G_val rfl rfl rfl rfl (V_assign rfl rfl) ?_
   refine G_done ?_
   refine G_ret (post := []) Tryd.func6 rfl (RVs_cons (RV_tmp rfl) RVs_nil) [] rfl ?_
   dsimp only [packed]
   exact ⟨rfl, rfl⟩
 · skip
   refine G_region (l := [0, 1, 2, 3, 4, 5, 6, 7, 8, 9, 10]) rfl ?_
   refine G_val rfl rfl rfl rfl (V_move rfl rfl) ?_
   refine G_val rfl rfl rfl rfl (V_fieldAddr (fo := 0) rfl Tryd.underlying48 rfl infLawSnapPuts_3 rfl rfl rfl) ?_
   refine G_val rfl rfl rfl rfl (V_load1 rfl rfl (mem_at 3 rfl) rfl Tryd.underlying3 rfl) ?_
   refine G_val rfl rfl rfl rfl (V_fieldAddr (fo := 1) rfl Tryd.underlying48 rfl infLawSnapPuts_3 rfl rfl rfl) ?_
   refine G_val rfl rfl rfl rfl (V_load1 rfl rfl (mem_at 3 rfl) rfl Tryd.underlying3 rfl) ?_
   refine G_val rfl rfl rfl rfl (V_fieldAddr (fo := 2) rfl Tryd.underlying48 rfl infLawSnapPuts_22 rfl rfl rfl) ?_
   refine G_val rfl rfl rfl rfl (V_load1 rfl rfl (mem_at 3 rfl) rfl Tryd.underlying22 rfl) ?_
   refine G_val rfl rfl rfl rfl (V_move rfl rfl) ?_
   refine G_call (L2 := [_]) rfl rfl rfl rfl rfl rfl Tryd.call23 ((sn_put d 20 lb lcap lcs slNil (newD 20) h f b e hf0 hf1 hb0 hb1 he s (new_W 20) (by omega)).weaken (fun v post h => by rw [c3] at h; exact h)) [0, 0, 0] [] rfl rfl ?_
   rintro v post ⟨rfl, lcs1, uw1, h1, rfl⟩
   show G _ _ _ [_, _, _, _] _
   refine G_call (L2 := [_, _, _, _]) rfl rfl rfl rfl rfl rfl Tryd.call19 (sl_num _) [] [] rfl rfl ?_
   rintro v post ⟨rfl, rfl⟩
   show G _ _ _ [_, _, _, _] _
   refine G_val rfl rfl rfl rfl (V_assign rfl rfl) ?_
   refine G_done ?_
   refine G_seq ?_
   refine G_region (l := [0, 1, 2, 3, 4, 5, 6, 7]) rfl ?_
   refine G_val rfl rfl rfl rfl (V_fieldAddr (fo := 0) rfl Tryd.underlying48 rfl infLawSnapPuts_3 rfl rfl rfl) ?_
   refine G_val rfl rfl rfl rfl (V_load1 rfl rfl (mem_at 3 rfl) rfl Tryd.underlying3 rfl) ?_
   refine G_val rfl rfl rfl rfl (V_fieldAddr (fo := 1) rfl Tryd.underlying48 rfl infLawSnapPuts_3 rfl rfl rfl) ?_
   refine G_val rfl rfl rfl rfl (V_load1 rfl rfl (mem_at 3 rfl) rfl Tryd.underlying3 rfl) ?_
   refine G_val rfl rfl rfl rfl (V_fieldAddr (fo := 2) rfl Tryd.underlying48 rfl infLawSnapPuts_22 rfl rfl rfl) ?_
   refine G_val rfl rfl rfl rfl (V_load1 rfl rfl (mem_at 3 rfl) rfl Tryd.underlying22 rfl) ?_
   refine G_call (L2 := [_, _, _, _]) rfl rfl rfl rfl rfl rfl Tryd.call24 ((rsn_wrong 20 f b (by omega) hf0 hf1 hb0 hb1 e).weaken (fun v post h => by rw [c1] at h; exact h)) [] [] rfl rfl ?_
   rintro v post ⟨rfl, rfl⟩
   show G _ _ _ [_, _, _, _] _
   refine G_val rfl rfl rfl rfl (V_assign rfl rfl) ?_
   refine G_done ?_
   refine G_seq ?_
   refine G_seq ?_
   refine G_draw mixedK (by kernel_rfl) ?_
   refine GQ_val rfl rfl rfl rfl (V_move rfl rfl) ?_
   refine GQ_val rfl rfl rfl rfl (V_eql rfl rfl rfl) ?_
   refine GQ_val rfl rfl rfl rfl (V_move rfl rfl) ?_
   refine GQ_splitD 43 rfl (fun hc2 => ?_) (fun hc2 => ?_)
   rotate_left
   · (first | (exact absurd rfl hc2) | (exact absurd hc2 (by decide)) | (exact absurd (by decide) hc2) | (exfalso; omega))
   refine GQ_val rfl rfl rfl rfl (V_move rfl rfl) ?_
   refine GQ_val rfl rfl rfl rfl (V_slen rfl rfl Tryd.underlying9 rfl) ?_
   refine GQ_call rfl rfl rfl rfl rfl rfl Tryd.call25 (rsn_many _ (by first | omega | (simp [wCells, kCells, wCells, kCells, wCells, kCells, wCells, kCells, wCells, kCells, wCells, kCells]; done) | (simp [wCells, kCells, wCells, kCells, wCells, kCells, wCells, kCells, wCells, kCells, wCells, kCells]; omega) | (simp [wCells, kCells, wCells, kCells, wCells, kCells, wCells, kCells, wCells, kCells, wCells, kCells] at *; omega))) [] rfl (fun v post hp => (hp : _ ∧ _).1) ?_
   refine GQ_val rfl rfl rfl rfl (V_fieldAddr (fo := 1) rfl Tryd.underlying48 rfl infLawSnapPuts_3 rfl rfl rfl) ?_
   refine GQ_val rfl rfl rfl rfl (V_load1 rfl rfl (mem_at 3 rfl) rfl Tryd.underlying3 rfl) ?_
   refine GQ_val rfl rfl rfl rfl (V_gtr rfl rfl rfl) ?_
   refine GQ_val rfl rfl rfl rfl (V_pickT rfl rfl rfl) ?_
   refine GQ_done rfl ?_
   refine G_ifD rfl (fun hc3 => ?_) (fun hc3 => ?_)
   rotate_left
   · (first | (exact absurd rfl hc3) | (exact absurd hc3 (by decide)) | (exact absurd (by decide) hc3) | (exfalso; omega))
   refine G_region (l := [0]) rfl ?_
   refine G_val rfl rfl rfl rfl (V_assign rfl rfl) ?_
   refine G_done ?_
   refine G_seq ?_
   refine G_seq ?_
   refine G_region (l := [0, 1, 2, 3, 4, 5, 6, 7, 8, 9, 10, 11, 12, 13, 14, 15, 16]) rfl ?_
   refine G_val rfl rfl rfl rfl (V_move rfl rfl) ?_
   refine G_call (L2 := [_, _, _, _]) rfl rfl rfl rfl rfl rfl Tryd.call19 (sl_num _) [] [] rfl rfl ?_
   rintro v post ⟨rfl, rfl⟩
   show G _ _ _ [_, _, _, _] _
   refine G_val rfl rfl rfl rfl (V_neq rfl rfl rfl) ?_
   refine G_val rfl rfl rfl rfl (V_move rfl rfl) ?_
   refine G_splitD 54 rfl (fun hc4 => ?_) (fun hc4 => ?_)
   · (first | (exact absurd rfl hc4) | (exact absurd hc4 (by decide)) | (exact absurd (by decide) hc4) | (exfalso; omega))
   refine G_val rfl rfl rfl rfl (V_move rfl rfl) ?_
   refine G_val rfl rfl rfl rfl (V_move rfl rfl) ?_
   refine G_val rfl rfl rfl rfl (V_neq rfl rfl rfl) ?_
   refine G_val rfl rfl rfl rfl (V_pickF rfl rfl rfl) ?_
   refine G_val rfl rfl rfl rfl (V_move rfl rfl) ?_
   refine G_splitD 59 rfl (fun hc5 => ?_) (fun hc5 => ?_)
   · (first | (exact absurd rfl hc5) | (exact absurd hc5 (by decide)) | (exact absurd (by decide) hc5) | (exfalso; omega))
   refine G_val rfl rfl rfl rfl (V_move rfl rfl) ?_
   refine G_val rfl rfl rfl rfl (V_slen rfl rfl Tryd.underlying9 rfl) ?_
   refine G_call (L2 := [_, _, _, _]) rfl rfl rfl rfl rfl rfl Tryd.call26 (sn_many _ (by first | omega | (simp; done) | (simp; omega) | (simp at *; omega))) [] [] rfl rfl ?_
   rintro v post ⟨rfl, rfl⟩
   show G _ _ _ [_, _, _, _] _
   refine G_val rfl rfl rfl rfl (V_move rfl rfl) ?_
   refine G_val rfl rfl rfl rfl (V_slen rfl rfl Tryd.underlying9 rfl) ?_
   refine G_call (L2 := [_, _, _, _]) rfl rfl rfl rfl rfl rfl Tryd.call25 (rsn_many _ (by first | omega | (simp [wCells, kCells, wCells, kCells, wCells, kCells, wCells, kCells, wCells, kCells, wCells, kCells]; done) | (simp [wCells, kCells, wCells, kCells, wCells, kCells, wCells, kCells, wCells, kCells, wCells, kCells]; omega) | (simp [wCells, kCells, wCells, kCells, wCells, kCells, wCells, kCells, wCells, kCells, wCells, kCells] at *; omega))) [] [] rfl rfl ?_
   rintro v post ⟨rfl, rfl⟩
   show G _ _ _ [_, _, _, _] _
   refine G_val rfl rfl rfl rfl (V_neq rfl rfl rfl) ?_
   refine G_val rfl rfl rfl rfl (V_pickF rfl rfl rfl) ?_
   refine G_done ?_
   refine G_ifD rfl (fun hc6 => ?_) (fun hc6 => ?_)
   · (first | (exact absurd rfl hc6) | (exact absurd hc6 (by decide)) | (exact absurd (by decide) hc6) | (exfalso; omega))
   refine G_skip ?_
   refine G_seq ?_
   refine G_seq ?_
   refine G_region (l := [0, 1]) rfl ?_
   refine G_val rfl rfl rfl rfl (V_move rfl rfl) ?_
   refine G_val rfl rfl rfl rfl (V_neq rfl rfl rfl) ?_
   refine G_done ?_
   refine G_ifD rfl (fun hc7 => ?_) (fun hc7 => ?_)
   rotate_left
   · (first | (exact absurd rfl hc7) | (exact absurd hc7 (by decide)) | (exact absurd (by decide) hc7) | (exfalso; omega))
   refine G_seq ?_
   refine G_region (l := [0, 1, 2, 3, 4, 5, 6]) rfl ?_
   refine G_val rfl rfl rfl rfl (V_move rfl rfl) ?_
   refine G_call (L2 := [_, _, _, _]) rfl rfl rfl rfl rfl rfl Tryd.call27 ((dk_waiting d 20 lb lcap lcs1 uw1 (putK (newD 20) f b e s) h1).weaken (fun v post h => by rw [c4] at h; exact h)) [] [0] rfl rfl ?_
   rintro v post ⟨rfl, rfl⟩
   show G _ _ _ [_, _, _, _] _
   refine G_val rfl rfl rfl rfl (V_eql rfl rfl rfl) ?_
   refine G_val rfl rfl rfl rfl (V_move rfl rfl) ?_
   refine G_splitD 73 rfl (fun hc8 => ?_) (fun hc8 => ?_)
   rotate_left
   · (first | (exact absurd rfl hc8) | (exact absurd hc8 (by decide)) | (exact absurd (by decide) hc8) | (exfalso; omega))
   refine G_call (L2 := [_, _, _, _]) rfl rfl rfl rfl rfl rfl Tryd.call16 (snl_live) [] [] rfl rfl ?_
   rintro v post ⟨rfl, rfl⟩
   show G _ _ _ [_, _, _, _] _
   refine G_val rfl rfl rfl rfl (V_pickT rfl rfl rfl) ?_
   refine G_val rfl rfl rfl rfl (V_assign rfl rfl) ?_
   refine G_done ?_
   refine G_ret (post := []) Tryd.func6 rfl (RVs_cons (RV_tmp rfl) RVs_nil) [] rfl ?_
   dsimp only [packed]
   exact ⟨rfl, rfl⟩
 · skip
   refine G_region (l := [0, 1, 2, 3, 4, 5, 6, 7, 8, 9, 10]) rfl ?_
   refine G_val rfl rfl rfl rfl (V_move rfl rfl) ?_
   refine G_val rfl rfl rfl rfl (V_fieldAddr (fo := 0) rfl Tryd.underlying48 rfl infLawSnapPuts_3 rfl rfl rfl) ?_
   refine G_val rfl rfl rfl rfl (V_load1 rfl rfl (mem_at 3 rfl) rfl Tryd.underlying3 rfl) ?_
   refine G_val rfl rfl rfl rfl (V_fieldAddr (fo := 1) rfl Tryd.underlying48 rfl infLawSnapPuts_3 rfl rfl rfl) ?_
   refine G_val rfl rfl rfl rfl (V_load1 rfl rfl (mem_at 3 rfl) rfl Tryd.underlying3 rfl) ?_
   refine G_val rfl rfl rfl rfl (V_fieldAddr (fo := 2) rfl Tryd.underlying48 rfl infLawSnapPuts_22 rfl rfl rfl) ?_
   refine G_val rfl rfl rfl rfl (V_load1 rfl rfl (mem_at 3 rfl) rfl Tryd.underlying22 rfl) ?_
   refine G_val rfl rfl rfl rfl (V_move rfl rfl) ?_
   refine G_call (L2 := [_]) rfl rfl rfl rfl rfl rfl Tryd.call23 ((sn_put d 20 lb lcap lcs slNil (newD 20) h f b e hf0 hf1 hb0 hb1 he s (new_W 20) (by omega)).weaken (fun v post h => by rw [c3] at h; exact h)) [0, 0, 0] [] rfl rfl ?_
   rintro v post ⟨rfl, lcs1, uw1, h1, rfl⟩
   show G _ _ _ [_, _, _, _] _
   refine G_call (L2 := [_, _, _, _]) rfl rfl rfl rfl rfl rfl Tryd.call19 (sl_num _) [] [] rfl rfl ?_
   rintro v post ⟨rfl, rfl⟩
   show G _ _ _ [_, _, _, _] _
   refine G_val rfl rfl rfl rfl (V_assign rfl rfl) ?_
   refine G_done ?_
   refine G_seq ?_
   refine G_region (l := [0, 1, 2, 3, 4, 5, 6, 7]) rfl ?_
   refine G_val rfl rfl rfl rfl (V_fieldAddr (fo := 0) rfl Tryd.underlying48 rfl infLawSnapPuts_3 rfl rfl rfl) ?_
   refine G_val rfl rfl rfl rfl (V_load1 rfl rfl (mem_at 3 rfl) rfl Tryd.underlying3 rfl) ?_
   refine G_val rfl rfl rfl rfl (V_fieldAddr (fo := 1) rfl Tryd.underlying48 rfl infLawSnapPuts_3 rfl rfl rfl) ?_
   refine G_val rfl rfl rfl rfl (V_load1 rfl rfl (mem_at 3 rfl) rfl Tryd.underlying3 rfl) ?_
   refine G_val rfl rfl rfl rfl (V_fieldAddr (fo := 2) rfl Tryd.underlying48 rfl infLawSnapPuts_22 rfl rfl rfl) ?_
   refine G_val rfl rfl rfl rfl (V_load1 rfl rfl (mem_at 3 rfl) rfl Tryd.underlying22 rfl) ?_
   refine G_call (L2 := [_, _, _, _]) rfl rfl rfl rfl rfl rfl Tryd.call24 ((rsn_wrong 20 f b (by omega) hf0 hf1 hb0 hb1 e).weaken (fun v post h => by rw [c1] at h; exact h)) [] [] rfl rfl ?_
   rintro v post ⟨rfl, rfl⟩
   show G _ _ _ [_, _, _, _] _
   refine G_val rfl rfl rfl rfl (V_assign rfl rfl) ?_
   refine G_done ?_
   refine G_seq ?_
   refine G_seq ?_
   refine G_draw mixedK (by kernel_rfl) ?_
   refine GQ_val rfl rfl rfl rfl (V_move rfl rfl) ?_
   refine GQ_val rfl rfl rfl rfl (V_eql rfl rfl rfl) ?_
   refine GQ_val rfl rfl rfl rfl (V_move rfl rfl) ?_
   refine GQ_splitD 43 rfl (fun hc2 => ?_) (fun hc2 => ?_)
   rotate_left
   · (first | (exact absurd rfl hc2) | (exact absurd hc2 (by decide)) | (exact absurd (by decide) hc2) | (exfalso; omega))
   refine GQ_val rfl rfl rfl rfl (V_move rfl rfl) ?_
   refine GQ_val rfl rfl rfl rfl (V_slen rfl rfl Tryd.underlying9 rfl) ?_
   refine GQ_call rfl rfl rfl rfl rfl rfl Tryd.call25 (rsn_many _ (by first | omega | (simp [wCells, kCells, wCells, kCells, wCells, kCells, wCells, kCells, wCells, kCells, wCells, kCells]; done) | (simp [wCells, kCells, wCells, kCells, wCells, kCells, wCells, kCells, wCells, kCells, wCells, kCells]; omega) | (simp [wCells, kCells, wCells, kCells, wCells, kCells, wCells, kCells, wCells, kCells, wCells, kCells] at *; omega))) [] rfl (fun v post hp => (hp : _ ∧ _).1) ?_
   refine GQ_val rfl rfl rfl rfl (V_fieldAddr (fo := 1) rfl Tryd.underlying48 rfl infLawSnapPuts_3 rfl rfl rfl) ?_
   refine GQ_val rfl rfl rfl rfl (V_load1 rfl rfl (mem_at 3 rfl) rfl Tryd.underlying3 rfl) ?_
   refine GQ_val rfl rfl rfl rfl (V_gtr rfl rfl rfl) ?_
   refine GQ_val rfl rfl rfl rfl (V_pickT rfl rfl rfl) ?_
   refine GQ_done rfl ?_
   refine G_ifD rfl (fun hc3 => ?_) (fun hc3 => ?_)
   · (first | (exact absurd rfl hc3) | (exact absurd hc3 (by decide)) | (exact absurd (by decide) hc3) | (exfalso; omega))
   refine G_skip ?_
   refine G_seq ?_
   refine G_seq ?_
   refine G_region (l := [0, 1, 2, 3, 4, 5, 6, 7, 8, 9, 10, 11, 12, 13, 14, 15, 16]) rfl ?_
   refine G_val rfl rfl rfl rfl (V_move rfl rfl) ?_
   refine G_call (L2 := [_, _, _, _]) rfl rfl rfl rfl rfl rfl Tryd.call19 (sl_num _) [] [] rfl rfl ?_
   rintro v post ⟨rfl, rfl⟩
   show G _ _ _ [_, _, _, _] _
   refine G_val rfl rfl rfl rfl (V_neq rfl rfl rfl) ?_
   refine G_val rfl rfl rfl rfl (V_move rfl rfl) ?_
   refine G_splitD 54 rfl (fun hc4 => ?_) (fun hc4 => ?_)
   · (first | (exact absurd rfl hc4) | (exact absurd hc4 (by decide)) | (exact absurd (by decide) hc4) | (exfalso; omega))
   refine G_val rfl rfl rfl rfl (V_move rfl rfl) ?_
   refine G_val rfl rfl rfl rfl (V_move rfl rfl) ?_
   refine G_val rfl rfl rfl rfl (V_neq rfl rfl rfl) ?_
   refine G_val rfl rfl rfl rfl (V_pickF rfl rfl rfl) ?_
   refine G_val rfl rfl rfl rfl (V_move rfl rfl) ?_
   refine G_splitD 59 rfl (fun hc5 => ?_) (fun hc5 => ?_)
   · (first | (exact absurd rfl hc5) | (exact absurd hc5 (by decide)) | (exact absurd (by decide) hc5) | (exfalso; omega))
   refine G_val rfl rfl rfl rfl (V_move rfl rfl) ?_
   refine G_val rfl rfl rfl rfl (V_slen rfl rfl Tryd.underlying9 rfl) ?_
   refine G_call (L2 := [_, _, _, _]) rfl rfl rfl rfl rfl rfl Tryd.call26 (sn_many _ (by first | omega | (simp; done) | (simp; omega) | (simp at *; omega))) [] [] rfl rfl ?_
   rintro v post ⟨rfl, rfl⟩
   show G _ _ _ [_, _, _, _] _
   refine G_val rfl rfl rfl rfl (V_move rfl rfl) ?_
   refine G_val rfl rfl rfl rfl (V_slen rfl rfl Tryd.underlying9 rfl) ?_
   refine G_call (L2 := [_, _, _, _]) rfl rfl rfl rfl rfl rfl Tryd.call25 (rsn_many _ (by first | omega | (simp [wCells, kCells, wCells, kCells, wCells, kCells, wCells, kCells, wCells, kCells, wCells, kCells]; done) | (simp [wCells, kCells, wCells, kCells, wCells, kCells, wCells, kCells, wCells, kCells, wCells, kCells]; omega) | (simp [wCells, kCells, wCells, kCells, wCells, kCells, wCells, kCells, wCells, kCells, wCells, kCells] at *; omega))) [] [] rfl rfl ?_
   rintro v post ⟨rfl, rfl⟩
   show G _ _ _ [_, _, _, _] _
   refine G_val rfl rfl rfl rfl (V_neq rfl rfl rfl) ?_
   refine G_val rfl rfl rfl rfl (V_pickF rfl rfl rfl) ?_
   refine G_done ?_
   refine G_ifD rfl (fun hc6 => ?_) (fun hc6 => ?_)
   · (first | (exact absurd rfl hc6) | (exact absurd hc6 (by decide)) | (exact absurd (by decide) hc6) | (exfalso; omega))
   refine G_skip ?_
   refine G_seq ?_
   refine G_seq ?_
   refine G_region (l := [0, 1]) rfl ?_
   refine G_val rfl rfl rfl rfl (V_move rfl rfl) ?_
   refine G_val rfl rfl rfl rfl (V_neq rfl rfl rfl) ?_
   refine G_done ?_
   refine G_ifD rfl (fun hc7 => ?_) (fun hc7 => ?_)
   · (first | (exact absurd rfl hc7) | (exact absurd hc7 (by decide)) | (exact absurd (by decide) hc7) | (exfalso; omega))
   refine G_skip ?_
   refine G_seq ?_
   obtain ⟨p1, p2, p3, p4⟩ := puts_got (s := s) he c1 c2
   have hre := regE_20 c1
   refine G_region (l := [0, 1, 2, 3, 4]) rfl ?_
   refine G_val rfl rfl rfl rfl (V_move rfl rfl) ?_
   refine G_val rfl rfl rfl rfl (V_fieldAddr (fo := 2) rfl Tryd.underlying48 rfl infLawSnapPuts_22 rfl rfl rfl) ?_
   refine G_val rfl rfl rfl rfl (V_load1 rfl rfl (mem_at 3 rfl) rfl Tryd.underlying22 rfl) ?_
   refine G_call (L2 := [_, _, _, _]) rfl rfl rfl rfl rfl rfl Tryd.call28 (rsn_blocks s e (by omega) he hre.2.2.2) [] [] rfl rfl ?_
   rintro v post ⟨ub, hub, rfl, rfl⟩
   show G _ _ _ [_, _, _, _, _] _
   refine G_val rfl rfl rfl rfl (V_assign rfl rfl) ?_
   refine G_done ?_
   refine G_seq ?_
   refine G_seq ?_
   refine G_region (l := [0]) rfl ?_
   refine G_val rfl rfl rfl rfl (V_assign rfl rfl) ?_
   refine G_done ?_
   refine G_block ?_
   refine G_sub ?he14 [4, 0, 0, 0, 0] ?hl14 (G_loop (X := Nat) (fun i => i ≤ 20) (fun i => 20 - i) (fun i => [(1, .string (bs s)), (2, .pointer (some ⟨b2, 0, none⟩)), (5, .pointer (some ⟨d, 0, none⟩)), (9, ub.v (manyS s.length)), (10, .int .i64 (i : Int))]) (fun i => [(some b2, .cells #[.int .i64 f, .int .i64 b, .int .u32 (e : Int)] 48 (0, 0)), (ub.ob, .cells ub.cs 9 ub.fz), (some d, .cells #[.slice (some ⟨lb, 0, none⟩) 20 lcap, uw1.v (putK (newD 20) f b e s).W.length, .int .i64 (putK (newD 20) f b e s).fuse, .bool (putK (newD 20) f b e s).dead] 110 (0, 0)), (some lb, .cells lcs1 9 (0, 0)), (uw1.ob, .cells uw1.cs 116 uw1.fz)]) ?round14 0 ?h014)
   case he14 => exact (And.intro rfl (And.intro rfl (And.intro rfl (And.intro rfl (And.intro rfl trivial)))))
   case hl14 => exact ⟨_, rfl⟩
   case h014 => exact Nat.zero_le _
   case round14 =>
    intro i hJ ih
    try dsimp only at hJ ih
    refine G_seq ?_
    refine G_seq ?_
    refine G_region (l := [0, 1]) rfl ?_
    refine G_val rfl rfl rfl rfl (V_move rfl rfl) ?_
    refine G_val rfl rfl rfl rfl (V_lss rfl rfl rfl) ?_
    refine G_done ?_
    refine G_ifD rfl (fun hc8 => ?_) (fun hc8 => ?_)
    · skip
      refine G_skip ?_
      refine G_seq ?_
      refine G_block ?_
      refine G_seq ?_
      obtain ⟨q1, q2⟩ := puts_read (s := s) c1 c2 i (by omega)
      refine G_region (l := [0, 1, 2, 3, 4, 5, 6, 7]) rfl ?_
      refine G_val rfl rfl rfl rfl (V_move rfl rfl) ?_
      refine G_val rfl rfl rfl rfl (V_move rfl rfl) ?_
      refine G_call (L2 := [_, _, _, _, _]) rfl rfl rfl rfl rfl rfl Tryd.call29 ((dk_read d 20 lb lcap lcs1 uw1 (putK (newD 20) f b e s) h1 (i : Int)).weaken (fun v post h => by rw [q1] at h; exact h)) [] [2, 3, 4] rfl rfl ?_
      rintro v post ⟨rfl, rfl⟩
      show G _ _ _ [_, _, _, _, _] _
      refine G_val rfl rfl rfl rfl (V_move rfl rfl) ?_
      refine G_val rfl rfl rfl rfl (V_extract rfl rfl rfl) ?_
      refine G_val rfl rfl rfl rfl (V_extract rfl rfl rfl) ?_
      refine G_val rfl rfl rfl rfl (V_assign rfl rfl) ?_
      refine G_val rfl rfl rfl rfl (V_assign rfl rfl) ?_
      refine G_done ?_
      refine G_seq ?_
      refine G_region (l := [0, 1]) rfl ?_
      refine G_call (L2 := [_, _, _, _, _]) rfl rfl rfl rfl rfl rfl Tryd.call30 (rd_zero) [] [] rfl rfl ?_
      rintro v post ⟨rfl, rfl⟩
      show G _ _ _ [_, _, _, _, _] _
      refine G_val rfl rfl rfl rfl (V_assign rfl rfl) ?_
      refine G_done ?_
      refine G_seq ?_
      refine G_seq ?_
      refine G_region (l := [0, 1, 2, 3, 4, 5, 6, 7, 8, 9, 10, 11, 12]) rfl ?_
      refine G_val rfl rfl rfl rfl (V_move rfl rfl) ?_
      refine G_val rfl rfl rfl rfl (V_fieldAddr (fo := 0) rfl Tryd.underlying48 rfl infLawSnapPuts_3 rfl rfl rfl) ?_
      refine G_val rfl rfl rfl rfl (V_load1 rfl rfl (mem_at 0 rfl) rfl Tryd.underlying3 rfl) ?_
      refine G_val rfl rfl rfl rfl (V_geq rfl rfl rfl) ?_
      refine G_val rfl rfl rfl rfl (V_move rfl rfl) ?_
      refine G_splitD 95 rfl (fun hc9 => ?_) (fun hc9 => ?_)
      · skip
        refine G_val rfl rfl rfl rfl (V_move rfl rfl) ?_
        refine G_val rfl rfl rfl rfl (V_fieldAddr (fo := 0) rfl Tryd.underlying48 rfl infLawSnapPuts_3 rfl rfl rfl) ?_
        refine G_val rfl rfl rfl rfl (V_load1 rfl rfl (mem_at 0 rfl) rfl Tryd.underlying3 rfl) ?_
        first
          | refine G_val rfl rfl rfl rfl ((V_sub rfl rfl rfl).int (wrap_i64 (by omega))) ?_
          | refine G_val rfl rfl rfl rfl (V_sub rfl rfl rfl) ?_
        refine G_val rfl rfl rfl rfl (V_move rfl rfl) ?_
        refine G_val rfl rfl rfl rfl (V_len rfl rfl Tryd.underlying24 rfl) ?_
        refine G_val rfl rfl rfl rfl (V_lss rfl rfl rfl) ?_
        refine G_val rfl rfl rfl rfl (V_pickT rfl rfl rfl) ?_
        refine G_done ?_
        refine G_ifD rfl (fun hc10 => ?_) (fun hc10 => ?_)
        · skip
          obtain ⟨uo, ucs, ufz, ucap⟩ := ub
          obtain ⟨bx, rfl⟩ := hub.isSome (by omega)
          refine G_region (l := [0, 1, 2, 3, 4, 5, 6, 7]) rfl ?_
          refine G_val rfl rfl rfl rfl (V_move rfl rfl) ?_
          refine G_val rfl rfl rfl rfl (V_move rfl rfl) ?_
          refine G_val rfl rfl rfl rfl (V_fieldAddr (fo := 0) rfl Tryd.underlying48 rfl infLawSnapPuts_3 rfl rfl rfl) ?_
          refine G_val rfl rfl rfl rfl (V_load1 rfl rfl (mem_at 0 rfl) rfl Tryd.underlying3 rfl) ?_
          first
            | refine G_val rfl rfl rfl rfl ((V_sub rfl rfl rfl).int (wrap_i64 (by omega))) ?_
            | refine G_val rfl rfl rfl rfl (V_sub rfl rfl rfl) ?_
          first
            | refine G_val rfl rfl rfl rfl (V_indexAddrN (s := 1) rfl Tryd.underlying24 infLawSnapPuts_9 rfl rfl rfl rfl (by omega)) ?_
            | refine G_val rfl rfl rfl rfl (V_indexAddr (s := 1) rfl Tryd.underlying24 infLawSnapPuts_9 rfl rfl rfl (by omega) (by first | omega | (simp [wCells, kCells, wCells, kCells, wCells, kCells, wCells, kCells, wCells, kCells, wCells, kCells]; done) | (simp [wCells, kCells, wCells, kCells, wCells, kCells, wCells, kCells, wCells, kCells, wCells, kCells]; omega) | (simp [wCells, kCells, wCells, kCells, wCells, kCells, wCells, kCells, wCells, kCells, wCells, kCells] at *; omega))) ?_
          refine G_val rfl rfl rfl rfl (V_load1 rfl rfl (mem_at 1 rfl) (nth_of (show ucs[0 + ((i : Int) - f).toNat * 1]? = some (strC (blkS e s (i - f.toNat))) by rw [show 0 + ((i : Int) - f).toNat * 1 = i - f.toNat by omega]; exact hub.nth (by simp [blksS_at e s (show i - f.toNat < manyS s.length by omega)]))) Tryd.underlying9 rfl) ?_
          refine G_val rfl rfl rfl rfl (V_assign rfl rfl) ?_
          refine G_done ?_
          refine G_seq ?_
          first | (rw [q2, if_pos ⟨by omega, by omega⟩]) | (rw [q2, if_neg (by omega)])
          refine G_region (l := [0, 1, 2, 3, 4, 5, 6, 7]) rfl ?_
          refine G_val rfl rfl rfl rfl (V_move rfl rfl) ?_
          refine G_val rfl rfl rfl rfl (V_move rfl rfl) ?_
          refine G_val rfl rfl rfl rfl (V_sneq rfl rfl rfl) ?_
          refine G_val rfl rfl rfl rfl (V_move rfl rfl) ?_
          refine G_splitD 114 rfl (fun hc11 => ?_) (fun hc11 => ?_)
          · (first | (exact absurd rfl hc11) | (exact absurd hc11 (by decide)) | (exact absurd (by decide) hc11) | (exfalso; omega))
          refine G_val rfl rfl rfl rfl (V_move rfl rfl) ?_
          refine G_call (L2 := [_, _, _, _, _]) rfl rfl rfl rfl rfl rfl Tryd.call19 (sl_num _) [] [] rfl rfl ?_
          rintro v post ⟨rfl, rfl⟩
          show G _ _ _ [_, _, _, _, _] _
          refine G_val rfl rfl rfl rfl (V_neq rfl rfl rfl) ?_
          refine G_val rfl rfl rfl rfl (V_pickF rfl rfl rfl) ?_
          refine G_done ?_
          refine G_ifD rfl (fun hc12 => ?_) (fun hc12 => ?_)
          · (first | (exact absurd rfl hc12) | (exact absurd hc12 (by decide)) | (exact absurd (by decide) hc12) | (exfalso; omega))
          refine G_skip ?_
          refine G_inBlock ?_
          refine G_region (l := [0, 1, 2]) rfl ?_
          refine G_val rfl rfl rfl rfl (V_move rfl rfl) ?_
          first
            | refine G_val rfl rfl rfl rfl ((V_add rfl rfl rfl).int (wrap_i64 (by omega))) ?_
            | refine G_val rfl rfl rfl rfl (V_add rfl rfl rfl) ?_
          refine G_val rfl rfl rfl rfl (V_assign rfl rfl) ?_
          refine G_done ?_
          refine G_sub ?_ [0, 0, 0, 0, 0] ?_ (ih (i + 1) ?_ ?_)
          · (refine (And.intro ?_ (And.intro ?_ (And.intro ?_ (And.intro ?_ (And.intro ?_ trivial))))) <;> first | rfl | exact slot_int (by omega) | exact slot_int (by simp))
          · exact ⟨_, rfl⟩
          · omega
          · (first | omega | (dsimp only; omega))
        refine G_skip ?_
        refine G_seq ?_
        first | (rw [q2, if_pos ⟨by omega, by omega⟩]) | (rw [q2, if_neg (by omega)])
        refine G_region (l := [0, 1, 2, 3, 4, 5, 6, 7]) rfl ?_
        refine G_val rfl rfl rfl rfl (V_move rfl rfl) ?_
        refine G_val rfl rfl rfl rfl (V_move rfl rfl) ?_
        refine G_val rfl rfl rfl rfl (V_sneq rfl rfl rfl) ?_
        refine G_val rfl rfl rfl rfl (V_move rfl rfl) ?_
        refine G_splitD 114 rfl (fun hc11 => ?_) (fun hc11 => ?_)
        · (first | (exact absurd rfl hc11) | (exact absurd hc11 (by decide)) | (exact absurd (by decide) hc11) | (exfalso; omega))
        refine G_val rfl rfl rfl rfl (V_move rfl rfl) ?_
        refine G_call (L2 := [_, _, _, _, _]) rfl rfl rfl rfl rfl rfl Tryd.call19 (sl_num _) [] [] rfl rfl ?_
        rintro v post ⟨rfl, rfl⟩
        show G _ _ _ [_, _, _, _, _] _
        refine G_val rfl rfl rfl rfl (V_neq rfl rfl rfl) ?_
        refine G_val rfl rfl rfl rfl (V_pickF rfl rfl rfl) ?_
        refine G_done ?_
        refine G_ifD rfl (fun hc12 => ?_) (fun hc12 => ?_)
        · (first | (exact absurd rfl hc12) | (exact absurd hc12 (by decide)) | (exact absurd (by decide) hc12) | (exfalso; omega))
        refine G_skip ?_
        refine G_inBlock ?_
        refine G_region (l := [0, 1, 2]) rfl ?_
        refine G_val rfl rfl rfl rfl (V_move rfl rfl) ?_
        first
          | refine G_val rfl rfl rfl rfl ((V_add rfl rfl rfl).int (wrap_i64 (by omega))) ?_
          | refine G_val rfl rfl rfl rfl (V_add rfl rfl rfl) ?_
        refine G_val rfl rfl rfl rfl (V_assign rfl rfl) ?_
        refine G_done ?_
        refine G_sub ?_ [0, 0, 0, 0, 0] ?_ (ih (i + 1) ?_ ?_)
        · (refine (And.intro ?_ (And.intro ?_ (And.intro ?_ (And.intro ?_ (And.intro ?_ trivial))))) <;> first | rfl | exact slot_int (by omega) | exact slot_int (by simp))
        · exact ⟨_, rfl⟩
        · omega
        · (first | omega | (dsimp only; omega))
      refine G_off rfl rfl rfl rfl ?_
      refine G_off rfl rfl rfl rfl ?_
      refine G_off rfl rfl rfl rfl ?_
      refine G_off rfl rfl rfl rfl ?_
      refine G_off rfl rfl rfl rfl ?_
      refine G_off rfl rfl rfl rfl ?_
      refine G_off rfl rfl rfl rfl ?_
      refine G_val rfl rfl rfl rfl (V_pickF rfl rfl rfl) ?_
      refine G_done ?_
      refine G_else rfl ?_
      refine G_skip ?_
      refine G_seq ?_
      first | (rw [q2, if_pos ⟨by omega, by omega⟩]) | (rw [q2, if_neg (by omega)])
      refine G_region (l := [0, 1, 2, 3, 4, 5, 6, 7]) rfl ?_
      refine G_val rfl rfl rfl rfl (V_move rfl rfl) ?_
      refine G_val rfl rfl rfl rfl (V_move rfl rfl) ?_
      refine G_val rfl rfl rfl rfl (V_sneq rfl rfl rfl) ?_
      refine G_val rfl rfl rfl rfl (V_move rfl rfl) ?_
      refine G_splitD 114 rfl (fun hc10 => ?_) (fun hc10 => ?_)
      · (first | (exact absurd rfl hc10) | (exact absurd hc10 (by decide)) | (exact absurd (by decide) hc10) | (exfalso; omega))
      refine G_val rfl rfl rfl rfl (V_move rfl rfl) ?_
      refine G_call (L2 := [_, _, _, _, _]) rfl rfl rfl rfl rfl rfl Tryd.call19 (sl_num _) [] [] rfl rfl ?_
      rintro v post ⟨rfl, rfl⟩
      show G _ _ _ [_, _, _, _, _] _
      refine G_val rfl rfl rfl rfl (V_neq rfl rfl rfl) ?_
      refine G_val rfl rfl rfl rfl (V_pickF rfl rfl rfl) ?_
      refine G_done ?_
      refine G_ifD rfl (fun hc11 => ?_) (fun hc11 => ?_)
      · (first | (exact absurd rfl hc11) | (exact absurd hc11 (by decide)) | (exact absurd (by decide) hc11) | (exfalso; omega))
      refine G_skip ?_
      refine G_inBlock ?_
      refine G_region (l := [0, 1, 2]) rfl ?_
      refine G_val rfl rfl rfl rfl (V_move rfl rfl) ?_
      first
        | refine G_val rfl rfl rfl rfl ((V_add rfl rfl rfl).int (wrap_i64 (by omega))) ?_
        | refine G_val rfl rfl rfl rfl (V_add rfl rfl rfl) ?_
      refine G_val rfl rfl rfl rfl (V_assign rfl rfl) ?_
      refine G_done ?_
      refine G_sub ?_ [0, 0, 0, 0, 0] ?_ (ih (i + 1) ?_ ?_)
      · (refine (And.intro ?_ (And.intro ?_ (And.intro ?_ (And.intro ?_ (And.intro ?_ trivial))))) <;> first | rfl | exact slot_int (by omega) | exact slot_int (by simp))
      · exact ⟨_, rfl⟩
      · omega
      · (first | omega | (dsimp only; omega))
    refine G_exit rfl ?_
    refine G_seq ?_
    refine G_region (l := [0, 1, 2, 3, 4, 5, 6, 7, 8, 9, 10, 11, 12, 13, 14]) rfl ?_
    refine G_val rfl rfl rfl rfl (V_move rfl rfl) ?_
    refine G_val rfl rfl rfl rfl (V_fieldAddr (fo := 0) rfl Tryd.underlying48 rfl infLawSnapPuts_3 rfl rfl rfl) ?_
    refine G_val rfl rfl rfl rfl (V_load1 rfl rfl (mem_at 0 rfl) rfl Tryd.underlying3 rfl) ?_
    refine G_val rfl rfl rfl rfl (V_fieldAddr (fo := 1) rfl Tryd.underlying48 rfl infLawSnapPuts_3 rfl rfl rfl) ?_
    refine G_val rfl rfl rfl rfl (V_load1 rfl rfl (mem_at 0 rfl) rfl Tryd.underlying3 rfl) ?_
    refine G_val rfl rfl rfl rfl (V_fieldAddr (fo := 2) rfl Tryd.underlying48 rfl infLawSnapPuts_22 rfl rfl rfl) ?_
    refine G_val rfl rfl rfl rfl (V_load1 rfl rfl (mem_at 0 rfl) rfl Tryd.underlying22 rfl) ?_
    refine G_val rfl rfl rfl rfl (V_move rfl rfl) ?_
    refine G_val rfl rfl rfl rfl (V_slen rfl rfl Tryd.underlying9 rfl) ?_
    refine G_call (L2 := [_, _, _, _, _]) rfl rfl rfl rfl rfl rfl Tryd.call21 ((sn_get d 20 lb lcap lcs1 uw1 (putK (newD 20) f b e s) h1 f b e hf0 hf1 hb0 hb1 he (s.length : Int) (by omega) p2).weaken (fun v post h => by rw [p3, p4] at h; exact h)) [] [2, 3, 4] rfl rfl ?_
    rintro v post ⟨rfl, rfl⟩
    show G _ _ _ [_, _, _, _, _] _
    refine G_val rfl rfl rfl rfl (V_move rfl rfl) ?_
    refine G_val rfl rfl rfl rfl (V_extract rfl rfl rfl) ?_
    refine G_val rfl rfl rfl rfl (V_extract rfl rfl rfl) ?_
    refine G_val rfl rfl rfl rfl (V_assign rfl rfl) ?_
    refine G_val rfl rfl rfl rfl (V_assign rfl rfl) ?_
    refine G_done ?_
    refine G_seq ?_
    refine G_region (l := [0, 1, 2, 3, 4, 5, 6, 7, 8, 9, 10, 11]) rfl ?_
    refine G_val rfl rfl rfl rfl (V_move rfl rfl) ?_
    refine G_val rfl rfl rfl rfl (V_move rfl rfl) ?_
    refine G_val rfl rfl rfl rfl (V_seql rfl rfl rfl) ?_
    refine G_val rfl rfl rfl rfl (V_move rfl rfl) ?_
    refine G_splitD 135 rfl (fun hc9 => ?_) (fun hc9 => ?_)
    rotate_left
    · (first | (exact absurd rfl hc9) | (exact absurd hc9 (by decide)) | (exact absurd (by decide) hc9) | (exfalso; omega))
    refine G_val rfl rfl rfl rfl (V_move rfl rfl) ?_
    refine G_call (L2 := [_, _, _, _, _]) rfl rfl rfl rfl rfl rfl Tryd.call19 (sl_num _) [] [] rfl rfl ?_
    rintro v post ⟨rfl, rfl⟩
    show G _ _ _ [_, _, _, _, _] _
    refine G_val rfl rfl rfl rfl (V_eql rfl rfl rfl) ?_
    refine G_val rfl rfl rfl rfl (V_pickT rfl rfl rfl) ?_
    refine G_val rfl rfl rfl rfl (V_move rfl rfl) ?_
    refine G_splitD 140 rfl (fun hc10 => ?_) (fun hc10 => ?_)
    rotate_left
    · (first | (exact absurd rfl hc10) | (exact absurd hc10 (by decide)) | (exact absurd (by decide) hc10) | (exfalso; omega))
    refine G_call (L2 := [_, _, _, _, _]) rfl rfl rfl rfl rfl rfl Tryd.call16 (snl_live) [] [] rfl rfl ?_
    rintro v post ⟨rfl, rfl⟩
    show G _ _ _ [_, _, _, _, _] _
    refine G_val rfl rfl rfl rfl (V_pickT rfl rfl rfl) ?_
    refine G_val rfl rfl rfl rfl (V_assign rfl rfl) ?_
    refine G_done ?_
    refine G_ret (post := []) Tryd.func6 rfl (RVs_cons (RV_tmp rfl) RVs_nil) [] rfl ?_
    dsimp only [packed]
    exact ⟨rfl, rfl⟩


set_option maxRecDepth 100000 in
theorem where_types : Tryd.prog.cellTypes Tryd.prog.depth 48 = some [3, 3, 22] := by kernel_rfl
set_option maxRecDepth 100000 in
theorem snapPuts_walk : LawWalk 6 Tryd.f6 := lawwalk_reads (fun W base args hs hval => by
  rw [Tryd.params6] at hs hval
  obtain ⟨l⟩ := args
  match l, hs with
  | [a, b], _ =>
    obtain ⟨cs, rfl, hl, hc⟩ := okv_agg (s := 3) (hval 0 48 a rfl rfl).1 Tryd.underlying48 rfl where_types (by kernel_rfl) rfl
    obtain ⟨t, rfl, pt⟩ := okc_str (okv_cell (hval 1 9 b rfl rfl).1 Tryd.underlying9 rfl) Tryd.underlying9
    match cs, hl, hc with
    | [v0, v1, v2], _, hc =>
      obtain ⟨n0, rfl, a0, b0⟩ := okc_int (hc 0 v0 3 rfl rfl) Tryd.underlying3
      obtain ⟨n1, rfl, a1, b1⟩ := okc_int (hc 1 v1 3 rfl rfl) Tryd.underlying3
      obtain ⟨n2, rfl, a2, b2⟩ := okc_int (hc 2 v2 22 rfl rfl) Tryd.underlying22
      have b2 : n2 ≤ (4294967295 : Int) := b2
      obtain ⟨m2, rfl⟩ := Int.eq_ofNat_of_zero_le (show (0 : Int) ≤ n2 from a2)
      exact ⟨_, has_nil _, snapPuts_all n0 n1 m2 t a0 b0 a1 b1 (by omega) pt⟩)


set_option maxRecDepth 100000 in
theorem snapPuts_lifted (os : Os) (started : os.Started) (H : Type) (enc : TypeId × Value → H) :
    ReturnsInHanded {} Tryd.checked os 6 .any (fun w args => (Rows.snapPutsSpec.pre enc Tryd.prog Tryd.f6 [] false w args ∧ laidMetH Tryd.prog Rows.snapPutsRow.laid w) ∧ sizedMet enc Tryd.prog Tryd.f6 (OpenSpec.ofChange Rows.snapPutsSpec) false w args)
      (Rows.snapPutsSpec.post enc Tryd.prog Tryd.f6 false true false false) := by
  refine returnsInHanded_of_change_and (C := Tryd.checked) (X := fun w _ => laidMetH Tryd.prog Rows.snapPutsRow.laid w) (fun _ _ _ hh h => h.of_heap hh) Tryd.ownK started (by kernel_rfl) Tryd.func6
    (ChangeSpec.witness_shaped (enc := enc) (C := Tryd.checked) (os := os) (X := fun w _ => laidMetH Tryd.prog Rows.snapPutsRow.laid w) false (World.laidAll Tryd.prog os Rows.snapPutsRow.laid) #[.agg #[.int .i64 0, .int .i64 0, .int .u32 0], .string ByteArray.empty] 8 (World.laidAll_os _ _ _)
      (World.shaped_of_ZipB (by kernel_rfl) (by kernel_rfl)) (by kernel_rfl) (by kernel_rfl) (by kernel_rfl)
      (by rw [MakeChecks.laidMetH_plain _ _ _ (by kernel_rfl)]; exact laidMet_laidAll _ (by kernel_rfl) (by kernel_rfl))) ?_
  intro W base args ds gs before hval hW _ _ _ _
  exact law_end (s := Rows.snapPutsSpec) rfl (by kernel_rfl) (by kernel_rfl) (by decide +kernel) (fun ds h => by match ds, h with | [_, _], _ => rfl) snapPuts_walk W base args ds gs before hval hW
theorem snapPuts_said : Rows.SnapPutsSaid :=
  OpenClaim.holds_of_wide 6 Tryd.f6 rfl rfl rfl rfl rfl rfl rfl ⟨rfl, rfl, rfl, rfl, rfl⟩ rfl rfl rfl rfl rfl (by kernel_rfl) Tryd.func6 (by kernel_rfl)
    (of_decide_eq_true (by kernel_rfl)) (by unfold Func.isWrapper; first | (rw [if_pos (by decide +kernel)]; kernel_rfl) | (rw [if_neg (by decide +kernel)]; exact ⟨rfl, rfl⟩))
    (fun os started H enc _ => snapPuts_lifted os started H enc)
theorem snapPuts_holds : Rows.SnapPutsCardSaid :=
  Claim7.holds_tied_plain_at .later [] _ _ _ _ snapPuts_said (fun _ h => by cases h) (by kernel_rfl) (fun _ h => by cases h) snapPuts_row_tie rfl ⟨rfl, rfl⟩ (by kernel_rfl) rfl
    (fun f fn hf hfn => by
      obtain rfl : f = 6 := Option.some.inj ((show Tryd.prog.funcNamed "billet/billetlaw27.SnapPuts" = some 6 by kernel_rfl).symm.trans hf) |>.symm
      obtain rfl : fn = Tryd.f6 := (Option.some.inj (Tryd.func6.symm.trans hfn)).symm
      exact ⟨by kernel_rfl, fun j t ht => by
        rw [Tryd.params6] at ht
        have hm : t ∈ [48, 9] := by simpa using Array.mem_of_getElem? ht
        have hall : ([48, 9].all fun u => !Tryd.prog.wantsStandIn u) = true := by kernel_rfl
        exact (show Tryd.prog.wantsStandIn t = false by simpa using List.all_eq_true.1 hall t hm)⟩)
    (by kernel_rfl)
#print axioms snapPuts_holds

end
end Go.Proofs.YtbblkgdejgoncaaDoor
