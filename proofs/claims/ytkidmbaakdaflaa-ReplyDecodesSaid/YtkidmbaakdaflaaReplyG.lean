/- The walk of the document's reply.Decode. -/
import Derived.Test.YtkidmbaakdaflaaReplyE
import Derived.Test.YtkidmbaakdaflaaReplyQ
import Derived.Test.YtkidmbaakdaflaaG12
set_option linter.unusedSimpArgs false
set_option linter.unusedVariables false
namespace Go.Proofs.Ytkidmbaakdaflaa
open Go Go.RowKit

section
theorem infReplyG_3 : Try.prog.info? 3 = some Try.t3 := by kernel_rfl
theorem infReplyG_9 : Try.prog.info? 9 = some Try.t9 := by kernel_rfl
theorem infReplyG_22 : Try.prog.info? 22 = some Try.t22 := by kernel_rfl
theorem infReplyG_23 : Try.prog.info? 23 = some Try.t23 := by kernel_rfl
theorem infReplyG_25 : Try.prog.info? 25 = some Try.t25 := by kernel_rfl
theorem infReplyG_96 : Try.prog.info? 96 = some Try.t96 := by kernel_rfl
theorem infReplyG_133 : Try.prog.info? 133 = some Try.t133 := by kernel_rfl
theorem plcReplyG_25 : placesOf Try.prog (Try.prog.fieldsOf 25) = some [(0, 1), (1, 1), (2, 1), (3, 1), (4, 1), (5, 1), (6, 1), (7, 1), (8, 1), (9, 1), (10, 1), (11, 1)] := by kernel_rfl
theorem plcReplyG_96 : placesOf Try.prog (Try.prog.fieldsOf 96) = some [(0, 1), (1, 1), (2, 1), (3, 1), (4, 1), (5, 1)] := by kernel_rfl
theorem plcReplyG_133 : placesOf Try.prog (Try.prog.fieldsOf 133) = some [(0, 1), (1, 1)] := by kernel_rfl


attribute [local irreducible] dTo dCode dNums dCmd dLen ltNs ltTx ltN
theorem own_some {sz n cap : Nat} {ob : Option Nat} {cs : Array Value} {fz : Nat × Nat} {xs : List Value} (h : Own sz ⟨ob, cs, fz, cap⟩ xs n) (hn : 0 < n) : ∃ b, ob = some b := h.isSome hn
theorem own_num {n cap : Nat} {ob : Option Nat} {cs : Array Value} {fz : Nat × Nat} {ns : List Nat} (h : Own 1 ⟨ob, cs, fz, cap⟩ (ns.map nCell) n) (i : Nat) (hi : i < ns.length) : cs[0 + i * 1]? = some (.int .i64 (g ns i)) := by
  have := h.nth (i := i) (v := nCell ns[i]) (by simp [hi])
  rw [Nat.mul_one, Nat.zero_add]
  rw [this]
  simp [nCell, g, List.getD_eq_getElem?_getD, hi]
theorem some_next (l : List UInt8) (e i : Nat) : (rdI 1099511627776 l e i).1.map nCell ++ [.int .i64 (((rdInt 1099511627776 (rdI 1099511627776 l e i).2.1 (rdI 1099511627776 l e i).2.2).1 : Nat) : Int)] = (rdI 1099511627776 l e (i + 1)).1.map nCell := by simp [rdI, nCell]

set_option maxRecDepth 100000 in
set_option maxHeartbeats 1000000 in
theorem rr_some (b : Nat) (l : List UInt8) (e n : Nat) (hn : n < 1000) (hl : l.length ≤ 140737488351232) (he : e ≤ 1000) :
    Ct Try.prog 91 [.pointer (some ⟨b, 0, none⟩), .int .i64 (n : Int)] [] [(some b, .cells #[.string (bs l), .int .i64 ((e : Nat) : Int)] 133 (0, 0))] fun r post => ∃ u : Sl, Own 1 u ((rdI 1099511627776 l e n).1.map nCell) n ∧ r = u.v n ∧ post = [(some b, .cells #[.string (bs (rdI 1099511627776 l e n).2.1), .int .i64 (((rdI 1099511627776 l e n).2.2 : Nat) : Int)] 133 (0, 0)), (u.ob, .cells u.cs 3 u.fz)] := by
 refine ct_of Try.func91 rfl rfl (fun w0 => ?_)
 show G _ _ [(0, _), (1, _)] _ _
 refine G_seq ?_
 refine G_region (l := [0]) rfl ?_
 refine G_val rfl rfl rfl rfl (V_assign rfl rfl) ?_
 refine G_done ?_
 refine G_seq ?_
 refine G_region (l := [0, 1]) rfl ?_
 refine G_new rfl rfl rfl rfl (N_build0 rfl Try.underlying104 infReplyG_3) (fun b7 => ?_)
 refine G_val rfl rfl rfl rfl (V_assign rfl rfl) ?_
 refine G_done ?_
 refine G_seq ?_
 refine G_seq ?_
 refine G_region (l := [0]) rfl ?_
 refine G_val rfl rfl rfl rfl (V_assign rfl rfl) ?_
 refine G_done ?_
 refine G_block ?_
 refine G_sub ?he3 [1, 0] ?hl3 (G_loop (X := Nat × Sl) (fun x => match x with | ⟨i, u⟩ => i ≤ n ∧ Own 1 u ((rdI 1099511627776 l e i).1.map nCell) i) (fun x => match x with | ⟨i, u⟩ => n - i) (fun x => match x with | ⟨i, u⟩ => [(0, .pointer (some ⟨b, 0, none⟩)), (1, .int .i64 (n : Int)), (5, u.v i), (6, .int .i64 (i : Int))]) (fun x => match x with | ⟨i, u⟩ => [(some b, .cells #[.string (bs (rdI 1099511627776 l e i).2.1), .int .i64 (((rdI 1099511627776 l e i).2.2 : Nat) : Int)] 133 (0, 0)), (u.ob, .cells u.cs 3 u.fz)]) ?round3 (0, ⟨some b7, #[], (0, 0), 0⟩) ?h03)
 case he3 => exact (And.intro rfl (And.intro rfl (And.intro rfl (And.intro rfl trivial))))
 case hl3 => exact ⟨_, rfl⟩
 case h03 => exact ⟨Nat.zero_le _, own_empty 1 b7⟩
 case round3 =>
  intro x hJ ih
  try dsimp only at hJ ih
  obtain ⟨i, u⟩ := x
  try dsimp only at hJ ih
  obtain ⟨hi, hux⟩ := hJ
  show G _ _ [(0, .pointer (some ⟨b, 0, none⟩)), (1, .int .i64 (n : Int)), (5, u.v i), (6, .int .i64 (i : Int))] [(some b, .cells #[.string (bs (rdI 1099511627776 l e i).2.1), .int .i64 (((rdI 1099511627776 l e i).2.2 : Nat) : Int)] 133 (0, 0)), (u.ob, .cells u.cs 3 u.fz)] _
  refine G_seq ?_
  refine G_seq ?_
  refine G_region (l := [0, 1, 2]) rfl ?_
  refine G_val rfl rfl rfl rfl (V_move rfl rfl) ?_
  refine G_val rfl rfl rfl rfl (V_move rfl rfl) ?_
  refine G_val rfl rfl rfl rfl (V_lss rfl rfl rfl) ?_
  refine G_done ?_
  refine G_ifD rfl (fun hc1 => ?_) (fun hc1 => ?_)
  · skip
    refine G_skip ?_
    refine G_seq ?_
    refine G_block ?_
    obtain ⟨k1, k2, k3, k4⟩ := rdI_bd 1099511627776 l e he (by omega) i
    refine G_region (l := [0, 1, 2, 3, 4, 5]) rfl ?_
    refine G_val rfl rfl rfl rfl (V_move rfl rfl) ?_
    refine G_val rfl rfl rfl rfl (V_move rfl rfl) ?_
    refine G_call (L2 := [_]) rfl rfl rfl rfl rfl rfl Try.call92 (rrd_int _ _ _ _ (by first | omega | (simp [ltCells, rpCells, Sl.v, rpCells, Sl.v]; done) | (simp [ltCells, rpCells, Sl.v, rpCells, Sl.v]; omega) | (simp [ltCells, rpCells, Sl.v, rpCells, Sl.v] at *; omega)) (by omega) ⟨by omega, by omega⟩) [0] [] rfl rfl ?_
    rintro v post ⟨rfl, rfl⟩
    show G _ _ _ [_, _] _
    refine G_new rfl rfl rfl rfl (N_buildAll (s := 1) (cs := [_]) rfl Try.underlying104 infReplyG_3 rfl rfl rfl rfl rfl rfl rfl rfl rfl) (fun b16 => ?_)
    refine G_append (l1 := [_, _]) (s := u) (nn := i) (m := 1) (news := [.int .i64 (((rdInt 1099511627776 (rdI 1099511627776 l e i).2.1 (rdI 1099511627776 l e i).2.2).1 : Nat) : Int)]) (bt := 8) rfl rfl rfl rfl Try.underlying104 Try.underlying104 (by first | exact .inl rfl | exact .inr ⟨_, rfl⟩) infReplyG_3 rfl rfl rfl rfl rfl rfl hux rfl (src_mem (mem_at 0 rfl) rfl rfl (by simp [Value.oneCell'])) (by omega) (by omega) ?_
    intro u1 hu1 _
    show G _ _ _ [_, _, _] _
    refine G_val rfl rfl rfl rfl (V_assign rfl rfl) ?_
    refine G_done ?_
    refine G_inBlock ?_
    refine G_region (l := [0, 1, 2]) rfl ?_
    refine G_val rfl rfl rfl rfl (V_move rfl rfl) ?_
    first
      | refine G_val rfl rfl rfl rfl ((V_add rfl rfl rfl).int (wrap_i64 (by omega))) ?_
      | refine G_val rfl rfl rfl rfl (V_add rfl rfl rfl) ?_
    refine G_val rfl rfl rfl rfl (V_assign rfl rfl) ?_
    refine G_done ?_
    refine G_sub ?_ [1, 1] ?_ (ih (i + 1, u1) ?_ ?_)
    · (refine (And.intro ?_ (And.intro ?_ (And.intro ?_ (And.intro ?_ trivial)))) <;> first | rfl | exact slot_int (by omega) | exact slot_int (by simp))
    · exact ⟨_, rfl⟩
    · exact ⟨by omega, by rw [← some_next]; exact hu1⟩
    · (first | omega | (dsimp only; omega))
  refine G_exit rfl ?_
  refine G_seq ?_
  refine G_region (l := [0, 1]) rfl ?_
  refine G_val rfl rfl rfl rfl (V_move rfl rfl) ?_
  refine G_val rfl rfl rfl rfl (V_assign rfl rfl) ?_
  refine G_done ?_
  refine G_ret (post := [_, _]) Try.func91 rfl (RVs_cons (RV_tmp rfl) RVs_nil) [0, 0] rfl ?_
  dsimp only [packed]
  obtain rfl : i = n := by omega
  exact ⟨u, hux, rfl, rfl⟩

theorem k_to (b : Nat) (l : List UInt8) (hl : l.length ≤ 140737488350000) : Ct Try.prog 90 [.pointer (some ⟨b, 0, none⟩), .int .i64 100] [] [(some b, .cells #[.string (bs l), .int .i64 ((0 : Nat) : Int)] 133 (0, 0))] (fun r post => r = .string (bs (dTo l).1) ∧ post = [(some b, .cells #[.string (bs (dTo l).2.1), .int .i64 (((dTo l).2.2 : Nat) : Int)] 133 (0, 0))]) := by
  unfold dTo; exact rrd_str b l 0 100 (by omega) (by omega) ⟨by omega, by omega⟩
theorem k_cmd (b : Nat) (l : List UInt8) (hl : l.length ≤ 140737488350000) : Ct Try.prog 90 [.pointer (some ⟨b, 0, none⟩), .int .i64 100] [] [(some b, .cells #[.string (bs (dNums l).2.1), .int .i64 (((dNums l).2.2 : Nat) : Int)] 133 (0, 0))] (fun r post => r = .string (bs (dCmd l).1) ∧ post = [(some b, .cells #[.string (bs (dCmd l).2.1), .int .i64 (((dCmd l).2.2 : Nat) : Int)] 133 (0, 0))]) := by
  have h := dNums_bd l; unfold dCmd; exact rrd_str b _ _ 100 (by omega) h.2.2 ⟨by omega, by omega⟩
theorem k_len (b : Nat) (l : List UInt8) (hl : l.length ≤ 140737488350000) : Ct Try.prog 92 [.pointer (some ⟨b, 0, none⟩), .int .i64 32] [] [(some b, .cells #[.string (bs (dCmd l).2.1), .int .i64 (((dCmd l).2.2 : Nat) : Int)] 133 (0, 0))] (fun r post => r = .int .i64 (((dLen l).1 : Nat) : Int) ∧ post = [(some b, .cells #[.string (bs (dLen l).2.1), .int .i64 (((dLen l).2.2 : Nat) : Int)] 133 (0, 0))]) := by
  have h := dCmd_bd l; unfold dLen; exact rrd_int b _ _ 32 (by omega) h.2 ⟨by omega, by omega⟩
theorem k_lttx (b : Nat) (l : List UInt8) (e : Nat) (hl : l.length ≤ 140737488350000) (he : e ≤ 1000) : Ct Try.prog 90 [.pointer (some ⟨b, 0, none⟩), .int .i64 100] [] [(some b, .cells #[.string (bs (ltNs l e).2.1), .int .i64 (((ltNs l e).2.2 : Nat) : Int)] 133 (0, 0))] (fun r post => r = .string (bs (ltTx l e).1) ∧ post = [(some b, .cells #[.string (bs (ltTx l e).2.1), .int .i64 (((ltTx l e).2.2 : Nat) : Int)] 133 (0, 0))]) := by
  obtain ⟨_, h1, h2, _⟩ := ltOf_bd l e he; unfold ltTx; exact rrd_str b _ _ 100 (by omega) h2 ⟨by omega, by omega⟩
theorem k_ltn (b : Nat) (l : List UInt8) (e : Nat) (hl : l.length ≤ 140737488350000) (he : e ≤ 1000) : Ct Try.prog 93 [.pointer (some ⟨b, 0, none⟩)] [] [(some b, .cells #[.string (bs (ltTx l e).2.1), .int .i64 (((ltTx l e).2.2 : Nat) : Int)] 133 (0, 0))] (fun r post => r = .int .u64 (((ltN l e).1 : Nat) : Int) ∧ post = [(some b, .cells #[.string (bs (ltN l e).2.1), .int .i64 (((ltN l e).2.2 : Nat) : Int)] 133 (0, 0))]) := by
  obtain ⟨_, _, _, _, h1, h2, _⟩ := ltOf_bd l e he; unfold ltN; exact rrd_num b _ _ (by omega) h2

def d9 (l : List UInt8) : List Nat := (dCode l).1 :: (dNums l).1
theorem d9_eq (l : List UInt8) : rdI 1099511627776 (dTo l).2.1 (dTo l).2.2 9 = (d9 l, (dNums l).2) := by
  rw [rdI_front, ]
  have e : rdInt 1099511627776 (dTo l).2.1 (dTo l).2.2 = dCode l := by unfold dCode; rfl
  have e2 : rdI 1099511627776 (dCode l).2.1 (dCode l).2.2 8 = dNums l := by unfold dNums; rfl
  rw [e, e2]; rfl
theorem d9_len (l : List UInt8) : (d9 l).length = 9 := by unfold d9; rw [List.length_cons, (dNums_bd l).1]
theorem k_nums (b : Nat) (l : List UInt8) (hl : l.length ≤ 140737488350000) : Ct Try.prog 91 [.pointer (some ⟨b, 0, none⟩), .int .i64 9] [] [(some b, .cells #[.string (bs (dTo l).2.1), .int .i64 (((dTo l).2.2 : Nat) : Int)] 133 (0, 0))] (fun r post => ∃ u : Sl, Own 1 u ((d9 l).map nCell) 9 ∧ r = u.v 9 ∧ post = [(some b, .cells #[.string (bs (dNums l).2.1), .int .i64 (((dNums l).2.2 : Nat) : Int)] 133 (0, 0)), (u.ob, .cells u.cs 3 u.fz)]) := by
  have h := dTo_bd l
  have := rr_some b (dTo l).2.1 (dTo l).2.2 9 (by omega) (by omega) h.2
  rw [d9_eq] at this
  exact this
theorem k_ltns (b : Nat) (l : List UInt8) (e : Nat) (hl : l.length ≤ 140737488350000) (he : e ≤ 1000) : Ct Try.prog 91 [.pointer (some ⟨b, 0, none⟩), .int .i64 4] [] [(some b, .cells #[.string (bs l), .int .i64 ((e : Nat) : Int)] 133 (0, 0))] (fun r post => ∃ u : Sl, Own 1 u ((ltNs l e).1.map nCell) 4 ∧ r = u.v 4 ∧ post = [(some b, .cells #[.string (bs (ltNs l e).2.1), .int .i64 (((ltNs l e).2.2 : Nat) : Int)] 133 (0, 0)), (u.ob, .cells u.cs 3 u.fz)]) := by
  have := rr_some b l e 4 (by omega) (by omega) he
  have e2 : rdI 1099511627776 l e 4 = ltNs l e := by unfold ltNs; rfl
  rw [e2] at this
  exact this
theorem st_1 (r : Rp) (s : Value) (x : Int) : (rpCells r s).toArray.setIfInBounds 1 (.int .i64 x) = (rpCells { r with code := x } s).toArray := rfl
theorem st_2 (r : Rp) (s : Value) (x : Int) : (rpCells r s).toArray.setIfInBounds 2 (.int .i64 x) = (rpCells { r with op := x } s).toArray := rfl
theorem st_3 (r : Rp) (s : Value) (x : Int) : (rpCells r s).toArray.setIfInBounds 3 (.int .i64 x) = (rpCells { r with state := x } s).toArray := rfl
theorem st_4 (r : Rp) (s : Value) (x : Int) : (rpCells r s).toArray.setIfInBounds 4 (.int .i64 x) = (rpCells { r with epoch := x } s).toArray := rfl
theorem st_5 (r : Rp) (s : Value) (x : Int) : (rpCells r s).toArray.setIfInBounds 5 (.int .i64 x) = (rpCells { r with tries := x } s).toArray := rfl
theorem st_6 (r : Rp) (s : Value) (x : Int) : (rpCells r s).toArray.setIfInBounds 6 (.int .i64 x) = (rpCells { r with cls := x } s).toArray := rfl
theorem st_7 (r : Rp) (s : Value) (x : Int) : (rpCells r s).toArray.setIfInBounds 7 (.int .i64 x) = (rpCells { r with cost := x } s).toArray := rfl
theorem st_8 (r : Rp) (s : Value) (x : Int) : (rpCells r s).toArray.setIfInBounds 8 (.int .i64 x) = (rpCells { r with a := x } s).toArray := rfl
theorem st_9 (r : Rp) (s : Value) (x : Int) : (rpCells r s).toArray.setIfInBounds 9 (.int .i64 x) = (rpCells { r with b := x } s).toArray := rfl
theorem g9_0 (l : List UInt8) : g (d9 l) 0 = (((dCode l).1 : Nat) : Int) := rfl
theorem g9_s (l : List UInt8) (i : Nat) : g (d9 l) (i + 1) = g (dNums l).1 i := rfl

set_option maxRecDepth 100000 in
set_option maxHeartbeats 1000000 in
theorem rr_decode (l : List UInt8) (hl : l.length ≤ 140737488350000) :
    Ct Try.prog 22 [.string (bs l)] [] [] fun r post => ∃ u : Sl, Own 6 u ((decLs l).flatMap ltCells) (decLs l).length ∧ r = .tuple #[.agg (rpCells (decRp l) (u.v (decLs l).length)).toArray, .int .i64 (decE l)] ∧ post = [(u.ob, .cells u.cs 96 u.fz)] := by
 have h1 := dTo_bd l
 have h2 := dCode_bd l
 have h3 := dNums_bd l
 have h4 := dCmd_bd l
 have h5 := dLen_bd l
 refine ct_of Try.func22 rfl rfl (fun w0 => ?_)
 show G _ _ [(0, _)] _ _
 refine G_seq ?_
 refine G_region (l := [0, 1]) rfl ?_
 refine G_new rfl rfl rfl rfl (N_allocA rfl infReplyG_25 rfl) (fun b2 => ?_)
 refine G_val rfl rfl rfl rfl (V_assign rfl rfl) ?_
 refine G_done ?_
 refine G_seq ?_
 refine G_region (l := [0, 1, 2, 3]) rfl ?_
 refine G_val rfl rfl rfl rfl (V_move rfl rfl) ?_
 refine G_val rfl rfl rfl rfl (V_buildS (cs := [_, _]) rfl Try.underlying133 infReplyG_133 rfl plcReplyG_133 rfl rfl rfl) ?_
 refine G_new rfl rfl rfl rfl (N_boxA rfl rfl) (fun b13 => ?_)
 refine G_val rfl rfl rfl rfl (V_assign rfl rfl) ?_
 refine G_done ?_
 refine G_seq ?_
 refine G_region (l := [0, 1, 2, 3, 4]) rfl ?_
 refine G_val rfl rfl rfl rfl (V_move rfl rfl) ?_
 refine G_call (L2 := [_]) rfl rfl rfl rfl rfl rfl Try.call90 (k_to _ l hl) [0] [] rfl rfl ?_
 rintro v post ⟨rfl, rfl⟩
 show G _ _ _ [_, _] _
 refine G_val rfl rfl rfl rfl (V_buildS (cs := [_, _, _, _, _, _, _, _, _, _, _, _]) rfl Try.underlying25 infReplyG_25 rfl plcReplyG_25 rfl rfl rfl) ?_
 refine G_new rfl rfl rfl rfl (N_allocA rfl infReplyG_25 rfl) (fun b5 => ?_)
 refine G_put (l1 := []) (L' := [_, _, _]) rfl rfl rfl rfl (P_storeA (s := 12) rfl rfl rfl (mem_at 0 rfl) (by first | rfl | (simp [bcells_length, ltCells, rpCells, Sl.v, rpCells, Sl.v]; done) | (simp [bcells_length, ltCells, rpCells, Sl.v, rpCells, Sl.v]; omega) | (simp [bcells_length, *, ltCells, rpCells, Sl.v, rpCells, Sl.v]; done)) infReplyG_25 rfl (by first | rfl | (simp [bcells_length, ltCells, rpCells, Sl.v, rpCells, Sl.v]; done) | (simp [bcells_length, ltCells, rpCells, Sl.v, rpCells, Sl.v]; omega) | (simp [bcells_length, *, ltCells, rpCells, Sl.v, rpCells, Sl.v]; done)) (by first | rfl | exact bcells_all _ | (simp [Value.oneCell', ltCells, rpCells, Sl.v, rpCells, Sl.v]; done) | (simp [Value.oneCell', *, ltCells, rpCells, Sl.v, rpCells, Sl.v]; done))) rfl ?_
 refine G_done ?_
 refine G_seq ?_
 show G _ _ _ [(some b5, .cells (rpCells ⟨(dTo l).1, 0, 0, 0, 0, 0, 0, 0, 0, 0, []⟩ (.slice none 0 0)).toArray 25 (0, 0)), _, _] _
 refine G_region (l := [0, 1, 2]) rfl ?_
 refine G_val rfl rfl rfl rfl (V_move rfl rfl) ?_
 refine G_call (L2 := [_, _]) rfl rfl rfl rfl rfl rfl Try.call91 (k_nums _ l hl) [1] [] rfl rfl ?_
 rintro v post ⟨⟨ob, cs, fz, cap⟩, hu9, rfl, rfl⟩
 show G _ _ _ [_, _, _, _] _
 obtain ⟨bn, rfl⟩ := own_some hu9 (by omega)
 refine G_val rfl rfl rfl rfl (V_assign rfl rfl) ?_
 refine G_done ?_
 refine G_seq ?_
 refine G_region (l := [0, 1, 2, 3, 4]) rfl ?_
 refine G_val rfl rfl rfl rfl (V_move rfl rfl) ?_
 first
   | refine G_val rfl rfl rfl rfl (V_indexAddrN rfl Try.underlying104 infReplyG_3 rfl rfl rfl rfl (by omega)) ?_
   | refine G_val rfl rfl rfl rfl (V_indexAddr rfl Try.underlying104 infReplyG_3 rfl rfl rfl (by omega) (by first | omega | (simp [ltCells, rpCells, Sl.v, rpCells, Sl.v]; done) | (simp [ltCells, rpCells, Sl.v, rpCells, Sl.v]; omega) | (simp [ltCells, rpCells, Sl.v, rpCells, Sl.v] at *; omega))) ?_
 refine G_val rfl rfl rfl rfl (V_load1 rfl rfl (mem_at 1 rfl) (nth_of (own_num hu9 0 (by rw [d9_len]; omega))) Try.underlying3 rfl) ?_
 refine G_val rfl rfl rfl rfl (V_fieldAddr (fo := 1) rfl Try.underlying25 rfl infReplyG_22 rfl rfl rfl) ?_
 refine G_put (l1 := [_, _]) (L' := [_, _, _, _]) rfl rfl rfl rfl (P_store1 rfl rfl rfl (mem_at 2 rfl) (by first | exact of_decide_eq_true rfl | omega | (simp [ltCells, rpCells, Sl.v, rpCells, Sl.v]; done) | (simp [ltCells, rpCells, Sl.v, rpCells, Sl.v]; omega) | (simp [ltCells, rpCells, Sl.v, rpCells, Sl.v] at *; omega)) infReplyG_22 rfl rfl) rfl ?_
 rw [st_1]
 refine G_done ?_
 refine G_seq ?_
 refine G_region (l := [0, 1, 2, 3, 4]) rfl ?_
 refine G_val rfl rfl rfl rfl (V_move rfl rfl) ?_
 first
   | refine G_val rfl rfl rfl rfl (V_indexAddrN rfl Try.underlying104 infReplyG_3 rfl rfl rfl rfl (by omega)) ?_
   | refine G_val rfl rfl rfl rfl (V_indexAddr rfl Try.underlying104 infReplyG_3 rfl rfl rfl (by omega) (by first | omega | (simp [ltCells, rpCells, Sl.v, rpCells, Sl.v]; done) | (simp [ltCells, rpCells, Sl.v, rpCells, Sl.v]; omega) | (simp [ltCells, rpCells, Sl.v, rpCells, Sl.v] at *; omega))) ?_
 refine G_val rfl rfl rfl rfl (V_load1 rfl rfl (mem_at 1 rfl) (nth_of (own_num hu9 1 (by rw [d9_len]; omega))) Try.underlying3 rfl) ?_
 refine G_val rfl rfl rfl rfl (V_fieldAddr (fo := 2) rfl Try.underlying25 rfl infReplyG_3 rfl rfl rfl) ?_
 refine G_put (l1 := [_, _]) (L' := [_, _, _, _]) rfl rfl rfl rfl (P_store1 rfl rfl rfl (mem_at 2 rfl) (by first | exact of_decide_eq_true rfl | omega | (simp [ltCells, rpCells, Sl.v, rpCells, Sl.v]; done) | (simp [ltCells, rpCells, Sl.v, rpCells, Sl.v]; omega) | (simp [ltCells, rpCells, Sl.v, rpCells, Sl.v] at *; omega)) infReplyG_3 rfl rfl) rfl ?_
 rw [st_2]
 refine G_done ?_
 refine G_seq ?_
 refine G_region (l := [0, 1, 2, 3, 4]) rfl ?_
 refine G_val rfl rfl rfl rfl (V_move rfl rfl) ?_
 first
   | refine G_val rfl rfl rfl rfl (V_indexAddrN rfl Try.underlying104 infReplyG_3 rfl rfl rfl rfl (by omega)) ?_
   | refine G_val rfl rfl rfl rfl (V_indexAddr rfl Try.underlying104 infReplyG_3 rfl rfl rfl (by omega) (by first | omega | (simp [ltCells, rpCells, Sl.v, rpCells, Sl.v]; done) | (simp [ltCells, rpCells, Sl.v, rpCells, Sl.v]; omega) | (simp [ltCells, rpCells, Sl.v, rpCells, Sl.v] at *; omega))) ?_
 refine G_val rfl rfl rfl rfl (V_load1 rfl rfl (mem_at 1 rfl) (nth_of (own_num hu9 2 (by rw [d9_len]; omega))) Try.underlying3 rfl) ?_
 refine G_val rfl rfl rfl rfl (V_fieldAddr (fo := 3) rfl Try.underlying25 rfl infReplyG_3 rfl rfl rfl) ?_
 refine G_put (l1 := [_, _]) (L' := [_, _, _, _]) rfl rfl rfl rfl (P_store1 rfl rfl rfl (mem_at 2 rfl) (by first | exact of_decide_eq_true rfl | omega | (simp [ltCells, rpCells, Sl.v, rpCells, Sl.v]; done) | (simp [ltCells, rpCells, Sl.v, rpCells, Sl.v]; omega) | (simp [ltCells, rpCells, Sl.v, rpCells, Sl.v] at *; omega)) infReplyG_3 rfl rfl) rfl ?_
 rw [st_3]
 refine G_done ?_
 refine G_seq ?_
 refine G_region (l := [0, 1, 2, 3, 4]) rfl ?_
 refine G_val rfl rfl rfl rfl (V_move rfl rfl) ?_
 first
   | refine G_val rfl rfl rfl rfl (V_indexAddrN rfl Try.underlying104 infReplyG_3 rfl rfl rfl rfl (by omega)) ?_
   | refine G_val rfl rfl rfl rfl (V_indexAddr rfl Try.underlying104 infReplyG_3 rfl rfl rfl (by omega) (by first | omega | (simp [ltCells, rpCells, Sl.v, rpCells, Sl.v]; done) | (simp [ltCells, rpCells, Sl.v, rpCells, Sl.v]; omega) | (simp [ltCells, rpCells, Sl.v, rpCells, Sl.v] at *; omega))) ?_
 refine G_val rfl rfl rfl rfl (V_load1 rfl rfl (mem_at 1 rfl) (nth_of (own_num hu9 3 (by rw [d9_len]; omega))) Try.underlying3 rfl) ?_
 refine G_val rfl rfl rfl rfl (V_fieldAddr (fo := 4) rfl Try.underlying25 rfl infReplyG_3 rfl rfl rfl) ?_
 refine G_put (l1 := [_, _]) (L' := [_, _, _, _]) rfl rfl rfl rfl (P_store1 rfl rfl rfl (mem_at 2 rfl) (by first | exact of_decide_eq_true rfl | omega | (simp [ltCells, rpCells, Sl.v, rpCells, Sl.v]; done) | (simp [ltCells, rpCells, Sl.v, rpCells, Sl.v]; omega) | (simp [ltCells, rpCells, Sl.v, rpCells, Sl.v] at *; omega)) infReplyG_3 rfl rfl) rfl ?_
 rw [st_4]
 refine G_done ?_
 refine G_seq ?_
 refine G_region (l := [0, 1, 2, 3, 4]) rfl ?_
 refine G_val rfl rfl rfl rfl (V_move rfl rfl) ?_
 first
   | refine G_val rfl rfl rfl rfl (V_indexAddrN rfl Try.underlying104 infReplyG_3 rfl rfl rfl rfl (by omega)) ?_
   | refine G_val rfl rfl rfl rfl (V_indexAddr rfl Try.underlying104 infReplyG_3 rfl rfl rfl (by omega) (by first | omega | (simp [ltCells, rpCells, Sl.v, rpCells, Sl.v]; done) | (simp [ltCells, rpCells, Sl.v, rpCells, Sl.v]; omega) | (simp [ltCells, rpCells, Sl.v, rpCells, Sl.v] at *; omega))) ?_
 refine G_val rfl rfl rfl rfl (V_load1 rfl rfl (mem_at 1 rfl) (nth_of (own_num hu9 4 (by rw [d9_len]; omega))) Try.underlying3 rfl) ?_
 refine G_val rfl rfl rfl rfl (V_fieldAddr (fo := 5) rfl Try.underlying25 rfl infReplyG_3 rfl rfl rfl) ?_
 refine G_put (l1 := [_, _]) (L' := [_, _, _, _]) rfl rfl rfl rfl (P_store1 rfl rfl rfl (mem_at 2 rfl) (by first | exact of_decide_eq_true rfl | omega | (simp [ltCells, rpCells, Sl.v, rpCells, Sl.v]; done) | (simp [ltCells, rpCells, Sl.v, rpCells, Sl.v]; omega) | (simp [ltCells, rpCells, Sl.v, rpCells, Sl.v] at *; omega)) infReplyG_3 rfl rfl) rfl ?_
 rw [st_5]
 refine G_done ?_
 refine G_seq ?_
 refine G_region (l := [0, 1, 2, 3, 4]) rfl ?_
 refine G_val rfl rfl rfl rfl (V_move rfl rfl) ?_
 first
   | refine G_val rfl rfl rfl rfl (V_indexAddrN rfl Try.underlying104 infReplyG_3 rfl rfl rfl rfl (by omega)) ?_
   | refine G_val rfl rfl rfl rfl (V_indexAddr rfl Try.underlying104 infReplyG_3 rfl rfl rfl (by omega) (by first | omega | (simp [ltCells, rpCells, Sl.v, rpCells, Sl.v]; done) | (simp [ltCells, rpCells, Sl.v, rpCells, Sl.v]; omega) | (simp [ltCells, rpCells, Sl.v, rpCells, Sl.v] at *; omega))) ?_
 refine G_val rfl rfl rfl rfl (V_load1 rfl rfl (mem_at 1 rfl) (nth_of (own_num hu9 5 (by rw [d9_len]; omega))) Try.underlying3 rfl) ?_
 refine G_val rfl rfl rfl rfl (V_fieldAddr (fo := 6) rfl Try.underlying25 rfl infReplyG_3 rfl rfl rfl) ?_
 refine G_put (l1 := [_, _]) (L' := [_, _, _, _]) rfl rfl rfl rfl (P_store1 rfl rfl rfl (mem_at 2 rfl) (by first | exact of_decide_eq_true rfl | omega | (simp [ltCells, rpCells, Sl.v, rpCells, Sl.v]; done) | (simp [ltCells, rpCells, Sl.v, rpCells, Sl.v]; omega) | (simp [ltCells, rpCells, Sl.v, rpCells, Sl.v] at *; omega)) infReplyG_3 rfl rfl) rfl ?_
 rw [st_6]
 refine G_done ?_
 refine G_seq ?_
 refine G_region (l := [0, 1, 2, 3, 4]) rfl ?_
 refine G_val rfl rfl rfl rfl (V_move rfl rfl) ?_
 first
   | refine G_val rfl rfl rfl rfl (V_indexAddrN rfl Try.underlying104 infReplyG_3 rfl rfl rfl rfl (by omega)) ?_
   | refine G_val rfl rfl rfl rfl (V_indexAddr rfl Try.underlying104 infReplyG_3 rfl rfl rfl (by omega) (by first | omega | (simp [ltCells, rpCells, Sl.v, rpCells, Sl.v]; done) | (simp [ltCells, rpCells, Sl.v, rpCells, Sl.v]; omega) | (simp [ltCells, rpCells, Sl.v, rpCells, Sl.v] at *; omega))) ?_
 refine G_val rfl rfl rfl rfl (V_load1 rfl rfl (mem_at 1 rfl) (nth_of (own_num hu9 6 (by rw [d9_len]; omega))) Try.underlying3 rfl) ?_
 refine G_val rfl rfl rfl rfl (V_fieldAddr (fo := 7) rfl Try.underlying25 rfl infReplyG_3 rfl rfl rfl) ?_
 refine G_put (l1 := [_, _]) (L' := [_, _, _, _]) rfl rfl rfl rfl (P_store1 rfl rfl rfl (mem_at 2 rfl) (by first | exact of_decide_eq_true rfl | omega | (simp [ltCells, rpCells, Sl.v, rpCells, Sl.v]; done) | (simp [ltCells, rpCells, Sl.v, rpCells, Sl.v]; omega) | (simp [ltCells, rpCells, Sl.v, rpCells, Sl.v] at *; omega)) infReplyG_3 rfl rfl) rfl ?_
 rw [st_7]
 refine G_done ?_
 refine G_seq ?_
 refine G_region (l := [0, 1, 2, 3, 4]) rfl ?_
 refine G_val rfl rfl rfl rfl (V_move rfl rfl) ?_
 first
   | refine G_val rfl rfl rfl rfl (V_indexAddrN rfl Try.underlying104 infReplyG_3 rfl rfl rfl rfl (by omega)) ?_
   | refine G_val rfl rfl rfl rfl (V_indexAddr rfl Try.underlying104 infReplyG_3 rfl rfl rfl (by omega) (by first | omega | (simp [ltCells, rpCells, Sl.v, rpCells, Sl.v]; done) | (simp [ltCells, rpCells, Sl.v, rpCells, Sl.v]; omega) | (simp [ltCells, rpCells, Sl.v, rpCells, Sl.v] at *; omega))) ?_
 refine G_val rfl rfl rfl rfl (V_load1 rfl rfl (mem_at 1 rfl) (nth_of (own_num hu9 7 (by rw [d9_len]; omega))) Try.underlying3 rfl) ?_
 refine G_val rfl rfl rfl rfl (V_fieldAddr (fo := 8) rfl Try.underlying25 rfl infReplyG_3 rfl rfl rfl) ?_
 refine G_put (l1 := [_, _]) (L' := [_, _, _, _]) rfl rfl rfl rfl (P_store1 rfl rfl rfl (mem_at 2 rfl) (by first | exact of_decide_eq_true rfl | omega | (simp [ltCells, rpCells, Sl.v, rpCells, Sl.v]; done) | (simp [ltCells, rpCells, Sl.v, rpCells, Sl.v]; omega) | (simp [ltCells, rpCells, Sl.v, rpCells, Sl.v] at *; omega)) infReplyG_3 rfl rfl) rfl ?_
 rw [st_8]
 refine G_done ?_
 refine G_seq ?_
 refine G_region (l := [0, 1, 2, 3, 4]) rfl ?_
 refine G_val rfl rfl rfl rfl (V_move rfl rfl) ?_
 first
   | refine G_val rfl rfl rfl rfl (V_indexAddrN rfl Try.underlying104 infReplyG_3 rfl rfl rfl rfl (by omega)) ?_
   | refine G_val rfl rfl rfl rfl (V_indexAddr rfl Try.underlying104 infReplyG_3 rfl rfl rfl (by omega) (by first | omega | (simp [ltCells, rpCells, Sl.v, rpCells, Sl.v]; done) | (simp [ltCells, rpCells, Sl.v, rpCells, Sl.v]; omega) | (simp [ltCells, rpCells, Sl.v, rpCells, Sl.v] at *; omega))) ?_
 refine G_val rfl rfl rfl rfl (V_load1 rfl rfl (mem_at 1 rfl) (nth_of (own_num hu9 8 (by rw [d9_len]; omega))) Try.underlying3 rfl) ?_
 refine G_val rfl rfl rfl rfl (V_fieldAddr (fo := 9) rfl Try.underlying25 rfl infReplyG_3 rfl rfl rfl) ?_
 refine G_put (l1 := [_, _]) (L' := [_, _, _, _]) rfl rfl rfl rfl (P_store1 rfl rfl rfl (mem_at 2 rfl) (by first | exact of_decide_eq_true rfl | omega | (simp [ltCells, rpCells, Sl.v, rpCells, Sl.v]; done) | (simp [ltCells, rpCells, Sl.v, rpCells, Sl.v]; omega) | (simp [ltCells, rpCells, Sl.v, rpCells, Sl.v] at *; omega)) infReplyG_3 rfl rfl) rfl ?_
 rw [st_9]
 refine G_done ?_
 refine G_seq ?_
 refine G_region (l := [0, 1, 2, 3]) rfl ?_
 refine G_val rfl rfl rfl rfl (V_move rfl rfl) ?_
 refine G_call (L2 := [_, _, _]) rfl rfl rfl rfl rfl rfl Try.call90 (k_cmd _ l hl) [0] [] rfl rfl ?_
 rintro v post ⟨rfl, rfl⟩
 show G _ _ _ [_, _, _, _] _
 refine G_val rfl rfl rfl rfl (V_fieldAddr (fo := 10) rfl Try.underlying25 rfl infReplyG_9 rfl rfl rfl) ?_
 refine G_put (l1 := [_, _]) (L' := [_, _, _, _]) rfl rfl rfl rfl (P_store1 rfl rfl rfl (mem_at 2 rfl) (by first | exact of_decide_eq_true rfl | omega | (simp [ltCells, rpCells, Sl.v, rpCells, Sl.v]; done) | (simp [ltCells, rpCells, Sl.v, rpCells, Sl.v]; omega) | (simp [ltCells, rpCells, Sl.v, rpCells, Sl.v] at *; omega)) infReplyG_9 rfl rfl) rfl ?_
 rw [set_cmd]
 refine G_done ?_
 refine G_seq ?_
 refine G_region (l := [0, 1, 2]) rfl ?_
 refine G_val rfl rfl rfl rfl (V_move rfl rfl) ?_
 refine G_call (L2 := [_, _, _]) rfl rfl rfl rfl rfl rfl Try.call92 (k_len _ l hl) [0] [] rfl rfl ?_
 rintro v post ⟨rfl, rfl⟩
 show G _ _ _ [_, _, _, _] _
 refine G_val rfl rfl rfl rfl (V_assign rfl rfl) ?_
 refine G_done ?_
 refine G_seq ?_
 refine G_seq ?_
 show G _ _ _ [_, _, (some b5, .cells (rpCells (dRp l) (.slice none 0 0)).toArray 25 (0, 0)), _] _
 refine G_addNone (.cells #[] 96 (0, 0)) ?_
 refine G_region (l := [0]) rfl ?_
 refine G_val rfl rfl rfl rfl (V_assign rfl rfl) ?_
 refine G_done ?_
 refine G_block ?_
 refine G_sub ?he16 [3, 0, 0, 1] ?hl16 (G_loop (X := Nat × Sl) (fun x => match x with | ⟨i, u⟩ => i ≤ (dLen l).1 ∧ Own 6 u ((rdLs (dLen l).2.1 (dLen l).2.2 i).1.flatMap ltCells) i) (fun x => match x with | ⟨i, u⟩ => (dLen l).1 - i) (fun x => match x with | ⟨i, u⟩ => [(2, .pointer (some ⟨b2, 0, none⟩)), (4, .pointer (some ⟨b13, 0, none⟩)), (5, .pointer (some ⟨b5, 0, none⟩)), (7, .int .i64 (((dLen l).1 : Nat) : Int)), (8, .int .i64 (i : Int))]) (fun x => match x with | ⟨i, u⟩ => [(some b5, .cells (rpCells (dRp l) (u.v i)).toArray 25 (0, 0)), (u.ob, .cells u.cs 96 u.fz), (some b13, .cells #[.string (bs (rdLs (dLen l).2.1 (dLen l).2.2 i).2.1), .int .i64 (((rdLs (dLen l).2.1 (dLen l).2.2 i).2.2 : Nat) : Int)] 133 (0, 0)), (some b2, .cells (rpCells zeroRp (.slice none 0 0)).toArray 25 (0, 0))]) ?round16 (0, slNil) ?h016)
 case he16 => exact (And.intro rfl (And.intro rfl (And.intro rfl (And.intro rfl (And.intro rfl trivial)))))
 case hl16 => exact ⟨_, by simp only [rdLs_zero]; rfl⟩
 case h016 => exact ⟨Nat.zero_le _, by rw [rdLs_zero]; exact own_nil 6⟩
 case round16 =>
  intro x hJ ih
  try dsimp only at hJ ih
  obtain ⟨i, u⟩ := x
  try dsimp only at hJ ih
  obtain ⟨hi, hux⟩ := hJ
  show G _ _ [(2, .pointer (some ⟨b2, 0, none⟩)), (4, .pointer (some ⟨b13, 0, none⟩)), (5, .pointer (some ⟨b5, 0, none⟩)), (7, .int .i64 (((dLen l).1 : Nat) : Int)), (8, .int .i64 (i : Int))] [(some b5, .cells (rpCells (dRp l) (u.v i)).toArray 25 (0, 0)), (u.ob, .cells u.cs 96 u.fz), (some b13, .cells #[.string (bs (rdLs (dLen l).2.1 (dLen l).2.2 i).2.1), .int .i64 (((rdLs (dLen l).2.1 (dLen l).2.2 i).2.2 : Nat) : Int)] 133 (0, 0)), (some b2, .cells (rpCells zeroRp (.slice none 0 0)).toArray 25 (0, 0))] _
  refine G_seq ?_
  refine G_seq ?_
  obtain ⟨k1, k2, k3⟩ := rdLs_bd (dLen l).2.1 (dLen l).2.2 h5.2.2 i
  obtain ⟨q1, q2, q3, q4, q5, q6, q7, q8, q9, q10⟩ := ltOf_bd (rdLs (dLen l).2.1 (dLen l).2.2 i).2.1 (rdLs (dLen l).2.1 (dLen l).2.2 i).2.2 k3
  refine G_region (l := [0, 1, 2]) rfl ?_
  refine G_val rfl rfl rfl rfl (V_move rfl rfl) ?_
  refine G_val rfl rfl rfl rfl (V_move rfl rfl) ?_
  refine G_val rfl rfl rfl rfl (V_lss rfl rfl rfl) ?_
  refine G_done ?_
  refine G_ifD rfl (fun hc1 => ?_) (fun hc1 => ?_)
  · skip
    refine G_skip ?_
    refine G_seq ?_
    refine G_block ?_
    refine G_seq ?_
    refine G_region (l := [0, 1, 2]) rfl ?_
    refine G_val rfl rfl rfl rfl (V_move rfl rfl) ?_
    refine G_call (L2 := [_, _, _]) rfl rfl rfl rfl rfl rfl Try.call91 (k_ltns _ (rdLs (dLen l).2.1 (dLen l).2.2 i).2.1 (rdLs (dLen l).2.1 (dLen l).2.2 i).2.2 (by omega) (by omega)) [2] [] rfl rfl ?_
    rintro v post ⟨⟨ob2, cs2, fz2, cap2⟩, hu4, rfl, rfl⟩
    show G _ _ _ [_, _, _, _, _] _
    obtain ⟨bm, rfl⟩ := own_some hu4 (by omega)
    refine G_val rfl rfl rfl rfl (V_assign rfl rfl) ?_
    refine G_done ?_
    refine G_seq ?_
    refine G_region (l := [0, 1, 2]) rfl ?_
    refine G_val rfl rfl rfl rfl (V_move rfl rfl) ?_
    refine G_call (L2 := [_, _, _, _]) rfl rfl rfl rfl rfl rfl Try.call90 (k_lttx _ (rdLs (dLen l).2.1 (dLen l).2.2 i).2.1 (rdLs (dLen l).2.1 (dLen l).2.2 i).2.2 (by omega) (by omega)) [0] [] rfl rfl ?_
    rintro v post ⟨rfl, rfl⟩
    show G _ _ _ [_, _, _, _, _] _
    refine G_val rfl rfl rfl rfl (V_assign rfl rfl) ?_
    refine G_done ?_
    refine GH_start (Lq := [_]) (isq := [1]) (m := 22) mixedK rfl rfl ?_
    refine GH_take 0 rfl rfl rfl rfl (by kernel_rfl) (by kernel_rfl) (by kernel_rfl) (fun _ _ => (V_fieldAddr (fo := 11) rfl Try.underlying25 rfl infReplyG_23 rfl rfl rfl)) ?_
    refine GH_take 2 rfl rfl rfl rfl (by kernel_rfl) (by kernel_rfl) (by kernel_rfl) (fun _ _ => (V_move rfl rfl)) ?_
    first
      | refine GH_take 3 rfl rfl rfl rfl (by kernel_rfl) (by kernel_rfl) (by kernel_rfl) (fun _ _ => (V_indexAddrN rfl Try.underlying104 infReplyG_3 rfl rfl rfl rfl (by omega))) ?_
      | refine GH_take 3 rfl rfl rfl rfl (by kernel_rfl) (by kernel_rfl) (by kernel_rfl) (fun _ _ => (V_indexAddr rfl Try.underlying104 infReplyG_3 rfl rfl rfl (by omega) (by first | omega | (simp [ltCells, rpCells, Sl.v, rpCells, Sl.v]; done) | (simp [ltCells, rpCells, Sl.v, rpCells, Sl.v]; omega) | (simp [ltCells, rpCells, Sl.v, rpCells, Sl.v] at *; omega)))) ?_
    refine GH_take 4 rfl rfl rfl rfl (by kernel_rfl) (by kernel_rfl) (by kernel_rfl) (fun _ _ => (V_load1 rfl rfl (mem_at 0 rfl) (nth_of (own_num hu4 0 (by rw [q1]; omega))) Try.underlying3 rfl)) ?_
    refine GH_take 5 rfl rfl rfl rfl (by kernel_rfl) (by kernel_rfl) (by kernel_rfl) (fun _ _ => (V_move rfl rfl)) ?_
    first
      | refine GH_take 6 rfl rfl rfl rfl (by kernel_rfl) (by kernel_rfl) (by kernel_rfl) (fun _ _ => (V_indexAddrN rfl Try.underlying104 infReplyG_3 rfl rfl rfl rfl (by omega))) ?_
      | refine GH_take 6 rfl rfl rfl rfl (by kernel_rfl) (by kernel_rfl) (by kernel_rfl) (fun _ _ => (V_indexAddr rfl Try.underlying104 infReplyG_3 rfl rfl rfl (by omega) (by first | omega | (simp [ltCells, rpCells, Sl.v, rpCells, Sl.v]; done) | (simp [ltCells, rpCells, Sl.v, rpCells, Sl.v]; omega) | (simp [ltCells, rpCells, Sl.v, rpCells, Sl.v] at *; omega)))) ?_
    refine GH_take 7 rfl rfl rfl rfl (by kernel_rfl) (by kernel_rfl) (by kernel_rfl) (fun _ _ => (V_load1 rfl rfl (mem_at 0 rfl) (nth_of (own_num hu4 1 (by rw [q1]; omega))) Try.underlying3 rfl)) ?_
    refine GH_take 8 rfl rfl rfl rfl (by kernel_rfl) (by kernel_rfl) (by kernel_rfl) (fun _ _ => (V_move rfl rfl)) ?_
    first
      | refine GH_take 9 rfl rfl rfl rfl (by kernel_rfl) (by kernel_rfl) (by kernel_rfl) (fun _ _ => (V_indexAddrN rfl Try.underlying104 infReplyG_3 rfl rfl rfl rfl (by omega))) ?_
      | refine GH_take 9 rfl rfl rfl rfl (by kernel_rfl) (by kernel_rfl) (by kernel_rfl) (fun _ _ => (V_indexAddr rfl Try.underlying104 infReplyG_3 rfl rfl rfl (by omega) (by first | omega | (simp [ltCells, rpCells, Sl.v, rpCells, Sl.v]; done) | (simp [ltCells, rpCells, Sl.v, rpCells, Sl.v]; omega) | (simp [ltCells, rpCells, Sl.v, rpCells, Sl.v] at *; omega)))) ?_
    refine GH_take 10 rfl rfl rfl rfl (by kernel_rfl) (by kernel_rfl) (by kernel_rfl) (fun _ _ => (V_load1 rfl rfl (mem_at 0 rfl) (nth_of (own_num hu4 2 (by rw [q1]; omega))) Try.underlying3 rfl)) ?_
    refine GH_take 11 rfl rfl rfl rfl (by kernel_rfl) (by kernel_rfl) (by kernel_rfl) (fun _ _ => (V_move rfl rfl)) ?_
    first
      | refine GH_take 12 rfl rfl rfl rfl (by kernel_rfl) (by kernel_rfl) (by kernel_rfl) (fun _ _ => (V_indexAddrN rfl Try.underlying104 infReplyG_3 rfl rfl rfl rfl (by omega))) ?_
      | refine GH_take 12 rfl rfl rfl rfl (by kernel_rfl) (by kernel_rfl) (by kernel_rfl) (fun _ _ => (V_indexAddr rfl Try.underlying104 infReplyG_3 rfl rfl rfl (by omega) (by first | omega | (simp [ltCells, rpCells, Sl.v, rpCells, Sl.v]; done) | (simp [ltCells, rpCells, Sl.v, rpCells, Sl.v]; omega) | (simp [ltCells, rpCells, Sl.v, rpCells, Sl.v] at *; omega)))) ?_
    refine GH_take 13 rfl rfl rfl rfl (by kernel_rfl) (by kernel_rfl) (by kernel_rfl) (fun _ _ => (V_load1 rfl rfl (mem_at 0 rfl) (nth_of (own_num hu4 3 (by rw [q1]; omega))) Try.underlying3 rfl)) ?_
    refine GH_take 14 rfl rfl rfl rfl (by kernel_rfl) (by kernel_rfl) (by kernel_rfl) (fun _ _ => (V_move rfl rfl)) ?_
    refine GH_take 15 rfl rfl rfl rfl (by kernel_rfl) (by kernel_rfl) (by kernel_rfl) (fun _ _ => (V_move rfl rfl)) ?_
    refine GH_all [1, 16] (by kernel_rfl) (by decide) ?_
    refine (And.intro ?_ (And.intro ?_ trivial))
    · skip
      refine GHop_val rfl rfl rfl rfl (V_load1 rfl rfl (mem_at 2 rfl) rfl Try.underlying23 rfl) ?_
      refine GH_all [16] (by kernel_rfl) (by decide) ?_
      refine (And.intro ?_ trivial)
      · skip
        refine GHop_call (L2 := [_, _, _, _]) rfl rfl rfl rfl rfl rfl Try.call93 (k_ltn _ (rdLs (dLen l).2.1 (dLen l).2.2 i).2.1 (rdLs (dLen l).2.1 (dLen l).2.2 i).2.2 (by omega) (by omega)) [0] [] rfl rfl [1] (by rintro v post ⟨rfl, rfl⟩; exact ⟨_, rfl⟩) ?_
        rintro v post ⟨rfl, rfl⟩
        show GH _ _ _ _ _ _ _ [_, _, _, _, _] _
        refine GH_take 17 rfl rfl rfl rfl (by kernel_rfl) (by kernel_rfl) (by kernel_rfl) (fun _ _ => (V_buildS (cs := [_, _, _, _, _, _]) rfl Try.underlying96 infReplyG_96 rfl plcReplyG_96 rfl rfl rfl)) ?_
        refine GH_all [18] (by kernel_rfl) (by decide) ?_
        refine (And.intro ?_ trivial)
        · skip
          refine GHop_new rfl rfl rfl rfl (N_buildAll (s := 6) (cs := [_, _, _, _, _, _]) rfl Try.underlying23 infReplyG_96 rfl rfl rfl rfl rfl rfl rfl rfl rfl) [2] (fun _ => ⟨_, rfl⟩) (fun b87 => ?_)
          refine GH_all [19] (by kernel_rfl) (by decide) ?_
          refine (And.intro ?_ trivial)
          · skip
            refine GHop_append (l1 := [_, _, _, _]) (s := u) (nn := i) (m := 1) (news := ltCells (ltOf (rdLs (dLen l).2.1 (dLen l).2.2 i).2.1 (rdLs (dLen l).2.1 (dLen l).2.2 i).2.2)) (bt := 56) rfl rfl rfl rfl Try.underlying23 Try.underlying23 (by first | exact .inl rfl | exact .inr ⟨_, rfl⟩) infReplyG_96 rfl rfl rfl rfl rfl rfl hux rfl (src_mem (mem_at 0 rfl) rfl rfl (by simp [ltCells, Value.oneCell'])) (by omega) (by omega) [2] (fun _ => ⟨_, rfl⟩) ?_
            intro u1 hu1 _
            show GH _ _ _ _ _ _ _ [_, _, _, _, _, _] _
            refine GH_take 20 rfl rfl rfl rfl (by kernel_rfl) (by kernel_rfl) (by kernel_rfl) (fun _ _ => (V_fieldAddr (fo := 11) rfl Try.underlying25 rfl infReplyG_23 rfl rfl rfl)) ?_
            refine GH_all [21] (by kernel_rfl) (by decide) ?_
            refine (And.intro ?_ trivial)
            · skip
              refine GHop_put (l1 := [_, _, _]) (L' := [_, _, _, _, _, _]) rfl rfl rfl rfl (P_store1 rfl rfl rfl (mem_at 3 rfl) (by first | exact of_decide_eq_true rfl | omega | (simp [ltCells, rpCells, Sl.v, rpCells, Sl.v]; done) | (simp [ltCells, rpCells, Sl.v, rpCells, Sl.v]; omega) | (simp [ltCells, rpCells, Sl.v, rpCells, Sl.v] at *; omega)) infReplyG_23 rfl rfl) rfl [2] rfl ?_
              refine GH_done (by kernel_rfl) ?_
              refine G_inBlock ?_
              rw [set_ls]
              refine G_region (l := [0, 1, 2]) rfl ?_
              refine G_val rfl rfl rfl rfl (V_move rfl rfl) ?_
              first
                | refine G_val rfl rfl rfl rfl ((V_add rfl rfl rfl).int (wrap_i64 (by omega))) ?_
                | refine G_val rfl rfl rfl rfl (V_add rfl rfl rfl) ?_
              refine G_val rfl rfl rfl rfl (V_assign rfl rfl) ?_
              refine G_done ?_
              refine G_sub ?_ [3, 3, 1, 2] ?_ (ih (i + 1, u1) ?_ ?_)
              · (refine (And.intro ?_ (And.intro ?_ (And.intro ?_ (And.intro ?_ (And.intro ?_ trivial))))) <;> first | rfl | exact slot_int (by omega) | exact slot_int (by simp))
              · exact ⟨_, rfl⟩
              · exact ⟨by omega, by rw [← rdLs_next]; exact hu1⟩
              · (first | omega | (dsimp only; omega))
    · skip
      refine GHop_call (L2 := [_, _, _, _]) rfl rfl rfl rfl rfl rfl Try.call93 (k_ltn _ (rdLs (dLen l).2.1 (dLen l).2.2 i).2.1 (rdLs (dLen l).2.1 (dLen l).2.2 i).2.2 (by omega) (by omega)) [0] [] rfl rfl [1] (by rintro v post ⟨rfl, rfl⟩; exact ⟨_, rfl⟩) ?_
      rintro v post ⟨rfl, rfl⟩
      show GH _ _ _ _ _ _ _ [_, _, _, _, _] _
      refine GH_take 17 rfl rfl rfl rfl (by kernel_rfl) (by kernel_rfl) (by kernel_rfl) (fun _ _ => (V_buildS (cs := [_, _, _, _, _, _]) rfl Try.underlying96 infReplyG_96 rfl plcReplyG_96 rfl rfl rfl)) ?_
      refine GH_all [1, 18] (by kernel_rfl) (by decide) ?_
      refine (And.intro ?_ (And.intro ?_ trivial))
      · skip
        refine GHop_val rfl rfl rfl rfl (V_load1 rfl rfl (mem_at 2 rfl) rfl Try.underlying23 rfl) ?_
        refine GH_all [18] (by kernel_rfl) (by decide) ?_
        refine (And.intro ?_ trivial)
        · skip
          refine GHop_new rfl rfl rfl rfl (N_buildAll (s := 6) (cs := [_, _, _, _, _, _]) rfl Try.underlying23 infReplyG_96 rfl rfl rfl rfl rfl rfl rfl rfl rfl) [2] (fun _ => ⟨_, rfl⟩) (fun b87 => ?_)
          refine GH_all [19] (by kernel_rfl) (by decide) ?_
          refine (And.intro ?_ trivial)
          · skip
            refine GHop_append (l1 := [_, _, _, _]) (s := u) (nn := i) (m := 1) (news := ltCells (ltOf (rdLs (dLen l).2.1 (dLen l).2.2 i).2.1 (rdLs (dLen l).2.1 (dLen l).2.2 i).2.2)) (bt := 56) rfl rfl rfl rfl Try.underlying23 Try.underlying23 (by first | exact .inl rfl | exact .inr ⟨_, rfl⟩) infReplyG_96 rfl rfl rfl rfl rfl rfl hux rfl (src_mem (mem_at 0 rfl) rfl rfl (by simp [ltCells, Value.oneCell'])) (by omega) (by omega) [2] (fun _ => ⟨_, rfl⟩) ?_
            intro u1 hu1 _
            show GH _ _ _ _ _ _ _ [_, _, _, _, _, _] _
            refine GH_take 20 rfl rfl rfl rfl (by kernel_rfl) (by kernel_rfl) (by kernel_rfl) (fun _ _ => (V_fieldAddr (fo := 11) rfl Try.underlying25 rfl infReplyG_23 rfl rfl rfl)) ?_
            refine GH_all [21] (by kernel_rfl) (by decide) ?_
            refine (And.intro ?_ trivial)
            · skip
              refine GHop_put (l1 := [_, _, _]) (L' := [_, _, _, _, _, _]) rfl rfl rfl rfl (P_store1 rfl rfl rfl (mem_at 3 rfl) (by first | exact of_decide_eq_true rfl | omega | (simp [ltCells, rpCells, Sl.v, rpCells, Sl.v]; done) | (simp [ltCells, rpCells, Sl.v, rpCells, Sl.v]; omega) | (simp [ltCells, rpCells, Sl.v, rpCells, Sl.v] at *; omega)) infReplyG_23 rfl rfl) rfl [2] rfl ?_
              refine GH_done (by kernel_rfl) ?_
              refine G_inBlock ?_
              rw [set_ls]
              refine G_region (l := [0, 1, 2]) rfl ?_
              refine G_val rfl rfl rfl rfl (V_move rfl rfl) ?_
              first
                | refine G_val rfl rfl rfl rfl ((V_add rfl rfl rfl).int (wrap_i64 (by omega))) ?_
                | refine G_val rfl rfl rfl rfl (V_add rfl rfl rfl) ?_
              refine G_val rfl rfl rfl rfl (V_assign rfl rfl) ?_
              refine G_done ?_
              refine G_sub ?_ [3, 3, 1, 2] ?_ (ih (i + 1, u1) ?_ ?_)
              · (refine (And.intro ?_ (And.intro ?_ (And.intro ?_ (And.intro ?_ (And.intro ?_ trivial))))) <;> first | rfl | exact slot_int (by omega) | exact slot_int (by simp))
              · exact ⟨_, rfl⟩
              · exact ⟨by omega, by rw [← rdLs_next]; exact hu1⟩
              · (first | omega | (dsimp only; omega))
      · skip
        refine GHop_new rfl rfl rfl rfl (N_buildAll (s := 6) (cs := [_, _, _, _, _, _]) rfl Try.underlying23 infReplyG_96 rfl rfl rfl rfl rfl rfl rfl rfl rfl) [2] (fun _ => ⟨_, rfl⟩) (fun b87 => ?_)
        refine GH_all [1] (by kernel_rfl) (by decide) ?_
        refine (And.intro ?_ trivial)
        · skip
          refine GHop_val rfl rfl rfl rfl (V_load1 rfl rfl (mem_at 3 rfl) rfl Try.underlying23 rfl) ?_
          refine GH_all [19] (by kernel_rfl) (by decide) ?_
          refine (And.intro ?_ trivial)
          · skip
            refine GHop_append (l1 := [_, _, _, _]) (s := u) (nn := i) (m := 1) (news := ltCells (ltOf (rdLs (dLen l).2.1 (dLen l).2.2 i).2.1 (rdLs (dLen l).2.1 (dLen l).2.2 i).2.2)) (bt := 56) rfl rfl rfl rfl Try.underlying23 Try.underlying23 (by first | exact .inl rfl | exact .inr ⟨_, rfl⟩) infReplyG_96 rfl rfl rfl rfl rfl rfl hux rfl (src_mem (mem_at 0 rfl) rfl rfl (by simp [ltCells, Value.oneCell'])) (by omega) (by omega) [2] (fun _ => ⟨_, rfl⟩) ?_
            intro u1 hu1 _
            show GH _ _ _ _ _ _ _ [_, _, _, _, _, _] _
            refine GH_take 20 rfl rfl rfl rfl (by kernel_rfl) (by kernel_rfl) (by kernel_rfl) (fun _ _ => (V_fieldAddr (fo := 11) rfl Try.underlying25 rfl infReplyG_23 rfl rfl rfl)) ?_
            refine GH_all [21] (by kernel_rfl) (by decide) ?_
            refine (And.intro ?_ trivial)
            · skip
              refine GHop_put (l1 := [_, _, _]) (L' := [_, _, _, _, _, _]) rfl rfl rfl rfl (P_store1 rfl rfl rfl (mem_at 3 rfl) (by first | exact of_decide_eq_true rfl | omega | (simp [ltCells, rpCells, Sl.v, rpCells, Sl.v]; done) | (simp [ltCells, rpCells, Sl.v, rpCells, Sl.v]; omega) | (simp [ltCells, rpCells, Sl.v, rpCells, Sl.v] at *; omega)) infReplyG_23 rfl rfl) rfl [2] rfl ?_
              refine GH_done (by kernel_rfl) ?_
              refine G_inBlock ?_
              rw [set_ls]
              refine G_region (l := [0, 1, 2]) rfl ?_
              refine G_val rfl rfl rfl rfl (V_move rfl rfl) ?_
              first
                | refine G_val rfl rfl rfl rfl ((V_add rfl rfl rfl).int (wrap_i64 (by omega))) ?_
                | refine G_val rfl rfl rfl rfl (V_add rfl rfl rfl) ?_
              refine G_val rfl rfl rfl rfl (V_assign rfl rfl) ?_
              refine G_done ?_
              refine G_sub ?_ [3, 3, 1, 2] ?_ (ih (i + 1, u1) ?_ ?_)
              · (refine (And.intro ?_ (And.intro ?_ (And.intro ?_ (And.intro ?_ (And.intro ?_ trivial))))) <;> first | rfl | exact slot_int (by omega) | exact slot_int (by simp))
              · exact ⟨_, rfl⟩
              · exact ⟨by omega, by rw [← rdLs_next]; exact hu1⟩
              · (first | omega | (dsimp only; omega))
  refine G_exit rfl ?_
  refine G_seq ?_
  refine G_seq ?_
  refine G_region (l := [0, 1, 2]) rfl ?_
  refine G_val rfl rfl rfl rfl (V_move rfl rfl) ?_
  refine G_call (L2 := [_, _, _, _]) rfl rfl rfl rfl rfl rfl Try.call94 (rrd_end _ _ _) [] [2] rfl rfl ?_
  rintro v post ⟨rfl, rfl⟩
  show G _ _ _ [_, _, _, _] _
  refine G_val rfl rfl rfl rfl (V_neq rfl rfl rfl) ?_
  refine G_done ?_
  refine G_ifD rfl (fun hc2 => ?_) (fun hc2 => ?_)
  · skip
    refine G_seq ?_
    refine G_addNone (.cells #[] 96 (0, 0)) ?_
    refine G_region (l := [0, 1, 2]) rfl ?_
    refine G_val rfl rfl rfl rfl (V_buildS (cs := [_, _, _, _, _, _, _, _, _, _, _, _]) rfl Try.underlying25 infReplyG_25 rfl plcReplyG_25 rfl rfl rfl) ?_
    refine G_put (l1 := [_, _, _, _]) (L' := [_, _, _, _, _]) rfl rfl rfl rfl (P_storeA (s := 12) rfl rfl rfl (mem_at 4 rfl) (by first | rfl | (simp [bcells_length, ltCells, rpCells, Sl.v, rpCells, Sl.v]; done) | (simp [bcells_length, ltCells, rpCells, Sl.v, rpCells, Sl.v]; omega) | (simp [bcells_length, *, ltCells, rpCells, Sl.v, rpCells, Sl.v]; done)) infReplyG_25 rfl (by first | rfl | (simp [bcells_length, ltCells, rpCells, Sl.v, rpCells, Sl.v]; done) | (simp [bcells_length, ltCells, rpCells, Sl.v, rpCells, Sl.v]; omega) | (simp [bcells_length, *, ltCells, rpCells, Sl.v, rpCells, Sl.v]; done)) (by first | rfl | exact bcells_all _ | (simp [Value.oneCell', ltCells, rpCells, Sl.v, rpCells, Sl.v]; done) | (simp [Value.oneCell', *, ltCells, rpCells, Sl.v, rpCells, Sl.v]; done))) rfl ?_
    refine G_val rfl rfl rfl rfl (V_assign rfl rfl) ?_
    refine G_done ?_
    refine G_ret (post := [_]) Try.func22 rfl (RVs_cons (RV_cell (s := 12) rfl (mem_at 4 rfl) Try.underlying25 rfl infReplyG_25 rfl (by first | rfl | (simp [bcells_length, ltCells, rpCells, Sl.v, rpCells, Sl.v]; done) | (simp [bcells_length, ltCells, rpCells, Sl.v, rpCells, Sl.v]; omega) | (simp [bcells_length, *, ltCells, rpCells, Sl.v, rpCells, Sl.v]; done))) (RVs_cons (RV_tmp rfl) RVs_nil)) [0] rfl ?_
    dsimp only [packed]
    obtain rfl : i = (dLen l).1 := by omega
    have hk := (rdLs_bd (dLen l).2.1 (dLen l).2.2 h5.2.2 (dLen l).1).1
    first
      | (have hE : dEnd l = 0 := by unfold dEnd dLs; omega
         refine ⟨u, ?_, ?_, rfl⟩
         · unfold decLs dLs; rw [if_pos hE, hk]; exact hux
         · unfold decE decRp decLs dLs; rw [if_pos hE, if_pos hE, if_pos hE, hk])
      | (have hE : ¬ dEnd l = 0 := by unfold dEnd dLs; omega
         refine ⟨slNil, ?_, ?_, rfl⟩
         · unfold decLs; rw [if_neg hE]; exact own_nil 6
         · unfold decE decRp decLs; rw [if_neg hE, if_neg hE, if_neg hE]; rfl)
  refine G_skip ?_
  refine G_seq ?_
  refine G_region (l := [0, 1, 2]) rfl ?_
  first
    | refine G_val rfl rfl rfl rfl (V_loadW (s := 12) rfl rfl (mem_at 0 rfl) Try.underlying25 rfl infReplyG_25 rfl (by first | rfl | (simp [bcells_length, ltCells, rpCells, Sl.v, rpCells, Sl.v]; done) | (simp [bcells_length, ltCells, rpCells, Sl.v, rpCells, Sl.v]; omega) | (simp [bcells_length, *, ltCells, rpCells, Sl.v, rpCells, Sl.v]; done))) ?_
    | refine G_val rfl rfl rfl rfl (V_loadA (s := 12) rfl rfl (mem_at 0 rfl) Try.underlying25 rfl infReplyG_25 rfl rfl (by first | rfl | (simp [bcells_length, ltCells, rpCells, Sl.v, rpCells, Sl.v]; done) | (simp [bcells_length, ltCells, rpCells, Sl.v, rpCells, Sl.v]; omega) | (simp [bcells_length, *, ltCells, rpCells, Sl.v, rpCells, Sl.v]; done))) ?_
  refine G_put (l1 := [_, _, _]) (L' := [_, _, _, _]) rfl rfl rfl rfl (P_storeA (s := 12) rfl rfl rfl (mem_at 3 rfl) (by first | rfl | (simp [bcells_length, ltCells, rpCells, Sl.v, rpCells, Sl.v]; done) | (simp [bcells_length, ltCells, rpCells, Sl.v, rpCells, Sl.v]; omega) | (simp [bcells_length, *, ltCells, rpCells, Sl.v, rpCells, Sl.v]; done)) infReplyG_25 rfl (by first | rfl | (simp [bcells_length, ltCells, rpCells, Sl.v, rpCells, Sl.v]; done) | (simp [bcells_length, ltCells, rpCells, Sl.v, rpCells, Sl.v]; omega) | (simp [bcells_length, *, ltCells, rpCells, Sl.v, rpCells, Sl.v]; done)) (by first | rfl | exact bcells_all _ | (simp [Value.oneCell', ltCells, rpCells, Sl.v, rpCells, Sl.v]; done) | (simp [Value.oneCell', *, ltCells, rpCells, Sl.v, rpCells, Sl.v]; done))) rfl ?_
  refine G_val rfl rfl rfl rfl (V_assign rfl rfl) ?_
  refine G_done ?_
  refine G_ret (post := [_]) Try.func22 rfl (RVs_cons (RV_cell (s := 12) rfl (mem_at 3 rfl) Try.underlying25 rfl infReplyG_25 rfl (by first | rfl | (simp [bcells_length, ltCells, rpCells, Sl.v, rpCells, Sl.v]; done) | (simp [bcells_length, ltCells, rpCells, Sl.v, rpCells, Sl.v]; omega) | (simp [bcells_length, *, ltCells, rpCells, Sl.v, rpCells, Sl.v]; done))) (RVs_cons (RV_tmp rfl) RVs_nil)) [1] rfl ?_
  dsimp only [packed]
  obtain rfl : i = (dLen l).1 := by omega
  have hk := (rdLs_bd (dLen l).2.1 (dLen l).2.2 h5.2.2 (dLen l).1).1
  first
    | (have hE : dEnd l = 0 := by unfold dEnd dLs; omega
       refine ⟨u, ?_, ?_, rfl⟩
       · unfold decLs dLs; rw [if_pos hE, hk]; exact hux
       · unfold decE decRp decLs dLs; rw [if_pos hE, if_pos hE, if_pos hE, hk])
    | (have hE : ¬ dEnd l = 0 := by unfold dEnd dLs; omega
       refine ⟨slNil, ?_, ?_, rfl⟩
       · unfold decLs; rw [if_neg hE]; exact own_nil 6
       · unfold decE decRp decLs; rw [if_neg hE, if_neg hE, if_neg hE]; rfl)

end
end Go.Proofs.Ytkidmbaakdaflaa
