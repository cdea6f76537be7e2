/- The walks of layer 24: supers as blocks. -/
import Derived.Test.YtkidmbaakdaflaaSuperQ
import Derived.Test.YtkidmbaakdaflaaDiskQ
import Derived.Test.YtkidmbaakdaflaaRep
import Derived.Test.YtkidmbaakdaflaaSum
set_option linter.unusedSimpArgs false
set_option linter.unusedVariables false
namespace Go.Proofs.Ytkidmbaakdaflaa
open Go Go.RowKit

section
theorem infSuperW_3 : Try.prog.info? 3 = some Try.t3 := by kernel_rfl
theorem infSuperW_9 : Try.prog.info? 9 = some Try.t9 := by kernel_rfl
theorem infSuperW_73 : Try.prog.info? 73 = some Try.t73 := by kernel_rfl
theorem infSuperW_75 : Try.prog.info? 75 = some Try.t75 := by kernel_rfl
theorem infSuperW_94 : Try.prog.info? 94 = some Try.t94 := by kernel_rfl
theorem infSuperW_109 : Try.prog.info? 109 = some Try.t109 := by kernel_rfl
theorem infSuperW_155 : Try.prog.info? 155 = some Try.t155 := by kernel_rfl
theorem plcSuperW_155 : placesOf Try.prog (Try.prog.fieldsOf 155) = some [(0, 1), (1, 1)] := by kernel_rfl


theorem ct_crc (x : BitVec 32) (l : List UInt8) (h : l.length ≤ 9223372036854775807) : Ct Try.prog 146 [.int .u32 (x.toNat : Int), .string (bs l)] [] [] (fun v post => v = .int .u32 ((sumCrc x l).toNat : Int) ∧ post = []) :=
  ct_same (fun w => by
    have := sum_crc_any x (bs l) w (by rw [bs_size]; omega)
    rw [bs_data] at this
    exact this)
theorem ct_rcrc (x : BitVec 32) (l : List UInt8) (h : l.length ≤ 9223372036854775807) : Ct Try.prog 148 [.int .u32 (x.toNat : Int), .string (bs l)] [] [] (fun v post => v = .int .u32 ((sumCrc x l).toNat : Int) ∧ post = []) :=
  ct_same (fun w => by
    have := sum_rcrc_any x (bs l) w (by rw [bs_size]; omega)
    rw [bs_data] at this
    exact this)
def crcW (ls : List (List UInt8)) : BitVec 32 := ls.foldl sumCrc 4294967295#32
theorem crcW_next {ls : List (List UInt8)} {i : Nat} {s : List UInt8} (h : ls[i]? = some s) : crcW (ls.take (i + 1)) = sumCrc (crcW (ls.take i)) s := by
  rw [take_succ_of h]; unfold crcW; rw [List.foldl_append]; rfl
theorem fixed_of (v : Int) (n : Nat) (h1 : 1 ≤ n) (h8 : n ≤ 8) (h0 : 0 ≤ v) (h : v < ((256 ^ n : Nat) : Int)) : fixed v.toNat (n : Int) = (be n v.toNat, 0) := fixed_yes v.toNat n h1 h8 (by omega)
theorem ct_fixed (v : Int) (n : Nat) (h1 : 1 ≤ n) (h8 : n ≤ 8) (h0 : 0 ≤ v) (h : v < ((256 ^ n : Nat) : Int)) (h64 : v < 18446744073709551616) : Ct Try.prog 145 [.int .u64 v, .int .i64 (n : Int)] [] [] (fun v' post => v' = .tuple #[.string (bs (be n v.toNat)), .int .i64 0] ∧ post = []) :=
  ct_below (fun w => by
    have := fixed_any v.toNat n w (by unfold U64; omega) (by omega) (by omega)
    rw [fixed_of v n h1 h8 h0 h, Int.toNat_of_nonneg h0] at this
    exact this)
theorem ct_rfixed (v : Int) (n : Nat) (h1 : 1 ≤ n) (h8 : n ≤ 8) (h0 : 0 ≤ v) (h : v < ((256 ^ n : Nat) : Int)) (h64 : v < 18446744073709551616) : Ct Try.prog 147 [.int .u64 v, .int .i64 (n : Int)] [] [] (fun v' post => v' = .tuple #[.string (bs (be n v.toNat)), .int .i64 0] ∧ post = []) :=
  ct_below (fun w => by
    have := rfixed_any v.toNat n w (by unfold U64; omega) (by omega) (by omega)
    rw [fixed_of v n h1 h8 h0 h, Int.toNat_of_nonneg h0] at this
    exact this)
theorem ct_number (l : List UInt8) (h1 : 1 ≤ l.length) (h8 : l.length ≤ 8) : Ct Try.prog 120 [.string (bs l)] [] [] (fun v' post => v' = .tuple #[.int .u64 ((num l : Nat) : Int), .int .i64 0] ∧ post = []) :=
  ct_same (fun w => by
    have := number_any (bs l) w (by rw [bs_size]; omega)
    rw [bs_data, number_yes l (by omega)] at this
    exact this)
theorem ct_rnumber (l : List UInt8) (h1 : 1 ≤ l.length) (h8 : l.length ≤ 8) : Ct Try.prog 152 [.string (bs l)] [] [] (fun v' post => v' = .tuple #[.int .u64 ((num l : Nat) : Int), .int .i64 0] ∧ post = []) :=
  ct_same (fun w => by
    have := rnumber_any (bs l) w (by rw [bs_size]; omega)
    rw [bs_data, number_yes l (by omega)] at this
    exact this)

set_option maxRecDepth 100000 in
set_option maxHeartbeats 1000000 in
theorem sum_of (o1 : Option Nat) (p1 q1 : Nat) (c1 : Array Value) (T1 : TypeId) (f1 : Nat × Nat) (ls : List (List UInt8)) (hs : Sees 1 o1 p1 q1 c1 (ls.map strC) ls.length) (hl : ∀ s ∈ ls, s.length ≤ 9223372036854775807) :
    Ct Try.prog 113 [sv o1 p1 ls.length q1] [(o1, .cells c1 T1 f1)] [] fun v post => v = .int .u32 ((crcW ls).toNat : Int) ∧ post = [] := by
 have hk1 := hs.le
 have hk2 := hs.max
 refine ct_of Try.func113 rfl rfl (fun w0 => ?_)
 show G _ _ [(0, _)] _ _
 refine G_seq ?_
 refine G_region (l := [0]) rfl ?_
 refine G_val rfl rfl rfl rfl (V_assign rfl rfl) ?_
 refine G_done ?_
 refine G_seq ?_
 refine G_region (l := [0]) rfl ?_
 refine G_val rfl rfl rfl rfl (V_assign rfl rfl) ?_
 refine G_done ?_
 refine G_seq ?_
 refine G_seq ?_
 refine G_region (l := [0, 1, 2]) rfl ?_
 refine G_val rfl rfl rfl rfl (V_move rfl rfl) ?_
 refine G_val rfl rfl rfl rfl (V_len rfl rfl Try.underlying56 rfl) ?_
 refine G_val rfl rfl rfl rfl (V_move rfl rfl) ?_
 refine G_done ?_
 refine G_block ?_
 refine G_sub ?he3 [] ?hl3 (G_loop (X := Nat) (fun i => i ≤ ls.length) (fun i => ls.length - i) (fun i => [(3, .int .u32 ((crcW (ls.take i)).toNat : Int)), (6, sv o1 p1 ls.length q1), (7, .int .i64 (ls.length : Int)), (8, .int .i64 (i : Int))]) (fun i => []) ?round3 0 ?h03)
 case he3 => exact (And.intro rfl (And.intro rfl (And.intro rfl (And.intro rfl trivial))))
 case hl3 => exact ⟨_, rfl⟩
 case h03 => exact Nat.zero_le _
 case round3 =>
  intro i hJ ih
  try dsimp only at hJ ih
  refine G_seq ?_
  refine G_region (l := [0]) rfl ?_
  refine G_val rfl rfl rfl rfl (V_lss rfl rfl rfl) ?_
  refine G_done ?_
  refine G_seq ?_
  refine G_ifD rfl (fun hc1 => ?_) (fun hc1 => ?_)
  · skip
    refine G_skip ?_
    refine G_seq ?_
    refine G_block ?_
    refine G_seq ?_
    obtain ⟨s, hx⟩ := getI (show i < ls.length by omega)
    obtain ⟨b1, rfl⟩ := hs.isSome (by omega)
    refine G_region (l := [0, 1, 2]) rfl ?_
    first
      | refine G_val rfl rfl rfl rfl (V_indexAddrN (s := 1) rfl Try.underlying56 infSuperW_9 rfl rfl rfl rfl (by omega)) ?_
      | refine G_val rfl rfl rfl rfl (V_indexAddr (s := 1) rfl Try.underlying56 infSuperW_9 rfl rfl rfl (by omega) (by first | omega | (simp [spCells, pCells]; done) | (simp [spCells, pCells]; omega) | (simp [spCells, pCells] at *; omega))) ?_
    refine G_val rfl rfl rfl rfl (V_load1 rfl rfl (mem_at 0 rfl) (nth_of (hs.cell hx)) Try.underlying9 rfl) ?_
    refine G_val rfl rfl rfl rfl (V_assign rfl rfl) ?_
    refine G_done ?_
    refine G_region (l := [0, 1, 2, 3]) rfl ?_
    refine G_val rfl rfl rfl rfl (V_move rfl rfl) ?_
    refine G_val rfl rfl rfl rfl (V_move rfl rfl) ?_
    refine G_call (L2 := []) rfl rfl rfl rfl rfl rfl Try.call146 (ct_crc _ _ (hl s (List.mem_of_getElem? hx))) [] [] rfl rfl ?_
    rintro v post ⟨rfl, rfl⟩
    refine G_val rfl rfl rfl rfl (V_assign rfl rfl) ?_
    refine G_done ?_
    refine G_inBlock ?_
    rw [← crcW_next hx]
    refine G_region (l := [0, 1]) rfl ?_
    first
      | refine G_val rfl rfl rfl rfl ((V_add rfl rfl rfl).int (wrap_i64 (by omega))) ?_
      | refine G_val rfl rfl rfl rfl (V_add rfl rfl rfl) ?_
    refine G_val rfl rfl rfl rfl (V_move rfl rfl) ?_
    refine G_done ?_
    refine G_sub ?_ [] ?_ (ih (i + 1) ?_ ?_)
    · (refine (And.intro ?_ (And.intro ?_ (And.intro ?_ (And.intro ?_ trivial)))) <;> first | rfl | exact slot_int (by omega) | exact slot_int (by simp))
    · exact ⟨_, rfl⟩
    · omega
    · (first | omega | (dsimp only; omega))
  refine G_exit rfl ?_
  refine G_seq ?_
  refine G_region (l := [0, 1]) rfl ?_
  refine G_val rfl rfl rfl rfl (V_move rfl rfl) ?_
  refine G_val rfl rfl rfl rfl (V_assign rfl rfl) ?_
  refine G_done ?_
  refine G_ret (post := []) Try.func113 rfl (RVs_cons (RV_tmp rfl) RVs_nil) [] rfl ?_
  dsimp only [packed]
  rw [List.take_of_length_le (by omega)]; exact ⟨rfl, rfl⟩

set_option maxRecDepth 100000 in
set_option maxHeartbeats 1000000 in
theorem rsum_of (l : List UInt8) (h : l.length ≤ 9223372036854775807) :
    Ct Try.prog 116 [.string (bs l)] [] [] fun v post => v = .int .u32 ((crcN l : Nat) : Int) ∧ post = [] := by
 refine ct_of Try.func116 rfl rfl (fun w0 => ?_)
 show G _ _ [(0, _)] _ _
 refine G_seq ?_
 refine G_region (l := [0]) rfl ?_
 refine G_val rfl rfl rfl rfl (V_assign rfl rfl) ?_
 refine G_done ?_
 refine G_seq ?_
 refine G_region (l := [0, 1, 2]) rfl ?_
 refine G_val rfl rfl rfl rfl (V_move rfl rfl) ?_
 refine G_call (L2 := []) rfl rfl rfl rfl rfl rfl Try.call148 (ct_rcrc 4294967295#32 l h) [] [] rfl rfl ?_
 rintro v post ⟨rfl, rfl⟩
 refine G_val rfl rfl rfl rfl (V_assign rfl rfl) ?_
 refine G_done ?_
 refine G_ret (post := []) Try.func116 rfl (RVs_cons (RV_tmp rfl) RVs_nil) [] rfl ?_
 dsimp only [packed]
 exact ⟨rfl, rfl⟩


/-- Numbers that can be written as so many bytes. -/
def FitP (p : Int × Nat) : Prop := 1 ≤ p.2 ∧ p.2 ≤ 8 ∧ 0 ≤ p.1 ∧ p.1 < ((256 ^ p.2 : Nat) : Int) ∧ p.1 < 18446744073709551616
theorem joinP_next {ps : List (Int × Nat)} {i : Nat} {p : Int × Nat} (h : ps[i]? = some p) : joinP (ps.take (i + 1)) = joinP (ps.take i) ++ be p.2 p.1.toNat := by
  rw [take_succ_of h]; unfold joinP; rw [List.flatMap_append]; simp
theorem joinP_len {ps : List (Int × Nat)} (h : ∀ p ∈ ps, FitP p) : (joinP ps).length ≤ 8 * ps.length := by
  induction ps with
  | nil => simp [joinP]
  | cons p ps ih =>
    have h1 := ih (fun x hx => h x (by simp [hx]))
    have h2 := (h p (by simp)).2.1
    unfold joinP at *
    rw [List.flatMap_cons, List.length_append, be_length, List.length_cons]
    omega
instance : Inhabited (Int × Nat) := ⟨(0, 0)⟩

set_option maxRecDepth 100000 in
set_option maxHeartbeats 1000000 in
theorem sup_join (o1 : Option Nat) (p1 q1 : Nat) (c1 : Array Value) (T1 : TypeId) (f1 : Nat × Nat) (ps : List (Int × Nat)) (hs : Sees 2 o1 p1 q1 c1 (ps.flatMap pCells) ps.length) (hp : ∀ p ∈ ps, FitP p) (hn : ps.length ≤ 1000) :
    Ct Try.prog 112 [sv o1 p1 ps.length q1] [(o1, .cells c1 T1 f1)] [] fun v post => v = .string (bs (joinP ps)) ∧ post = [] := by
 have hk1 := hs.le
 have hk2 := hs.max
 refine ct_of Try.func112 rfl rfl (fun w0 => ?_)
 show G _ _ [(0, _)] _ _
 refine G_seq ?_
 refine G_region (l := [0]) rfl ?_
 refine G_val rfl rfl rfl rfl (V_assign rfl rfl) ?_
 refine G_done ?_
 refine G_seq ?_
 refine G_region (l := [0]) rfl ?_
 refine G_new rfl rfl rfl rfl (N_allocA rfl infSuperW_109 rfl) (fun b3 => ?_)
 refine G_done ?_
 refine G_seq ?_
 refine G_seq ?_
 refine G_addNone (.cells #[] 5 (0, 0)) ?_
 refine G_region (l := [0, 1, 2]) rfl ?_
 refine G_val rfl rfl rfl rfl (V_move rfl rfl) ?_
 refine G_val rfl rfl rfl rfl (V_len rfl rfl Try.underlying197 rfl) ?_
 refine G_val rfl rfl rfl rfl (V_move rfl rfl) ?_
 refine G_done ?_
 refine G_block ?_
 refine G_sub ?he3 [1, 0] ?hl3 (G_loop (X := Nat × Value × Sl) (fun x => match x with | ⟨i, pv, u⟩ => i ≤ ps.length ∧ UsedOr b3 pv ∧ Txt u (joinP (ps.take i))) (fun x => match x with | ⟨i, pv, u⟩ => ps.length - i) (fun x => match x with | ⟨i, pv, u⟩ => [(3, .pointer (some ⟨b3, 0, none⟩)), (8, sv o1 p1 ps.length q1), (9, .int .i64 (ps.length : Int)), (10, .int .i64 (i : Int))]) (fun x => match x with | ⟨i, pv, u⟩ => [(some b3, .cells #[pv, u.v (joinP (ps.take i)).length] 109 (0, 0)), (u.ob, .cells u.cs 5 u.fz)]) ?round3 (0, .pointer none, slNil) ?h03)
 case he3 => exact (And.intro rfl (And.intro rfl (And.intro rfl (And.intro rfl trivial))))
 case hl3 => exact ⟨_, rfl⟩
 case h03 => exact ⟨Nat.zero_le _, .inl rfl, txt_nil⟩
 case round3 =>
  intro x hJ ih
  try dsimp only at hJ ih
  obtain ⟨i, pv, u⟩ := x
  try dsimp only at hJ ih
  obtain ⟨hi, hpx, hux⟩ := hJ
  show G _ _ [(3, .pointer (some ⟨b3, 0, none⟩)), (8, sv o1 p1 ps.length q1), (9, .int .i64 (ps.length : Int)), (10, .int .i64 (i : Int))] [(some b3, .cells #[pv, u.v (joinP (ps.take i)).length] 109 (0, 0)), (u.ob, .cells u.cs 5 u.fz)] _
  refine G_seq ?_
  refine G_region (l := [0]) rfl ?_
  refine G_val rfl rfl rfl rfl (V_lss rfl rfl rfl) ?_
  refine G_done ?_
  refine G_seq ?_
  refine G_ifD rfl (fun hc1 => ?_) (fun hc1 => ?_)
  · skip
    refine G_skip ?_
    refine G_seq ?_
    refine G_block ?_
    refine G_seq ?_
    obtain ⟨p, hx⟩ := getI (show i < ps.length by omega)
    obtain ⟨b1, rfl⟩ := hs.isSome (by omega)
    obtain ⟨g1, g2, g3, g4, g5⟩ := hp p (List.mem_of_getElem? hx)
    have hjl := joinP_len (ps := ps.take i) (fun x hx => hp x (List.mem_of_mem_take hx))
    have htl : (ps.take i).length = i := by simp; omega
    have hbl := be_length p.2 p.1.toNat
    refine G_region (l := [0, 1, 2, 3]) rfl ?_
    first
      | refine G_val rfl rfl rfl rfl (V_indexAddrN (s := 2) rfl Try.underlying197 infSuperW_155 rfl rfl rfl rfl (by omega)) ?_
      | refine G_val rfl rfl rfl rfl (V_indexAddr (s := 2) rfl Try.underlying197 infSuperW_155 rfl rfl rfl (by omega) (by first | omega | (simp [spCells, pCells]; done) | (simp [spCells, pCells]; omega) | (simp [spCells, pCells] at *; omega))) ?_
    refine G_val rfl rfl rfl rfl (V_loadA (s := 2) (vs := (pCells p).toArray) rfl rfl (mem_at 0 rfl) Try.underlying155 rfl infSuperW_155 rfl (hs.elem p_len hx) (by first | rfl | (simp [bcells_length, spCells, pCells]; done) | (simp [bcells_length, spCells, pCells]; omega) | (simp [bcells_length, *, spCells, pCells]; done))) ?_
    refine G_new rfl rfl rfl rfl (N_allocA rfl infSuperW_155 rfl) (fun b5 => ?_)
    refine G_put (l1 := []) (L' := [_, _, _]) rfl rfl rfl rfl (P_storeA (s := 2) rfl rfl rfl (mem_at 0 rfl) (by first | rfl | (simp [bcells_length, spCells, pCells]; done) | (simp [bcells_length, spCells, pCells]; omega) | (simp [bcells_length, *, spCells, pCells]; done)) infSuperW_155 rfl (by first | rfl | (simp [bcells_length, spCells, pCells]; done) | (simp [bcells_length, spCells, pCells]; omega) | (simp [bcells_length, *, spCells, pCells]; done)) (by first | rfl | exact bcells_all _ | (simp [Value.oneCell', spCells, pCells]; done) | (simp [Value.oneCell', *, spCells, pCells]; done))) rfl ?_
    refine G_done ?_
    refine G_seq ?_
    refine G_region (l := [0, 1, 2, 3, 4, 5, 6, 7, 8, 9]) rfl ?_
    refine G_val rfl rfl rfl rfl (V_fieldAddr (fo := 0) rfl Try.underlying155 rfl infSuperW_94 rfl rfl rfl) ?_
    refine G_val rfl rfl rfl rfl (V_load1 rfl rfl (mem_at 1 rfl) rfl Try.underlying94 rfl) ?_
    refine G_val rfl rfl rfl rfl (V_fieldAddr (fo := 1) rfl Try.underlying155 rfl infSuperW_3 rfl rfl rfl) ?_
    refine G_val rfl rfl rfl rfl (V_load1 rfl rfl (mem_at 1 rfl) rfl Try.underlying3 rfl) ?_
    refine G_call (L2 := [_, _, _]) rfl rfl rfl rfl rfl rfl Try.call145 (ct_fixed p.1 p.2 g1 g2 g3 g4 g5) [] [] rfl rfl ?_
    rintro v post ⟨rfl, rfl⟩
    show G _ _ _ [_, _, _] _
    refine G_val rfl rfl rfl rfl (V_move rfl rfl) ?_
    refine G_val rfl rfl rfl rfl (V_extract rfl rfl rfl) ?_
    refine G_val rfl rfl rfl rfl (V_extract rfl rfl rfl) ?_
    refine G_val rfl rfl rfl rfl (V_assign rfl rfl) ?_
    refine G_val rfl rfl rfl rfl (V_assign rfl rfl) ?_
    refine G_done ?_
    refine G_region (l := [0, 1]) rfl ?_
    refine G_val rfl rfl rfl rfl (V_move rfl rfl) ?_
    refine G_call (L2 := [_]) rfl rfl rfl rfl rfl rfl Try.call68 (bld_write _ _ _ _ _ hpx hux (by omega)) [1, 1] [] rfl rfl ?_
    rintro v post ⟨rfl, u1, hu1, rfl⟩
    show G _ _ _ [_, _, _] _
    refine G_done ?_
    refine G_inBlock ?_
    rw [← joinP_next hx] at hu1 ⊢
    refine G_region (l := [0, 1]) rfl ?_
    first
      | refine G_val rfl rfl rfl rfl ((V_add rfl rfl rfl).int (wrap_i64 (by omega))) ?_
      | refine G_val rfl rfl rfl rfl (V_add rfl rfl rfl) ?_
    refine G_val rfl rfl rfl rfl (V_move rfl rfl) ?_
    refine G_done ?_
    refine G_sub ?_ [0, 0] ?_ (ih (i + 1, .pointer (some ⟨b3, 0, none⟩), u1) ?_ ?_)
    · (refine (And.intro ?_ (And.intro ?_ (And.intro ?_ (And.intro ?_ trivial)))) <;> first | rfl | exact slot_int (by omega) | exact slot_int (by simp))
    · exact ⟨_, rfl⟩
    · exact ⟨by omega, .inr rfl, hu1⟩
    · (first | omega | (dsimp only; omega))
  refine G_exit rfl ?_
  refine G_seq ?_
  have hjl := joinP_len (ps := ps.take i) (fun x hx => hp x (List.mem_of_mem_take hx))
  have htl : (ps.take i).length = i := by simp; omega
  refine G_region (l := [0, 1]) rfl ?_
  refine G_call (L2 := []) rfl rfl rfl rfl rfl rfl Try.call73 (bld_string _ _ _ _ hux (by omega)) [0, 0] [] rfl rfl ?_
  rintro v post ⟨rfl, u1, hu1, rfl⟩
  show G _ _ _ [_, _] _
  refine G_val rfl rfl rfl rfl (V_assign rfl rfl) ?_
  refine G_done ?_
  refine G_ret (post := []) Try.func112 rfl (RVs_cons (RV_tmp rfl) RVs_nil) [] rfl ?_
  dsimp only [packed]
  rw [List.take_of_length_le (by omega)]; exact ⟨rfl, rfl⟩

set_option maxRecDepth 100000 in
set_option maxHeartbeats 1000000 in
theorem sup_may (s : Sp) (hs : SpOk s) :
    Ct Try.prog 53 [.agg (spCells s).toArray] [] [] fun v post => v = .bool (decide (MayS s)) ∧ post = [] := by
 refine ct_of Try.func53 rfl rfl (fun w0 => ?_)
 show G _ _ [(0, _)] _ _
 refine G_seq ?_
 refine G_region (l := [0, 1]) rfl ?_
 refine G_new rfl rfl rfl rfl (N_boxA rfl rfl) (fun b1 => ?_)
 refine G_val rfl rfl rfl rfl (V_assign rfl rfl) ?_
 refine G_done ?_
 refine G_seq ?_
 refine G_region (l := [0, 1, 2, 3, 4, 5, 6, 7, 8, 9, 10, 11, 12, 13, 14, 15, 16, 17, 18, 19, 20, 21, 22, 23, 24, 25, 26, 27, 28, 29, 30, 31, 32, 33, 34, 35]) rfl ?_
 refine G_val rfl rfl rfl rfl (V_fieldAddr (fo := 0) rfl Try.underlying75 rfl infSuperW_73 rfl rfl rfl) ?_
 refine G_val rfl rfl rfl rfl (V_load1 rfl rfl (mem_at 0 rfl) rfl Try.underlying73 rfl) ?_
 refine G_val rfl rfl rfl rfl (V_geq rfl rfl rfl) ?_
 refine G_val rfl rfl rfl rfl (V_move rfl rfl) ?_
 refine G_splitD 6 rfl (fun hc1 => ?_) (fun hc1 => ?_)
 · skip
   refine G_val rfl rfl rfl rfl (V_fieldAddr (fo := 1) rfl Try.underlying75 rfl infSuperW_73 rfl rfl rfl) ?_
   refine G_val rfl rfl rfl rfl (V_load1 rfl rfl (mem_at 0 rfl) rfl Try.underlying73 rfl) ?_
   refine G_val rfl rfl rfl rfl (V_geq rfl rfl rfl) ?_
   refine G_val rfl rfl rfl rfl (V_pickT rfl rfl rfl) ?_
   refine G_val rfl rfl rfl rfl (V_move rfl rfl) ?_
   refine G_splitD 11 rfl (fun hc2 => ?_) (fun hc2 => ?_)
   · skip
     refine G_val rfl rfl rfl rfl (V_fieldAddr (fo := 2) rfl Try.underlying75 rfl infSuperW_73 rfl rfl rfl) ?_
     refine G_val rfl rfl rfl rfl (V_load1 rfl rfl (mem_at 0 rfl) rfl Try.underlying73 rfl) ?_
     refine G_val rfl rfl rfl rfl (V_fieldAddr (fo := 1) rfl Try.underlying75 rfl infSuperW_73 rfl rfl rfl) ?_
     refine G_val rfl rfl rfl rfl (V_load1 rfl rfl (mem_at 0 rfl) rfl Try.underlying73 rfl) ?_
     refine G_val rfl rfl rfl rfl (V_geq rfl rfl rfl) ?_
     refine G_val rfl rfl rfl rfl (V_pickT rfl rfl rfl) ?_
     refine G_val rfl rfl rfl rfl (V_move rfl rfl) ?_
     refine G_splitD 18 rfl (fun hc3 => ?_) (fun hc3 => ?_)
     · skip
       refine G_val rfl rfl rfl rfl (V_fieldAddr (fo := 3) rfl Try.underlying75 rfl infSuperW_3 rfl rfl rfl) ?_
       refine G_val rfl rfl rfl rfl (V_load1 rfl rfl (mem_at 0 rfl) rfl Try.underlying3 rfl) ?_
       refine G_val rfl rfl rfl rfl (V_eql rfl rfl rfl) ?_
       refine G_val rfl rfl rfl rfl (V_move rfl rfl) ?_
       refine G_splitD 22 rfl (fun hc4 => ?_) (fun hc4 => ?_)
       · skip
         refine G_off rfl rfl rfl rfl ?_
         refine G_off rfl rfl rfl rfl ?_
         refine G_off rfl rfl rfl rfl ?_
         refine G_val rfl rfl rfl rfl (V_pickT rfl rfl rfl) ?_
         refine G_val rfl rfl rfl rfl (V_pickT rfl rfl rfl) ?_
         refine G_val rfl rfl rfl rfl (V_move rfl rfl) ?_
         refine G_val rfl rfl rfl rfl (V_fieldAddr (fo := 4) rfl Try.underlying75 rfl infSuperW_3 rfl rfl rfl) ?_
         refine G_val rfl rfl rfl rfl (V_load1 rfl rfl (mem_at 0 rfl) rfl Try.underlying3 rfl) ?_
         refine G_val rfl rfl rfl rfl (V_geq rfl rfl rfl) ?_
         refine G_val rfl rfl rfl rfl (V_pickT rfl rfl rfl) ?_
         refine G_val rfl rfl rfl rfl (V_move rfl rfl) ?_
         refine G_splitD 33 rfl (fun hc5 => ?_) (fun hc5 => ?_)
         · skip
           refine G_val rfl rfl rfl rfl (V_fieldAddr (fo := 4) rfl Try.underlying75 rfl infSuperW_3 rfl rfl rfl) ?_
           refine G_val rfl rfl rfl rfl (V_load1 rfl rfl (mem_at 0 rfl) rfl Try.underlying3 rfl) ?_
           refine G_val rfl rfl rfl rfl (V_leq rfl rfl rfl) ?_
           refine G_val rfl rfl rfl rfl (V_pickT rfl rfl rfl) ?_
           refine G_val rfl rfl rfl rfl (V_assign rfl rfl) ?_
           refine G_done ?_
           refine G_ret (post := []) Try.func53 rfl (RVs_cons (RV_tmp rfl) RVs_nil) [] rfl ?_
           dsimp only [packed]
           first
             | exact ⟨bool_eq (decide_eq_true (by unfold MayS; omega)).symm, rfl⟩
             | exact ⟨bool_eq (decide_eq_false (by unfold MayS; omega)).symm, rfl⟩
             | exact ⟨bool_eq (decide_eq_decide.2 (by unfold MayS; omega)), rfl⟩
         refine G_off rfl rfl rfl rfl ?_
         refine G_off rfl rfl rfl rfl ?_
         refine G_off rfl rfl rfl rfl ?_
         refine G_val rfl rfl rfl rfl (V_pickF rfl rfl rfl) ?_
         refine G_val rfl rfl rfl rfl (V_assign rfl rfl) ?_
         refine G_done ?_
         refine G_ret (post := []) Try.func53 rfl (RVs_cons (RV_tmp rfl) RVs_nil) [] rfl ?_
         dsimp only [packed]
         first
           | exact ⟨bool_eq (decide_eq_true (by unfold MayS; omega)).symm, rfl⟩
           | exact ⟨bool_eq (decide_eq_false (by unfold MayS; omega)).symm, rfl⟩
           | exact ⟨bool_eq (decide_eq_decide.2 (by unfold MayS; omega)), rfl⟩
       refine G_val rfl rfl rfl rfl (V_fieldAddr (fo := 3) rfl Try.underlying75 rfl infSuperW_3 rfl rfl rfl) ?_
       refine G_val rfl rfl rfl rfl (V_load1 rfl rfl (mem_at 0 rfl) rfl Try.underlying3 rfl) ?_
       refine G_val rfl rfl rfl rfl (V_eql rfl rfl rfl) ?_
       refine G_val rfl rfl rfl rfl (V_pickF rfl rfl rfl) ?_
       refine G_val rfl rfl rfl rfl (V_pickT rfl rfl rfl) ?_
       refine G_val rfl rfl rfl rfl (V_move rfl rfl) ?_
       refine G_splitD 28 rfl (fun hc5 => ?_) (fun hc5 => ?_)
       · skip
         refine G_val rfl rfl rfl rfl (V_fieldAddr (fo := 4) rfl Try.underlying75 rfl infSuperW_3 rfl rfl rfl) ?_
         refine G_val rfl rfl rfl rfl (V_load1 rfl rfl (mem_at 0 rfl) rfl Try.underlying3 rfl) ?_
         refine G_val rfl rfl rfl rfl (V_geq rfl rfl rfl) ?_
         refine G_val rfl rfl rfl rfl (V_pickT rfl rfl rfl) ?_
         refine G_val rfl rfl rfl rfl (V_move rfl rfl) ?_
         refine G_splitD 33 rfl (fun hc6 => ?_) (fun hc6 => ?_)
         · skip
           refine G_val rfl rfl rfl rfl (V_fieldAddr (fo := 4) rfl Try.underlying75 rfl infSuperW_3 rfl rfl rfl) ?_
           refine G_val rfl rfl rfl rfl (V_load1 rfl rfl (mem_at 0 rfl) rfl Try.underlying3 rfl) ?_
           refine G_val rfl rfl rfl rfl (V_leq rfl rfl rfl) ?_
           refine G_val rfl rfl rfl rfl (V_pickT rfl rfl rfl) ?_
           refine G_val rfl rfl rfl rfl (V_assign rfl rfl) ?_
           refine G_done ?_
           refine G_ret (post := []) Try.func53 rfl (RVs_cons (RV_tmp rfl) RVs_nil) [] rfl ?_
           dsimp only [packed]
           first
             | exact ⟨bool_eq (decide_eq_true (by unfold MayS; omega)).symm, rfl⟩
             | exact ⟨bool_eq (decide_eq_false (by unfold MayS; omega)).symm, rfl⟩
             | exact ⟨bool_eq (decide_eq_decide.2 (by unfold MayS; omega)), rfl⟩
         refine G_off rfl rfl rfl rfl ?_
         refine G_off rfl rfl rfl rfl ?_
         refine G_off rfl rfl rfl rfl ?_
         refine G_val rfl rfl rfl rfl (V_pickF rfl rfl rfl) ?_
         refine G_val rfl rfl rfl rfl (V_assign rfl rfl) ?_
         refine G_done ?_
         refine G_ret (post := []) Try.func53 rfl (RVs_cons (RV_tmp rfl) RVs_nil) [] rfl ?_
         dsimp only [packed]
         first
           | exact ⟨bool_eq (decide_eq_true (by unfold MayS; omega)).symm, rfl⟩
           | exact ⟨bool_eq (decide_eq_false (by unfold MayS; omega)).symm, rfl⟩
           | exact ⟨bool_eq (decide_eq_decide.2 (by unfold MayS; omega)), rfl⟩
       refine G_off rfl rfl rfl rfl ?_
       refine G_off rfl rfl rfl rfl ?_
       refine G_off rfl rfl rfl rfl ?_
       refine G_val rfl rfl rfl rfl (V_pickF rfl rfl rfl) ?_
       refine G_val rfl rfl rfl rfl (V_move rfl rfl) ?_
       refine G_off rfl rfl rfl rfl ?_
       refine G_off rfl rfl rfl rfl ?_
       refine G_off rfl rfl rfl rfl ?_
       refine G_val rfl rfl rfl rfl (V_pickF rfl rfl rfl) ?_
       refine G_val rfl rfl rfl rfl (V_assign rfl rfl) ?_
       refine G_done ?_
       refine G_ret (post := []) Try.func53 rfl (RVs_cons (RV_tmp rfl) RVs_nil) [] rfl ?_
       dsimp only [packed]
       first
         | exact ⟨bool_eq (decide_eq_true (by unfold MayS; omega)).symm, rfl⟩
         | exact ⟨bool_eq (decide_eq_false (by unfold MayS; omega)).symm, rfl⟩
         | exact ⟨bool_eq (decide_eq_decide.2 (by unfold MayS; omega)), rfl⟩
     refine G_off rfl rfl rfl rfl ?_
     refine G_off rfl rfl rfl rfl ?_
     refine G_off rfl rfl rfl rfl ?_
     refine G_off rfl rfl rfl rfl ?_
     refine G_off rfl rfl rfl rfl ?_
     refine G_off rfl rfl rfl rfl ?_
     refine G_off rfl rfl rfl rfl ?_
     refine G_off rfl rfl rfl rfl ?_
     refine G_val rfl rfl rfl rfl (V_pickF rfl rfl rfl) ?_
     refine G_val rfl rfl rfl rfl (V_move rfl rfl) ?_
     refine G_off rfl rfl rfl rfl ?_
     refine G_off rfl rfl rfl rfl ?_
     refine G_off rfl rfl rfl rfl ?_
     refine G_val rfl rfl rfl rfl (V_pickF rfl rfl rfl) ?_
     refine G_val rfl rfl rfl rfl (V_move rfl rfl) ?_
     refine G_off rfl rfl rfl rfl ?_
     refine G_off rfl rfl rfl rfl ?_
     refine G_off rfl rfl rfl rfl ?_
     refine G_val rfl rfl rfl rfl (V_pickF rfl rfl rfl) ?_
     refine G_val rfl rfl rfl rfl (V_assign rfl rfl) ?_
     refine G_done ?_
     refine G_ret (post := []) Try.func53 rfl (RVs_cons (RV_tmp rfl) RVs_nil) [] rfl ?_
     dsimp only [packed]
     first
       | exact ⟨bool_eq (decide_eq_true (by unfold MayS; omega)).symm, rfl⟩
       | exact ⟨bool_eq (decide_eq_false (by unfold MayS; omega)).symm, rfl⟩
       | exact ⟨bool_eq (decide_eq_decide.2 (by unfold MayS; omega)), rfl⟩
   refine G_off rfl rfl rfl rfl ?_
   refine G_off rfl rfl rfl rfl ?_
   refine G_off rfl rfl rfl rfl ?_
   refine G_off rfl rfl rfl rfl ?_
   refine G_off rfl rfl rfl rfl ?_
   refine G_val rfl rfl rfl rfl (V_pickF rfl rfl rfl) ?_
   refine G_val rfl rfl rfl rfl (V_move rfl rfl) ?_
   refine G_off rfl rfl rfl rfl ?_
   refine G_off rfl rfl rfl rfl ?_
   refine G_off rfl rfl rfl rfl ?_
   refine G_off rfl rfl rfl rfl ?_
   refine G_off rfl rfl rfl rfl ?_
   refine G_off rfl rfl rfl rfl ?_
   refine G_off rfl rfl rfl rfl ?_
   refine G_off rfl rfl rfl rfl ?_
   refine G_val rfl rfl rfl rfl (V_pickF rfl rfl rfl) ?_
   refine G_val rfl rfl rfl rfl (V_move rfl rfl) ?_
   refine G_off rfl rfl rfl rfl ?_
   refine G_off rfl rfl rfl rfl ?_
   refine G_off rfl rfl rfl rfl ?_
   refine G_val rfl rfl rfl rfl (V_pickF rfl rfl rfl) ?_
   refine G_val rfl rfl rfl rfl (V_move rfl rfl) ?_
   refine G_off rfl rfl rfl rfl ?_
   refine G_off rfl rfl rfl rfl ?_
   refine G_off rfl rfl rfl rfl ?_
   refine G_val rfl rfl rfl rfl (V_pickF rfl rfl rfl) ?_
   refine G_val rfl rfl rfl rfl (V_assign rfl rfl) ?_
   refine G_done ?_
   refine G_ret (post := []) Try.func53 rfl (RVs_cons (RV_tmp rfl) RVs_nil) [] rfl ?_
   dsimp only [packed]
   first
     | exact ⟨bool_eq (decide_eq_true (by unfold MayS; omega)).symm, rfl⟩
     | exact ⟨bool_eq (decide_eq_false (by unfold MayS; omega)).symm, rfl⟩
     | exact ⟨bool_eq (decide_eq_decide.2 (by unfold MayS; omega)), rfl⟩
 refine G_off rfl rfl rfl rfl ?_
 refine G_off rfl rfl rfl rfl ?_
 refine G_off rfl rfl rfl rfl ?_
 refine G_val rfl rfl rfl rfl (V_pickF rfl rfl rfl) ?_
 refine G_val rfl rfl rfl rfl (V_move rfl rfl) ?_
 refine G_off rfl rfl rfl rfl ?_
 refine G_off rfl rfl rfl rfl ?_
 refine G_off rfl rfl rfl rfl ?_
 refine G_off rfl rfl rfl rfl ?_
 refine G_off rfl rfl rfl rfl ?_
 refine G_val rfl rfl rfl rfl (V_pickF rfl rfl rfl) ?_
 refine G_val rfl rfl rfl rfl (V_move rfl rfl) ?_
 refine G_off rfl rfl rfl rfl ?_
 refine G_off rfl rfl rfl rfl ?_
 refine G_off rfl rfl rfl rfl ?_
 refine G_off rfl rfl rfl rfl ?_
 refine G_off rfl rfl rfl rfl ?_
 refine G_off rfl rfl rfl rfl ?_
 refine G_off rfl rfl rfl rfl ?_
 refine G_off rfl rfl rfl rfl ?_
 refine G_val rfl rfl rfl rfl (V_pickF rfl rfl rfl) ?_
 refine G_val rfl rfl rfl rfl (V_move rfl rfl) ?_
 refine G_off rfl rfl rfl rfl ?_
 refine G_off rfl rfl rfl rfl ?_
 refine G_off rfl rfl rfl rfl ?_
 refine G_val rfl rfl rfl rfl (V_pickF rfl rfl rfl) ?_
 refine G_val rfl rfl rfl rfl (V_move rfl rfl) ?_
 refine G_off rfl rfl rfl rfl ?_
 refine G_off rfl rfl rfl rfl ?_
 refine G_off rfl rfl rfl rfl ?_
 refine G_val rfl rfl rfl rfl (V_pickF rfl rfl rfl) ?_
 refine G_val rfl rfl rfl rfl (V_assign rfl rfl) ?_
 refine G_done ?_
 refine G_ret (post := []) Try.func53 rfl (RVs_cons (RV_tmp rfl) RVs_nil) [] rfl ?_
 dsimp only [packed]
 first
   | exact ⟨bool_eq (decide_eq_true (by unfold MayS; omega)).symm, rfl⟩
   | exact ⟨bool_eq (decide_eq_false (by unfold MayS; omega)).symm, rfl⟩
   | exact ⟨bool_eq (decide_eq_decide.2 (by unfold MayS; omega)), rfl⟩

set_option maxRecDepth 100000 in
set_option maxHeartbeats 1000000 in
theorem rsup_may (s : Sp) (hs : SpOk s) :
    Ct Try.prog 54 [.agg (spCells s).toArray] [] [] fun v post => v = .bool (decide (MayS s)) ∧ post = [] := by
 refine ct_of Try.func54 rfl rfl (fun w0 => ?_)
 show G _ _ [(0, _)] _ _
 refine G_seq ?_
 refine G_region (l := [0, 1]) rfl ?_
 refine G_new rfl rfl rfl rfl (N_boxA rfl rfl) (fun b1 => ?_)
 refine G_val rfl rfl rfl rfl (V_assign rfl rfl) ?_
 refine G_done ?_
 refine G_seq ?_
 refine G_region (l := [0, 1, 2, 3, 4, 5, 6, 7, 8, 9, 10, 11, 12, 13, 14, 15, 16, 17, 18, 19, 20, 21, 22, 23, 24, 25, 26, 27, 28, 29, 30, 31, 32, 33, 34, 35]) rfl ?_
 refine G_val rfl rfl rfl rfl (V_fieldAddr (fo := 0) rfl Try.underlying75 rfl infSuperW_73 rfl rfl rfl) ?_
 refine G_val rfl rfl rfl rfl (V_load1 rfl rfl (mem_at 0 rfl) rfl Try.underlying73 rfl) ?_
 refine G_val rfl rfl rfl rfl (V_gtr rfl rfl rfl) ?_
 refine G_val rfl rfl rfl rfl (V_move rfl rfl) ?_
 refine G_splitD 6 rfl (fun hc1 => ?_) (fun hc1 => ?_)
 · skip
   refine G_val rfl rfl rfl rfl (V_fieldAddr (fo := 1) rfl Try.underlying75 rfl infSuperW_73 rfl rfl rfl) ?_
   refine G_val rfl rfl rfl rfl (V_load1 rfl rfl (mem_at 0 rfl) rfl Try.underlying73 rfl) ?_
   refine G_val rfl rfl rfl rfl (V_gtr rfl rfl rfl) ?_
   refine G_val rfl rfl rfl rfl (V_pickT rfl rfl rfl) ?_
   refine G_val rfl rfl rfl rfl (V_move rfl rfl) ?_
   refine G_splitD 11 rfl (fun hc2 => ?_) (fun hc2 => ?_)
   · skip
     refine G_val rfl rfl rfl rfl (V_fieldAddr (fo := 2) rfl Try.underlying75 rfl infSuperW_73 rfl rfl rfl) ?_
     refine G_val rfl rfl rfl rfl (V_load1 rfl rfl (mem_at 0 rfl) rfl Try.underlying73 rfl) ?_
     refine G_val rfl rfl rfl rfl (V_fieldAddr (fo := 1) rfl Try.underlying75 rfl infSuperW_73 rfl rfl rfl) ?_
     refine G_val rfl rfl rfl rfl (V_load1 rfl rfl (mem_at 0 rfl) rfl Try.underlying73 rfl) ?_
     refine G_val rfl rfl rfl rfl (V_geq rfl rfl rfl) ?_
     refine G_val rfl rfl rfl rfl (V_pickT rfl rfl rfl) ?_
     refine G_val rfl rfl rfl rfl (V_move rfl rfl) ?_
     refine G_splitD 18 rfl (fun hc3 => ?_) (fun hc3 => ?_)
     · skip
       refine G_val rfl rfl rfl rfl (V_fieldAddr (fo := 3) rfl Try.underlying75 rfl infSuperW_3 rfl rfl rfl) ?_
       refine G_val rfl rfl rfl rfl (V_load1 rfl rfl (mem_at 0 rfl) rfl Try.underlying3 rfl) ?_
       refine G_val rfl rfl rfl rfl (V_geq rfl rfl rfl) ?_
       refine G_val rfl rfl rfl rfl (V_pickT rfl rfl rfl) ?_
       refine G_val rfl rfl rfl rfl (V_move rfl rfl) ?_
       refine G_splitD 23 rfl (fun hc4 => ?_) (fun hc4 => ?_)
       · skip
         refine G_val rfl rfl rfl rfl (V_fieldAddr (fo := 3) rfl Try.underlying75 rfl infSuperW_3 rfl rfl rfl) ?_
         refine G_val rfl rfl rfl rfl (V_load1 rfl rfl (mem_at 0 rfl) rfl Try.underlying3 rfl) ?_
         refine G_val rfl rfl rfl rfl (V_leq rfl rfl rfl) ?_
         refine G_val rfl rfl rfl rfl (V_pickT rfl rfl rfl) ?_
         refine G_val rfl rfl rfl rfl (V_move rfl rfl) ?_
         refine G_splitD 28 rfl (fun hc5 => ?_) (fun hc5 => ?_)
         · skip
           refine G_val rfl rfl rfl rfl (V_fieldAddr (fo := 4) rfl Try.underlying75 rfl infSuperW_3 rfl rfl rfl) ?_
           refine G_val rfl rfl rfl rfl (V_load1 rfl rfl (mem_at 0 rfl) rfl Try.underlying3 rfl) ?_
           refine G_val rfl rfl rfl rfl (V_geq rfl rfl rfl) ?_
           refine G_val rfl rfl rfl rfl (V_pickT rfl rfl rfl) ?_
           refine G_val rfl rfl rfl rfl (V_move rfl rfl) ?_
           refine G_splitD 33 rfl (fun hc6 => ?_) (fun hc6 => ?_)
           · skip
             refine G_val rfl rfl rfl rfl (V_fieldAddr (fo := 4) rfl Try.underlying75 rfl infSuperW_3 rfl rfl rfl) ?_
             refine G_val rfl rfl rfl rfl (V_load1 rfl rfl (mem_at 0 rfl) rfl Try.underlying3 rfl) ?_
             refine G_val rfl rfl rfl rfl (V_leq rfl rfl rfl) ?_
             refine G_val rfl rfl rfl rfl (V_pickT rfl rfl rfl) ?_
             refine G_val rfl rfl rfl rfl (V_assign rfl rfl) ?_
             refine G_done ?_
             refine G_ret (post := []) Try.func54 rfl (RVs_cons (RV_tmp rfl) RVs_nil) [] rfl ?_
             dsimp only [packed]
             first
               | exact ⟨bool_eq (decide_eq_true (by unfold MayS; omega)).symm, rfl⟩
               | exact ⟨bool_eq (decide_eq_false (by unfold MayS; omega)).symm, rfl⟩
               | exact ⟨bool_eq (decide_eq_decide.2 (by unfold MayS; omega)), rfl⟩
           refine G_off rfl rfl rfl rfl ?_
           refine G_off rfl rfl rfl rfl ?_
           refine G_off rfl rfl rfl rfl ?_
           refine G_val rfl rfl rfl rfl (V_pickF rfl rfl rfl) ?_
           refine G_val rfl rfl rfl rfl (V_assign rfl rfl) ?_
           refine G_done ?_
           refine G_ret (post := []) Try.func54 rfl (RVs_cons (RV_tmp rfl) RVs_nil) [] rfl ?_
           dsimp only [packed]
           first
             | exact ⟨bool_eq (decide_eq_true (by unfold MayS; omega)).symm, rfl⟩
             | exact ⟨bool_eq (decide_eq_false (by unfold MayS; omega)).symm, rfl⟩
             | exact ⟨bool_eq (decide_eq_decide.2 (by unfold MayS; omega)), rfl⟩
         refine G_off rfl rfl rfl rfl ?_
         refine G_off rfl rfl rfl rfl ?_
         refine G_off rfl rfl rfl rfl ?_
         refine G_val rfl rfl rfl rfl (V_pickF rfl rfl rfl) ?_
         refine G_val rfl rfl rfl rfl (V_move rfl rfl) ?_
         refine G_off rfl rfl rfl rfl ?_
         refine G_off rfl rfl rfl rfl ?_
         refine G_off rfl rfl rfl rfl ?_
         refine G_val rfl rfl rfl rfl (V_pickF rfl rfl rfl) ?_
         refine G_val rfl rfl rfl rfl (V_assign rfl rfl) ?_
         refine G_done ?_
         refine G_ret (post := []) Try.func54 rfl (RVs_cons (RV_tmp rfl) RVs_nil) [] rfl ?_
         dsimp only [packed]
         first
           | exact ⟨bool_eq (decide_eq_true (by unfold MayS; omega)).symm, rfl⟩
           | exact ⟨bool_eq (decide_eq_false (by unfold MayS; omega)).symm, rfl⟩
           | exact ⟨bool_eq (decide_eq_decide.2 (by unfold MayS; omega)), rfl⟩
       refine G_off rfl rfl rfl rfl ?_
       refine G_off rfl rfl rfl rfl ?_
       refine G_off rfl rfl rfl rfl ?_
       refine G_val rfl rfl rfl rfl (V_pickF rfl rfl rfl) ?_
       refine G_val rfl rfl rfl rfl (V_move rfl rfl) ?_
       refine G_off rfl rfl rfl rfl ?_
       refine G_off rfl rfl rfl rfl ?_
       refine G_off rfl rfl rfl rfl ?_
       refine G_val rfl rfl rfl rfl (V_pickF rfl rfl rfl) ?_
       refine G_val rfl rfl rfl rfl (V_move rfl rfl) ?_
       refine G_off rfl rfl rfl rfl ?_
       refine G_off rfl rfl rfl rfl ?_
       refine G_off rfl rfl rfl rfl ?_
       refine G_val rfl rfl rfl rfl (V_pickF rfl rfl rfl) ?_
       refine G_val rfl rfl rfl rfl (V_assign rfl rfl) ?_
       refine G_done ?_
       refine G_ret (post := []) Try.func54 rfl (RVs_cons (RV_tmp rfl) RVs_nil) [] rfl ?_
       dsimp only [packed]
       first
         | exact ⟨bool_eq (decide_eq_true (by unfold MayS; omega)).symm, rfl⟩
         | exact ⟨bool_eq (decide_eq_false (by unfold MayS; omega)).symm, rfl⟩
         | exact ⟨bool_eq (decide_eq_decide.2 (by unfold MayS; omega)), rfl⟩
     refine G_off rfl rfl rfl rfl ?_
     refine G_off rfl rfl rfl rfl ?_
     refine G_off rfl rfl rfl rfl ?_
     refine G_val rfl rfl rfl rfl (V_pickF rfl rfl rfl) ?_
     refine G_val rfl rfl rfl rfl (V_move rfl rfl) ?_
     refine G_off rfl rfl rfl rfl ?_
     refine G_off rfl rfl rfl rfl ?_
     refine G_off rfl rfl rfl rfl ?_
     refine G_val rfl rfl rfl rfl (V_pickF rfl rfl rfl) ?_
     refine G_val rfl rfl rfl rfl (V_move rfl rfl) ?_
     refine G_off rfl rfl rfl rfl ?_
     refine G_off rfl rfl rfl rfl ?_
     refine G_off rfl rfl rfl rfl ?_
     refine G_val rfl rfl rfl rfl (V_pickF rfl rfl rfl) ?_
     refine G_val rfl rfl rfl rfl (V_move rfl rfl) ?_
     refine G_off rfl rfl rfl rfl ?_
     refine G_off rfl rfl rfl rfl ?_
     refine G_off rfl rfl rfl rfl ?_
     refine G_val rfl rfl rfl rfl (V_pickF rfl rfl rfl) ?_
     refine G_val rfl rfl rfl rfl (V_assign rfl rfl) ?_
     refine G_done ?_
     refine G_ret (post := []) Try.func54 rfl (RVs_cons (RV_tmp rfl) RVs_nil) [] rfl ?_
     dsimp only [packed]
     first
       | exact ⟨bool_eq (decide_eq_true (by unfold MayS; omega)).symm, rfl⟩
       | exact ⟨bool_eq (decide_eq_false (by unfold MayS; omega)).symm, rfl⟩
       | exact ⟨bool_eq (decide_eq_decide.2 (by unfold MayS; omega)), rfl⟩
   refine G_off rfl rfl rfl rfl ?_
   refine G_off rfl rfl rfl rfl ?_
   refine G_off rfl rfl rfl rfl ?_
   refine G_off rfl rfl rfl rfl ?_
   refine G_off rfl rfl rfl rfl ?_
   refine G_val rfl rfl rfl rfl (V_pickF rfl rfl rfl) ?_
   refine G_val rfl rfl rfl rfl (V_move rfl rfl) ?_
   refine G_off rfl rfl rfl rfl ?_
   refine G_off rfl rfl rfl rfl ?_
   refine G_off rfl rfl rfl rfl ?_
   refine G_val rfl rfl rfl rfl (V_pickF rfl rfl rfl) ?_
   refine G_val rfl rfl rfl rfl (V_move rfl rfl) ?_
   refine G_off rfl rfl rfl rfl ?_
   refine G_off rfl rfl rfl rfl ?_
   refine G_off rfl rfl rfl rfl ?_
   refine G_val rfl rfl rfl rfl (V_pickF rfl rfl rfl) ?_
   refine G_val rfl rfl rfl rfl (V_move rfl rfl) ?_
   refine G_off rfl rfl rfl rfl ?_
   refine G_off rfl rfl rfl rfl ?_
   refine G_off rfl rfl rfl rfl ?_
   refine G_val rfl rfl rfl rfl (V_pickF rfl rfl rfl) ?_
   refine G_val rfl rfl rfl rfl (V_move rfl rfl) ?_
   refine G_off rfl rfl rfl rfl ?_
   refine G_off rfl rfl rfl rfl ?_
   refine G_off rfl rfl rfl rfl ?_
   refine G_val rfl rfl rfl rfl (V_pickF rfl rfl rfl) ?_
   refine G_val rfl rfl rfl rfl (V_assign rfl rfl) ?_
   refine G_done ?_
   refine G_ret (post := []) Try.func54 rfl (RVs_cons (RV_tmp rfl) RVs_nil) [] rfl ?_
   dsimp only [packed]
   first
     | exact ⟨bool_eq (decide_eq_true (by unfold MayS; omega)).symm, rfl⟩
     | exact ⟨bool_eq (decide_eq_false (by unfold MayS; omega)).symm, rfl⟩
     | exact ⟨bool_eq (decide_eq_decide.2 (by unfold MayS; omega)), rfl⟩
 refine G_off rfl rfl rfl rfl ?_
 refine G_off rfl rfl rfl rfl ?_
 refine G_off rfl rfl rfl rfl ?_
 refine G_val rfl rfl rfl rfl (V_pickF rfl rfl rfl) ?_
 refine G_val rfl rfl rfl rfl (V_move rfl rfl) ?_
 refine G_off rfl rfl rfl rfl ?_
 refine G_off rfl rfl rfl rfl ?_
 refine G_off rfl rfl rfl rfl ?_
 refine G_off rfl rfl rfl rfl ?_
 refine G_off rfl rfl rfl rfl ?_
 refine G_val rfl rfl rfl rfl (V_pickF rfl rfl rfl) ?_
 refine G_val rfl rfl rfl rfl (V_move rfl rfl) ?_
 refine G_off rfl rfl rfl rfl ?_
 refine G_off rfl rfl rfl rfl ?_
 refine G_off rfl rfl rfl rfl ?_
 refine G_val rfl rfl rfl rfl (V_pickF rfl rfl rfl) ?_
 refine G_val rfl rfl rfl rfl (V_move rfl rfl) ?_
 refine G_off rfl rfl rfl rfl ?_
 refine G_off rfl rfl rfl rfl ?_
 refine G_off rfl rfl rfl rfl ?_
 refine G_val rfl rfl rfl rfl (V_pickF rfl rfl rfl) ?_
 refine G_val rfl rfl rfl rfl (V_move rfl rfl) ?_
 refine G_off rfl rfl rfl rfl ?_
 refine G_off rfl rfl rfl rfl ?_
 refine G_off rfl rfl rfl rfl ?_
 refine G_val rfl rfl rfl rfl (V_pickF rfl rfl rfl) ?_
 refine G_val rfl rfl rfl rfl (V_move rfl rfl) ?_
 refine G_off rfl rfl rfl rfl ?_
 refine G_off rfl rfl rfl rfl ?_
 refine G_off rfl rfl rfl rfl ?_
 refine G_val rfl rfl rfl rfl (V_pickF rfl rfl rfl) ?_
 refine G_val rfl rfl rfl rfl (V_assign rfl rfl) ?_
 refine G_done ?_
 refine G_ret (post := []) Try.func54 rfl (RVs_cons (RV_tmp rfl) RVs_nil) [] rfl ?_
 dsimp only [packed]
 first
   | exact ⟨bool_eq (decide_eq_true (by unfold MayS; omega)).symm, rfl⟩
   | exact ⟨bool_eq (decide_eq_false (by unfold MayS; omega)).symm, rfl⟩
   | exact ⟨bool_eq (decide_eq_decide.2 (by unfold MayS; omega)), rfl⟩

set_option maxRecDepth 100000 in
set_option maxHeartbeats 1000000 in
theorem sup_place (s : Sp) (hs : SpOk s) :
    Ct Try.prog 55 [.agg (spCells s).toArray] [] [] fun v post => v = .int .i64 ((s.seq : Int) % 2) ∧ post = [] := by
 have hq := hs.q1
 refine ct_of Try.func55 rfl rfl (fun w0 => ?_)
 show G _ _ [(0, _)] _ _
 refine G_seq ?_
 refine G_region (l := [0, 1]) rfl ?_
 refine G_new rfl rfl rfl rfl (N_boxA rfl rfl) (fun b1 => ?_)
 refine G_val rfl rfl rfl rfl (V_assign rfl rfl) ?_
 refine G_done ?_
 refine G_seq ?_
 refine G_region (l := [0, 1, 2, 3, 4]) rfl ?_
 refine G_val rfl rfl rfl rfl (V_fieldAddr (fo := 0) rfl Try.underlying75 rfl infSuperW_73 rfl rfl rfl) ?_
 refine G_val rfl rfl rfl rfl (V_load1 rfl rfl (mem_at 0 rfl) rfl Try.underlying73 rfl) ?_
 refine G_val rfl rfl rfl rfl (V_rem rfl rfl rfl (by omega) (by omega)) ?_
 first
   | refine G_val rfl rfl rfl rfl ((V_conv rfl rfl Try.underlying73 Try.underlying3).int (wrap_i64 (by omega))) ?_
   | refine G_val rfl rfl rfl rfl (V_conv rfl rfl Try.underlying73 Try.underlying3) ?_
 refine G_val rfl rfl rfl rfl (V_assign rfl rfl) ?_
 refine G_done ?_
 refine G_ret (post := []) Try.func55 rfl (RVs_cons (RV_tmp rfl) RVs_nil) [] rfl ?_
 dsimp only [packed]
 exact ⟨rfl, rfl⟩


theorem partsS_fit {s : Sp} (hs : SpOk s) (h : MayS s) : ∀ p ∈ partsS s, FitP p := by
  obtain ⟨m1, m2, m3, m4, m5, m6⟩ := h
  have h1 := hs.q1
  have h2 := hs.b1
  have h3 := hs.e1
  have p4 : ((256 ^ 4 : Nat) : Int) = 4294967296 := by decide
  have p1 : ((256 ^ 1 : Nat) : Int) = 256 := by decide
  have p8 : ((256 ^ 8 : Nat) : Int) = 18446744073709551616 := by decide
  intro p hp
  simp only [partsS, List.mem_cons, List.not_mem_nil, or_false] at hp
  rcases hp with rfl | rfl | rfl | rfl | rfl <;> (unfold FitP; simp only; refine ⟨by omega, by omega, by omega, ?_, by omega⟩)
  · rw [p4]; omega
  · rw [p4]; omega
  · rw [p4]; omega
  · rw [p1]; omega
  · rw [p8]; omega
theorem crc_fit (l : List UInt8) : ∀ p ∈ [((crcN l : Int), 4)], FitP p := by
  have h := crcN_lt l
  have p4 : ((256 ^ 4 : Nat) : Int) = 4294967296 := by decide
  intro p hp
  rw [List.mem_singleton.1 hp]
  unfold FitP; simp only
  refine ⟨by omega, by omega, by omega, ?_, by omega⟩
  rw [p4]; omega
theorem sees_parts (b n : Nat) (ps : List (Int × Nat)) (hn : ps.length = n) (h : n < 1000) : Sees 2 (some b) 0 n (ps.flatMap pCells).toArray (ps.flatMap pCells) ps.length :=
  ⟨flat_len pCells p_len ps, by omega, by omega, by
    have := flat_len pCells p_len ps
    show ((ps.flatMap pCells).drop 0).take (ps.length * 2) = _
    rw [List.drop_zero, List.take_of_length_le (by rw [this]; exact Nat.le_refl _)], fun h => by cases h⟩
theorem sees_strs (b n : Nat) (ls : List (List UInt8)) (hn : ls.length = n) (h : n < 1000) : Sees 1 (some b) 0 n (ls.map strC).toArray (ls.map strC) ls.length :=
  ⟨by simp, by omega, by omega, by rw [List.drop_zero, List.take_of_length_le (by simp)], fun h => by cases h⟩
theorem join_crc (l : List UInt8) : joinP [((crcN l : Int), 4)] = be 4 (crcN l) := by simp [joinP]
theorem encT_yes {s : Sp} (h : decide (MayS s) = true) : encT s = encS s ∧ encE s = 0 := by
  have h := of_decide_eq_true h
  unfold encT encE; rw [if_pos h, if_pos h]; exact ⟨rfl, rfl⟩
theorem encT_no {s : Sp} (h : decide (MayS s) = false) : encT s = [] ∧ encE s = 1 := by
  have h := of_decide_eq_false h
  unfold encT encE; rw [if_neg h, if_neg h]; exact ⟨rfl, rfl⟩
theorem data_len27 (s : Sp) : ((bodyS s ++ be 4 (crcN (bodyS s))).length : Int) = 27 := by rw [List.length_append, bodyS_len, be_length]; rfl

set_option maxRecDepth 100000 in
set_option maxHeartbeats 1000000 in
theorem sup_encode (s : Sp) (hs : SpOk s) :
    Ct Try.prog 48 [.agg (spCells s).toArray] [] [] fun v post => v = .tuple #[.string (bs (encT s)), .int .i64 (encE s)] ∧ post = [] := by
 refine ct_of Try.func48 rfl rfl (fun w0 => ?_)
 show G _ _ [(0, _)] _ _
 refine G_seq ?_
 refine G_region (l := [0, 1, 2]) rfl ?_
 refine G_new rfl rfl rfl rfl (N_boxA rfl rfl) (fun b1 => ?_)
 refine G_val rfl rfl rfl rfl (V_assign rfl rfl) ?_
 refine G_val rfl rfl rfl rfl (V_assign rfl rfl) ?_
 refine G_done ?_
 refine G_seq ?_
 refine G_seq ?_
 refine G_region (l := [0, 1, 2]) rfl ?_
 first
   | refine G_val rfl rfl rfl rfl (V_loadW (s := 5) rfl rfl (mem_at 0 rfl) Try.underlying75 rfl infSuperW_75 rfl (by first | rfl | (simp [bcells_length, spCells, pCells]; done) | (simp [bcells_length, spCells, pCells]; omega) | (simp [bcells_length, *, spCells, pCells]; done))) ?_
   | refine G_val rfl rfl rfl rfl (V_loadA (s := 5) rfl rfl (mem_at 0 rfl) Try.underlying75 rfl infSuperW_75 rfl rfl (by first | rfl | (simp [bcells_length, spCells, pCells]; done) | (simp [bcells_length, spCells, pCells]; omega) | (simp [bcells_length, *, spCells, pCells]; done))) ?_
 refine G_call (L2 := [_]) rfl rfl rfl rfl rfl rfl Try.call53 (sup_may _ (by assumption)) [] [] rfl rfl ?_
 rintro v post ⟨rfl, rfl⟩
 show G _ _ _ [_] _
 refine G_val rfl rfl rfl rfl (V_not rfl rfl) ?_
 refine G_done ?_
 refine G_if rfl (fun hc1 => ?_) (fun hc1 => ?_)
 · skip
   refine G_seq ?_
   refine G_region (l := [0, 1]) rfl ?_
   refine G_val rfl rfl rfl rfl (V_assign rfl rfl) ?_
   refine G_val rfl rfl rfl rfl (V_assign rfl rfl) ?_
   refine G_done ?_
   refine G_ret (post := []) Try.func48 rfl (RVs_cons (RV_tmp rfl) (RVs_cons (RV_tmp rfl) RVs_nil)) [] rfl ?_
   dsimp only [packed]
   first
     | (obtain ⟨e1, e2⟩ := encT_no (s := s) (by first | assumption | (simpa using hc1)); rw [e1, e2]; exact ⟨rfl, rfl⟩)
     | (obtain ⟨e1, e2⟩ := encT_yes hmd
        have e3 : sealE s.seq (dataS s) = 0 := encS_E hm0
        rw [e1, e2]
        refine ⟨?_, rfl⟩
        show Value.tuple #[.string (bs (sealL s.seq 0 (dataS s))), .int .i64 ((sealE s.seq (dataS s) : Nat) : Int)] = _
        rw [e3]; rfl)
 refine G_skip ?_
 refine G_seq ?_
 have hm0 : MayS s := of_decide_eq_true (by first | assumption | (simpa using hc1))
 have hmd : decide (MayS s) = true := by first | assumption | (simpa using hc1)
 have hm := of_decide_eq_true hmd
 have hbl := bodyS_len s
 have hcl := crcN_lt (bodyS s)
 have hbe := be_length 4 (crcN (bodyS s))
 have hpf := partsS_fit hs hm
 have hjl := joinP_len hpf
 have hjl2 : (partsS s).length = 5 := rfl
 have hq := hs.q1
 have hb := hs.b1
 have he := hs.e1
 obtain ⟨mm1, mm2, mm3, mm4, mm5, mm6⟩ := hm
 have hdl := dataS_len s
 have hj2 : (joinP [((crcN (bodyS s) : Int), 4)]).length = 4 := by rw [join_crc]; exact be_length 4 _
 refine G_region (l := [0, 1, 2, 3, 4, 5, 6, 7, 8, 9, 10, 11, 12, 13, 14, 15, 16, 17, 18, 19, 20, 21, 22, 23]) rfl ?_
 refine G_val rfl rfl rfl rfl (V_fieldAddr (fo := 0) rfl Try.underlying75 rfl infSuperW_73 rfl rfl rfl) ?_
 refine G_val rfl rfl rfl rfl (V_load1 rfl rfl (mem_at 0 rfl) rfl Try.underlying73 rfl) ?_
 first
   | refine G_val rfl rfl rfl rfl ((V_conv rfl rfl Try.underlying73 Try.underlying94).int (wrap_u64 (by omega))) ?_
   | refine G_val rfl rfl rfl rfl (V_conv rfl rfl Try.underlying73 Try.underlying94) ?_
 refine G_val rfl rfl rfl rfl (V_buildS (cs := [_, _]) rfl Try.underlying155 infSuperW_155 rfl plcSuperW_155 rfl rfl rfl) ?_
 refine G_val rfl rfl rfl rfl (V_fieldAddr (fo := 1) rfl Try.underlying75 rfl infSuperW_73 rfl rfl rfl) ?_
 refine G_val rfl rfl rfl rfl (V_load1 rfl rfl (mem_at 0 rfl) rfl Try.underlying73 rfl) ?_
 first
   | refine G_val rfl rfl rfl rfl ((V_conv rfl rfl Try.underlying73 Try.underlying94).int (wrap_u64 (by omega))) ?_
   | refine G_val rfl rfl rfl rfl (V_conv rfl rfl Try.underlying73 Try.underlying94) ?_
 refine G_val rfl rfl rfl rfl (V_buildS (cs := [_, _]) rfl Try.underlying155 infSuperW_155 rfl plcSuperW_155 rfl rfl rfl) ?_
 refine G_val rfl rfl rfl rfl (V_fieldAddr (fo := 2) rfl Try.underlying75 rfl infSuperW_73 rfl rfl rfl) ?_
 refine G_val rfl rfl rfl rfl (V_load1 rfl rfl (mem_at 0 rfl) rfl Try.underlying73 rfl) ?_
 first
   | refine G_val rfl rfl rfl rfl ((V_conv rfl rfl Try.underlying73 Try.underlying94).int (wrap_u64 (by omega))) ?_
   | refine G_val rfl rfl rfl rfl (V_conv rfl rfl Try.underlying73 Try.underlying94) ?_
 refine G_val rfl rfl rfl rfl (V_buildS (cs := [_, _]) rfl Try.underlying155 infSuperW_155 rfl plcSuperW_155 rfl rfl rfl) ?_
 refine G_val rfl rfl rfl rfl (V_fieldAddr (fo := 3) rfl Try.underlying75 rfl infSuperW_3 rfl rfl rfl) ?_
 refine G_val rfl rfl rfl rfl (V_load1 rfl rfl (mem_at 0 rfl) rfl Try.underlying3 rfl) ?_
 first
   | refine G_val rfl rfl rfl rfl ((V_conv rfl rfl Try.underlying3 Try.underlying94).int (wrap_u64 (by omega))) ?_
   | refine G_val rfl rfl rfl rfl (V_conv rfl rfl Try.underlying3 Try.underlying94) ?_
 refine G_val rfl rfl rfl rfl (V_buildS (cs := [_, _]) rfl Try.underlying155 infSuperW_155 rfl plcSuperW_155 rfl rfl rfl) ?_
 refine G_val rfl rfl rfl rfl (V_fieldAddr (fo := 4) rfl Try.underlying75 rfl infSuperW_3 rfl rfl rfl) ?_
 refine G_val rfl rfl rfl rfl (V_load1 rfl rfl (mem_at 0 rfl) rfl Try.underlying3 rfl) ?_
 first
   | refine G_val rfl rfl rfl rfl ((V_conv rfl rfl Try.underlying3 Try.underlying94).int (wrap_u64 (by omega))) ?_
   | refine G_val rfl rfl rfl rfl (V_conv rfl rfl Try.underlying3 Try.underlying94) ?_
 refine G_val rfl rfl rfl rfl (V_buildS (cs := [_, _]) rfl Try.underlying155 infSuperW_155 rfl plcSuperW_155 rfl rfl rfl) ?_
 refine G_new rfl rfl rfl rfl (N_buildAll (s := 2) (cs := [_, _, _, _, _, _, _, _, _, _]) rfl Try.underlying197 infSuperW_155 rfl rfl rfl rfl rfl rfl rfl rfl rfl) (fun b28 => ?_)
 refine G_call (L2 := [_, _]) rfl rfl rfl rfl rfl rfl Try.call112 (sup_join (some b28) 0 5 _ _ _ (partsS s) (sees_parts b28 5 (partsS s) rfl (by omega)) hpf (by omega)) [] [0] rfl rfl ?_
 rintro v post ⟨rfl, rfl⟩
 show G _ _ _ [_, _] _
 refine G_val rfl rfl rfl rfl (V_sadd rfl rfl rfl (by first | omega | (simp [spCells, pCells]; done) | (simp [spCells, pCells]; omega) | (simp [spCells, pCells] at *; omega))) ?_
 refine G_val rfl rfl rfl rfl (V_assign rfl rfl) ?_
 refine G_done ?_
 refine G_seq ?_
 show G _ _ ((4, .string (bs (bodyS s))) :: _) _ _
 refine G_region (l := [0, 1, 2, 3, 4, 5, 6, 7, 8, 9]) rfl ?_
 refine G_val rfl rfl rfl rfl (V_move rfl rfl) ?_
 refine G_val rfl rfl rfl rfl (V_move rfl rfl) ?_
 refine G_new rfl rfl rfl rfl (N_buildAll (s := 1) (cs := [_]) rfl Try.underlying56 infSuperW_9 rfl rfl rfl rfl rfl rfl rfl rfl rfl) (fun b33 => ?_)
 refine G_call (L2 := [_, _, _]) rfl rfl rfl rfl rfl rfl Try.call113 (sum_of (some b33) 0 1 _ _ _ [bodyS s] (sees_strs b33 1 [bodyS s] rfl (by omega)) (by simp [bodyS_len])) [] [0] rfl rfl ?_
 rintro v post ⟨rfl, rfl⟩
 show G _ _ _ [_, _, _] _
 first
   | refine G_val rfl rfl rfl rfl ((V_conv rfl rfl Try.underlying73 Try.underlying94).int (wrap_u64 (by omega))) ?_
   | refine G_val rfl rfl rfl rfl (V_conv rfl rfl Try.underlying73 Try.underlying94) ?_
 refine G_val rfl rfl rfl rfl (V_buildS (cs := [_, _]) rfl Try.underlying155 infSuperW_155 rfl plcSuperW_155 rfl rfl rfl) ?_
 refine G_new rfl rfl rfl rfl (N_buildAll (s := 2) (cs := [_, _]) rfl Try.underlying197 infSuperW_155 rfl rfl rfl rfl rfl rfl rfl rfl rfl) (fun b37 => ?_)
 refine G_call (L2 := [_, _, _, _]) rfl rfl rfl rfl rfl rfl Try.call112 (sup_join (some b37) 0 1 _ _ _ [((crcN (bodyS s) : Int), 4)] (sees_parts b37 1 [((crcN (bodyS s) : Int), 4)] rfl (by omega)) (crc_fit _) (by simp)) [] [0] rfl rfl ?_
 rintro v post ⟨rfl, rfl⟩
 show G _ _ _ [_, _, _, _] _
 refine G_val rfl rfl rfl rfl (V_sadd rfl rfl rfl (by first | omega | (simp [spCells, pCells]; done) | (simp [spCells, pCells]; omega) | (simp [spCells, pCells] at *; omega))) ?_
 refine G_val rfl rfl rfl rfl (V_assign rfl rfl) ?_
 refine G_done ?_
 refine G_seq ?_
 rw [join_crc]
 refine GH_start (Lq := [_]) (isq := [3]) (m := 13) mixedK rfl rfl ?_
 refine GH_take 0 rfl rfl rfl rfl (by kernel_rfl) (by kernel_rfl) (by kernel_rfl) (fun _ _ => (V_fieldAddr (fo := 0) rfl Try.underlying75 rfl infSuperW_73 rfl rfl rfl)) ?_
 refine GH_take 1 rfl rfl rfl rfl (by kernel_rfl) (by kernel_rfl) (by kernel_rfl) (fun _ _ => (V_load1 rfl rfl (mem_at 0 rfl) rfl Try.underlying73 rfl)) ?_
 refine GH_take 2 rfl rfl rfl rfl (by kernel_rfl) (by kernel_rfl) (by kernel_rfl) (fun _ _ => (V_move rfl rfl)) ?_
 refine GH_take 3 rfl rfl rfl rfl (by kernel_rfl) (by kernel_rfl) (by kernel_rfl) (fun _ _ => (V_move rfl rfl)) ?_
 refine GH_take 4 rfl rfl rfl rfl (by kernel_rfl) (by kernel_rfl) (by kernel_rfl) (fun _ _ => (Val.int (e' := 27) (V_slen rfl rfl Try.underlying9 rfl) (data_len27 s))) ?_
 refine GH_take 5 rfl rfl rfl rfl (by kernel_rfl) (by kernel_rfl) (by kernel_rfl) (fun _ _ => (Val.int (e' := 21) (V_sub rfl rfl rfl) (by decide))) ?_
 refine GH_all [6] (by kernel_rfl) (by decide) ?_
 refine (And.intro ?_ trivial)
 · skip
   refine GHop_call (L2 := [_, _, _, _]) rfl rfl rfl rfl rfl rfl Try.call106 (repeat0 21 (by omega) (by omega)) [] [] rfl rfl [3] (by rintro v post ⟨rfl, rfl⟩; exact ⟨_, rfl⟩) ?_
   rintro v post ⟨rfl, rfl⟩
   show GH _ _ _ _ _ _ _ [_, _, _, _] _
   refine GH_take 7 rfl rfl rfl rfl (by kernel_rfl) (by kernel_rfl) (by kernel_rfl) (fun _ _ => (V_sadd rfl rfl rfl (by first | omega | (simp [spCells, pCells]; done) | (simp [spCells, pCells]; omega) | (simp [spCells, pCells] at *; omega)))) ?_
   refine GH_all [8] (by kernel_rfl) (by decide) ?_
   refine (And.intro ?_ trivial)
   · skip
     refine GHop_call (L2 := [_, _, _, _]) rfl rfl rfl rfl rfl rfl Try.call114 (seal_seal s.seq 0 (dataS s) (by omega) (by omega) (by omega)) [] [] rfl rfl [3] (by rintro v post ⟨rfl, rfl⟩; exact ⟨_, rfl⟩) ?_
     rintro v post ⟨rfl, rfl⟩
     show GH _ _ _ _ _ _ _ [_, _, _, _] _
     refine GH_take 9 rfl rfl rfl rfl (by kernel_rfl) (by kernel_rfl) (by kernel_rfl) (fun _ _ => (V_extract rfl rfl rfl)) ?_
     refine GH_take 10 rfl rfl rfl rfl (by kernel_rfl) (by kernel_rfl) (by kernel_rfl) (fun _ _ => (V_extract rfl rfl rfl)) ?_
     refine GH_take 11 rfl rfl rfl rfl (by kernel_rfl) (by kernel_rfl) (by kernel_rfl) (fun _ _ => (V_assign rfl rfl)) ?_
     refine GH_take 12 rfl rfl rfl rfl (by kernel_rfl) (by kernel_rfl) (by kernel_rfl) (fun _ _ => (V_assign rfl rfl)) ?_
     refine GH_done (by kernel_rfl) ?_
     refine G_ret (post := []) Try.func48 rfl (RVs_cons (RV_tmp rfl) (RVs_cons (RV_tmp rfl) RVs_nil)) [] rfl ?_
     dsimp only [packed]
     first
       | (obtain ⟨e1, e2⟩ := encT_no (s := s) (by first | assumption | (simpa using hc1)); rw [e1, e2]; exact ⟨rfl, rfl⟩)
       | (obtain ⟨e1, e2⟩ := encT_yes hmd
          have e3 : sealE s.seq (dataS s) = 0 := encS_E hm0
          rw [e1, e2]
          refine ⟨?_, rfl⟩
          show Value.tuple #[.string (bs (sealL s.seq 0 (dataS s))), .int .i64 ((sealE s.seq (dataS s) : Nat) : Int)] = _
          rw [e3]; rfl)

end
end Go.Proofs.Ytkidmbaakdaflaa
