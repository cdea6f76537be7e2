/- The walks of layer 27: long texts on some blocks of a disk. -/
import Derived.Test.YtbblkgdejgoncaaDoorSnapQ
import Derived.Test.YtbblkgdejgoncaaDoorFrameX
import Derived.Test.YtbblkgdejgoncaaDoorRep
set_option linter.unusedSimpArgs false
set_option linter.unusedVariables false
namespace Go.Proofs.YtbblkgdejgoncaaDoor
open Go Go.RowKit

section
theorem infSnapW_120 : Tryd.prog.info? 120 = some Tryd.t120 := by kernel_rfl


theorem mul48r (i : Nat) (h : i ≤ 1000000) : IntKind.i64.wrap ((i : Int) * 48) = ((i * 48 : Nat) : Int) := by rw [wrap_i64 (by omega)]; omega
theorem mul48s (i : Nat) (h : i ≤ 1000000) : IntKind.i64.wrap (((i : Int) + 1) * 48) = (((i + 1) * 48 : Nat) : Int) := by rw [wrap_i64 (by omega)]; omega
theorem piece_cutS (s : List UInt8) (i : Nat) : ((padS s).take ((i + 1) * 48)).drop (i * 48) = pieceS s i := by
  unfold pieceS
  rw [List.drop_take, show (i + 1) * 48 - i * 48 = 48 by omega, Nat.mul_comm i 48]
theorem pad_app (s : List UInt8) {r : Nat} (h : r = 48 * manyS s.length - s.length) : s ++ List.replicate r 0 = padS s := by subst h; rfl


theorem put_stop {k kk : Dk} {n lb lcap : Nat} {lcs : Array Value} {uw : Sl} {f b : Int} {e i : Nat} {s bl : List UInt8} (h : DkAt k n lb lcs lcap uw) (hln : k.L.length = n) (hreg : regE n f b e = 0) (hm : (manyS s.length : Int) ≤ b) (hwr : WrsAt k kk f (blksS e s) i) (hxb : (blksS e s)[i]? = some bl) (he : ¬ kk.writeE (f + (i : Int)) bl = 0) :
    putK k f b e s = kk.write (f + (i : Int)) bl ∧ putE k f b e s = kk.writeE (f + (i : Int)) bl := by
  obtain ⟨e1, e2⟩ := put_yes (k := k) (s := s) (f := f) (b := b) (e := e) (by rw [hln]; exact hreg) hm
  obtain ⟨e3, e4⟩ := wrs_stop hwr hxb he
  exact ⟨e1.trans e3, e2.trans e4⟩
theorem put_end {k kk : Dk} {n lb lcap : Nat} {lcs : Array Value} {uw : Sl} {f b : Int} {e i : Nat} {s : List UInt8} (h : DkAt k n lb lcs lcap uw) (hln : k.L.length = n) (hreg : regE n f b e = 0) (hm : (manyS s.length : Int) ≤ b) (hwr : WrsAt k kk f (blksS e s) i) (hi : (blksS e s).length ≤ i) :
    putK k f b e s = kk ∧ putE k f b e s = 0 := by
  obtain ⟨e1, e2⟩ := put_yes (k := k) (s := s) (f := f) (b := b) (e := e) (by rw [hln]; exact hreg) hm
  obtain ⟨e3, e4⟩ := wrs_end hwr hi
  exact ⟨e1.trans e3, e2.trans e4⟩

set_option maxRecDepth 100000 in
set_option maxHeartbeats 1000000 in
theorem sn_manyZ (z : Int) (h0 : -9223372036854775808 ≤ z) (h1 : z ≤ 9223372036854775807) :
    Ct Tryd.prog 26 [.int .i64 z] [] [] fun v post => v = .int .i64 ((manyS z.toNat : Nat) : Int) ∧ post = [] := by
 refine ct_of Tryd.func26 rfl rfl (fun w0 => ?_)
 show G _ _ [(0, _)] _ _
 refine G_seq ?_
 refine G_region (l := [0]) rfl ?_
 refine G_val rfl rfl rfl rfl (V_assign rfl rfl) ?_
 refine G_done ?_
 refine G_seq ?_
 refine G_seq ?_
 refine G_region (l := [0, 1]) rfl ?_
 refine G_val rfl rfl rfl rfl (V_move rfl rfl) ?_
 refine G_val rfl rfl rfl rfl (V_lss rfl rfl rfl) ?_
 refine G_done ?_
 refine G_ifD rfl (fun hc1 => ?_) (fun hc1 => ?_)
 · skip
   refine G_seq ?_
   refine G_region (l := [0]) rfl ?_
   refine G_val rfl rfl rfl rfl (V_assign rfl rfl) ?_
   refine G_done ?_
   refine G_ret (post := []) Tryd.func26 rfl (RVs_cons (RV_tmp rfl) RVs_nil) [] rfl ?_
   dsimp only [packed]
   refine ⟨int_eq ?_, rfl⟩; unfold manyS; omega
 refine G_skip ?_
 refine G_seq ?_
 refine G_region (l := [0, 1, 2, 3, 4]) rfl ?_
 refine G_val rfl rfl rfl rfl (V_move rfl rfl) ?_
 first
   | refine G_val rfl rfl rfl rfl ((V_sub rfl rfl rfl).int (wrap_i64 (by omega))) ?_
   | refine G_val rfl rfl rfl rfl (V_sub rfl rfl rfl) ?_
 refine G_val rfl rfl rfl rfl (V_quo rfl rfl rfl (by omega) (by omega) (wrap_i64 (by omega))) ?_
 first
   | refine G_val rfl rfl rfl rfl ((V_add rfl rfl rfl).int (wrap_i64 (by omega))) ?_
   | refine G_val rfl rfl rfl rfl (V_add rfl rfl rfl) ?_
 refine G_val rfl rfl rfl rfl (V_assign rfl rfl) ?_
 refine G_done ?_
 refine G_ret (post := []) Tryd.func26 rfl (RVs_cons (RV_tmp rfl) RVs_nil) [] rfl ?_
 dsimp only [packed]
 refine ⟨int_eq ?_, rfl⟩; unfold manyS; omega


theorem sn_many (n : Nat) (h : n ≤ 9223372036854775807) : Ct Tryd.prog 26 [.int .i64 (n : Int)] [] [] (fun v post => v = .int .i64 ((manyS n : Nat) : Int) ∧ post = []) := sn_manyZ (n : Int) (by omega) (by omega)

set_option maxRecDepth 100000 in
set_option maxHeartbeats 1000000 in
theorem sn_check (d n lb lcap : Nat) (lcs : Array Value) (uw : Sl) (k : Dk) (h : DkAt k n lb lcs lcap uw) (f b : Int) (e : Nat) (hf0 : -9223372036854775808 ≤ f) (hf1 : f ≤ 9223372036854775807) (hb0 : -9223372036854775808 ≤ b) (hb1 : b ≤ 9223372036854775807) (he : e < 4294967296) :
    Ct Tryd.prog 67 [.pointer (some ⟨d, 0, none⟩), .int .i64 f, .int .i64 b, .int .u32 (e : Int)] [(some d, .cells #[.slice (some ⟨lb, 0, none⟩) n lcap, uw.v k.W.length, .int .i64 k.fuse, .bool k.dead] 110 (0, 0))] [] fun v post => v = .int .i64 (regE n f b e) ∧ post = [] := by
 have hq := h.bd
 have hq1 := hq.n1
 have hq2 := hq.n4
 have hq3 := hq.ncs
 have hq4 := hq.ncap
 have hq5 := hq.cap
 have hq6 := hq.w
 have hq7 := hq.wc
 have hln := h.len
 refine ct_of Tryd.func67 rfl rfl (fun w0 => ?_)
 show G _ _ [(0, _), (1, _), (2, _), (3, _)] _ _
 refine G_seq ?_
 refine G_region (l := [0]) rfl ?_
 refine G_val rfl rfl rfl rfl (V_assign rfl rfl) ?_
 refine G_done ?_
 refine G_seq ?_
 refine G_block ?_
 refine G_seq ?_
 refine G_region (l := [0, 1, 2]) rfl ?_
 refine G_val rfl rfl rfl rfl (V_move rfl rfl) ?_
 refine G_val rfl rfl rfl rfl (V_peqlN rfl Tryd.underlying35 rfl rfl) ?_
 refine G_val rfl rfl rfl rfl (V_assign rfl rfl) ?_
 refine G_done ?_
 refine G_else rfl ?_
 refine G_seq ?_
 refine G_region (l := [0, 1, 2, 3, 4, 5, 6, 7, 8, 9, 10, 11, 12, 13, 14, 15, 16, 17, 18, 19, 20, 21, 22, 23, 24]) rfl ?_
 refine G_val rfl rfl rfl rfl (V_move rfl rfl) ?_
 refine G_val rfl rfl rfl rfl (V_lss rfl rfl rfl) ?_
 refine G_val rfl rfl rfl rfl (V_move rfl rfl) ?_
 refine G_splitD 15 rfl (fun hc1 => ?_) (fun hc1 => ?_)
 · skip
   refine G_off rfl rfl rfl rfl ?_
   refine G_off rfl rfl rfl rfl ?_
   refine G_val rfl rfl rfl rfl (V_pickT rfl rfl rfl) ?_
   refine G_val rfl rfl rfl rfl (V_move rfl rfl) ?_
   refine G_off rfl rfl rfl rfl ?_
   refine G_off rfl rfl rfl rfl ?_
   refine G_off rfl rfl rfl rfl ?_
   refine G_off rfl rfl rfl rfl ?_
   refine G_val rfl rfl rfl rfl (V_pickT rfl rfl rfl) ?_
   refine G_val rfl rfl rfl rfl (V_move rfl rfl) ?_
   refine G_off rfl rfl rfl rfl ?_
   refine G_off rfl rfl rfl rfl ?_
   refine G_off rfl rfl rfl rfl ?_
   refine G_off rfl rfl rfl rfl ?_
   refine G_off rfl rfl rfl rfl ?_
   refine G_off rfl rfl rfl rfl ?_
   refine G_val rfl rfl rfl rfl (V_pickT rfl rfl rfl) ?_
   refine G_val rfl rfl rfl rfl (V_move rfl rfl) ?_
   refine G_off rfl rfl rfl rfl ?_
   refine G_off rfl rfl rfl rfl ?_
   refine G_val rfl rfl rfl rfl (V_pickT rfl rfl rfl) ?_
   refine G_val rfl rfl rfl rfl (V_assign rfl rfl) ?_
   refine G_done ?_
   refine G_then rfl ?_
   refine G_seq ?_
   refine G_region (l := [0]) rfl ?_
   refine G_val rfl rfl rfl rfl (V_assign rfl rfl) ?_
   refine G_done ?_
   refine G_ret (post := []) Tryd.func67 rfl (RVs_cons (RV_tmp rfl) RVs_nil) [] rfl ?_
   dsimp only [packed]
   refine ⟨int_eq ?_, rfl⟩; unfold regE; first | rw [if_pos (by omega)] | rw [if_neg (by omega)]
 refine G_val rfl rfl rfl rfl (V_move rfl rfl) ?_
 refine G_val rfl rfl rfl rfl (V_lss rfl rfl rfl) ?_
 refine G_val rfl rfl rfl rfl (V_pickF rfl rfl rfl) ?_
 refine G_val rfl rfl rfl rfl (V_move rfl rfl) ?_
 refine G_splitD 19 rfl (fun hc2 => ?_) (fun hc2 => ?_)
 · skip
   refine G_off rfl rfl rfl rfl ?_
   refine G_off rfl rfl rfl rfl ?_
   refine G_off rfl rfl rfl rfl ?_
   refine G_off rfl rfl rfl rfl ?_
   refine G_val rfl rfl rfl rfl (V_pickT rfl rfl rfl) ?_
   refine G_val rfl rfl rfl rfl (V_move rfl rfl) ?_
   refine G_off rfl rfl rfl rfl ?_
   refine G_off rfl rfl rfl rfl ?_
   refine G_off rfl rfl rfl rfl ?_
   refine G_off rfl rfl rfl rfl ?_
   refine G_off rfl rfl rfl rfl ?_
   refine G_off rfl rfl rfl rfl ?_
   refine G_val rfl rfl rfl rfl (V_pickT rfl rfl rfl) ?_
   refine G_val rfl rfl rfl rfl (V_move rfl rfl) ?_
   refine G_off rfl rfl rfl rfl ?_
   refine G_off rfl rfl rfl rfl ?_
   refine G_val rfl rfl rfl rfl (V_pickT rfl rfl rfl) ?_
   refine G_val rfl rfl rfl rfl (V_assign rfl rfl) ?_
   refine G_done ?_
   refine G_then rfl ?_
   refine G_seq ?_
   refine G_region (l := [0]) rfl ?_
   refine G_val rfl rfl rfl rfl (V_assign rfl rfl) ?_
   refine G_done ?_
   refine G_ret (post := []) Tryd.func67 rfl (RVs_cons (RV_tmp rfl) RVs_nil) [] rfl ?_
   dsimp only [packed]
   refine ⟨int_eq ?_, rfl⟩; unfold regE; first | rw [if_pos (by omega)] | rw [if_neg (by omega)]
 refine G_val rfl rfl rfl rfl (V_move rfl rfl) ?_
 refine G_val rfl rfl rfl rfl (V_move rfl rfl) ?_
 refine G_call (L2 := []) rfl rfl rfl rfl rfl rfl Tryd.call98 (dk_size _ _ _ _ _ _ _ h) [] [0] rfl rfl ?_
 rintro v post ⟨rfl, rfl⟩
 refine G_val rfl rfl rfl rfl (V_gtr rfl rfl rfl) ?_
 refine G_val rfl rfl rfl rfl (V_pickF rfl rfl rfl) ?_
 refine G_val rfl rfl rfl rfl (V_move rfl rfl) ?_
 refine G_splitD 25 rfl (fun hc3 => ?_) (fun hc3 => ?_)
 · skip
   refine G_off rfl rfl rfl rfl ?_
   refine G_off rfl rfl rfl rfl ?_
   refine G_off rfl rfl rfl rfl ?_
   refine G_off rfl rfl rfl rfl ?_
   refine G_off rfl rfl rfl rfl ?_
   refine G_off rfl rfl rfl rfl ?_
   refine G_val rfl rfl rfl rfl (V_pickT rfl rfl rfl) ?_
   refine G_val rfl rfl rfl rfl (V_move rfl rfl) ?_
   refine G_off rfl rfl rfl rfl ?_
   refine G_off rfl rfl rfl rfl ?_
   refine G_val rfl rfl rfl rfl (V_pickT rfl rfl rfl) ?_
   refine G_val rfl rfl rfl rfl (V_assign rfl rfl) ?_
   refine G_done ?_
   refine G_then rfl ?_
   refine G_seq ?_
   refine G_region (l := [0]) rfl ?_
   refine G_val rfl rfl rfl rfl (V_assign rfl rfl) ?_
   refine G_done ?_
   refine G_ret (post := []) Tryd.func67 rfl (RVs_cons (RV_tmp rfl) RVs_nil) [] rfl ?_
   dsimp only [packed]
   refine ⟨int_eq ?_, rfl⟩; unfold regE; first | rw [if_pos (by omega)] | rw [if_neg (by omega)]
 refine G_val rfl rfl rfl rfl (V_move rfl rfl) ?_
 refine G_val rfl rfl rfl rfl (V_move rfl rfl) ?_
 refine G_call (L2 := []) rfl rfl rfl rfl rfl rfl Tryd.call98 (dk_size _ _ _ _ _ _ _ h) [] [0] rfl rfl ?_
 rintro v post ⟨rfl, rfl⟩
 refine G_val rfl rfl rfl rfl (V_move rfl rfl) ?_
 first
   | refine G_val rfl rfl rfl rfl ((V_sub rfl rfl rfl).int (wrap_i64 (by omega))) ?_
   | refine G_val rfl rfl rfl rfl (V_sub rfl rfl rfl) ?_
 refine G_val rfl rfl rfl rfl (V_gtr rfl rfl rfl) ?_
 refine G_val rfl rfl rfl rfl (V_pickF rfl rfl rfl) ?_
 refine G_val rfl rfl rfl rfl (V_move rfl rfl) ?_
 refine G_splitD 33 rfl (fun hc4 => ?_) (fun hc4 => ?_)
 · skip
   refine G_off rfl rfl rfl rfl ?_
   refine G_off rfl rfl rfl rfl ?_
   refine G_val rfl rfl rfl rfl (V_pickT rfl rfl rfl) ?_
   refine G_val rfl rfl rfl rfl (V_assign rfl rfl) ?_
   refine G_done ?_
   refine G_then rfl ?_
   refine G_seq ?_
   refine G_region (l := [0]) rfl ?_
   refine G_val rfl rfl rfl rfl (V_assign rfl rfl) ?_
   refine G_done ?_
   refine G_ret (post := []) Tryd.func67 rfl (RVs_cons (RV_tmp rfl) RVs_nil) [] rfl ?_
   dsimp only [packed]
   refine ⟨int_eq ?_, rfl⟩; unfold regE; first | rw [if_pos (by omega)] | rw [if_neg (by omega)]
 refine G_val rfl rfl rfl rfl (V_move rfl rfl) ?_
 refine G_val rfl rfl rfl rfl (V_eql rfl rfl rfl) ?_
 refine G_val rfl rfl rfl rfl (V_pickF rfl rfl rfl) ?_
 refine G_val rfl rfl rfl rfl (V_assign rfl rfl) ?_
 refine G_done ?_
 refine G_ifD rfl (fun hc5 => ?_) (fun hc5 => ?_)
 · skip
   refine G_seq ?_
   refine G_region (l := [0]) rfl ?_
   refine G_val rfl rfl rfl rfl (V_assign rfl rfl) ?_
   refine G_done ?_
   refine G_ret (post := []) Tryd.func67 rfl (RVs_cons (RV_tmp rfl) RVs_nil) [] rfl ?_
   dsimp only [packed]
   refine ⟨int_eq ?_, rfl⟩; unfold regE; first | rw [if_pos (by omega)] | rw [if_neg (by omega)]
 refine G_skip ?_
 refine G_inBlock ?_
 refine G_seq ?_
 refine G_region (l := [0]) rfl ?_
 refine G_val rfl rfl rfl rfl (V_assign rfl rfl) ?_
 refine G_done ?_
 refine G_ret (post := []) Tryd.func67 rfl (RVs_cons (RV_tmp rfl) RVs_nil) [] rfl ?_
 dsimp only [packed]
 refine ⟨int_eq ?_, rfl⟩; unfold regE; first | rw [if_pos (by omega)] | rw [if_neg (by omega)]

set_option maxRecDepth 100000 in
set_option maxHeartbeats 1000000 in
theorem sn_check_nil (x y z : Value) :
    Ct Tryd.prog 67 [.pointer none, x, y, z] [] [] fun v post => v = .int .i64 19 ∧ post = [] := by
 refine ct_of Tryd.func67 rfl rfl (fun w0 => ?_)
 show G _ _ [(0, _), (1, _), (2, _), (3, _)] _ _
 refine G_seq ?_
 refine G_region (l := [0]) rfl ?_
 refine G_val rfl rfl rfl rfl (V_assign rfl rfl) ?_
 refine G_done ?_
 refine G_seq ?_
 refine G_block ?_
 refine G_seq ?_
 refine G_region (l := [0, 1, 2]) rfl ?_
 refine G_val rfl rfl rfl rfl (V_move rfl rfl) ?_
 refine G_val rfl rfl rfl rfl (V_peqlN rfl Tryd.underlying35 rfl rfl) ?_
 refine G_val rfl rfl rfl rfl (V_assign rfl rfl) ?_
 refine G_done ?_
 refine G_then rfl ?_
 refine G_seq ?_
 refine G_region (l := [0]) rfl ?_
 refine G_val rfl rfl rfl rfl (V_assign rfl rfl) ?_
 refine G_done ?_
 refine G_ret (post := []) Tryd.func67 rfl (RVs_cons (RV_tmp rfl) RVs_nil) [] rfl ?_
 dsimp only [packed]
 exact ⟨rfl, rfl⟩

set_option maxRecDepth 100000 in
set_option maxHeartbeats 1000000 in
theorem repeat_zero  :
    Ct Tryd.prog 61 [.string (bs [0]), .int .i64 0] [] [] fun v post => v = .string (bs []) ∧ post = [] := by
 refine ct_of Tryd.func61 rfl rfl (fun w0 => ?_)
 show G _ _ [(0, _), (1, _)] _ _
 refine G_seq ?_
 refine G_region (l := [0]) rfl ?_
 refine G_val rfl rfl rfl rfl (V_assign rfl rfl) ?_
 refine G_done ?_
 refine G_seq ?_
 refine G_seq ?_
 refine G_region (l := [0]) rfl ?_
 refine G_val rfl rfl rfl rfl (V_move rfl rfl) ?_
 refine G_done ?_
 refine G_block ?_
 refine G_seq ?_
 refine G_region (l := [0, 1]) rfl ?_
 refine G_val rfl rfl rfl rfl (V_eql rfl rfl rfl) ?_
 refine G_val rfl rfl rfl rfl (V_assign rfl rfl) ?_
 refine G_done ?_
 refine G_ifD rfl (fun hc1 => ?_) (fun hc1 => ?_)
 rotate_left
 · (first | (exact absurd rfl hc1) | (exact absurd hc1 (by decide)) | (exact absurd (by decide) hc1) | (exfalso; omega))
 refine G_seq ?_
 refine G_region (l := [0]) rfl ?_
 refine G_val rfl rfl rfl rfl (V_assign rfl rfl) ?_
 refine G_done ?_
 refine G_ret (post := []) Tryd.func61 rfl (RVs_cons (RV_tmp rfl) RVs_nil) [] rfl ?_
 dsimp only [packed]
 exact ⟨rfl, rfl⟩

set_option maxRecDepth 100000 in
set_option maxHeartbeats 1000000 in
theorem repeat_one  :
    Ct Tryd.prog 61 [.string (bs [0]), .int .i64 1] [] [] fun v post => v = .string (bs [0]) ∧ post = [] := by
 refine ct_of Tryd.func61 rfl rfl (fun w0 => ?_)
 show G _ _ [(0, _), (1, _)] _ _
 refine G_seq ?_
 refine G_region (l := [0]) rfl ?_
 refine G_val rfl rfl rfl rfl (V_assign rfl rfl) ?_
 refine G_done ?_
 refine G_seq ?_
 refine G_seq ?_
 refine G_region (l := [0]) rfl ?_
 refine G_val rfl rfl rfl rfl (V_move rfl rfl) ?_
 refine G_done ?_
 refine G_block ?_
 refine G_seq ?_
 refine G_region (l := [0, 1]) rfl ?_
 refine G_val rfl rfl rfl rfl (V_eql rfl rfl rfl) ?_
 refine G_val rfl rfl rfl rfl (V_assign rfl rfl) ?_
 refine G_done ?_
 refine G_ifD rfl (fun hc1 => ?_) (fun hc1 => ?_)
 · (first | (exact absurd rfl hc1) | (exact absurd hc1 (by decide)) | (exact absurd (by decide) hc1) | (exfalso; omega))
 refine G_seq ?_
 refine G_region (l := [0, 1]) rfl ?_
 refine G_val rfl rfl rfl rfl (V_eql rfl rfl rfl) ?_
 refine G_val rfl rfl rfl rfl (V_assign rfl rfl) ?_
 refine G_done ?_
 refine G_ifD rfl (fun hc2 => ?_) (fun hc2 => ?_)
 rotate_left
 · (first | (exact absurd rfl hc2) | (exact absurd hc2 (by decide)) | (exact absurd (by decide) hc2) | (exfalso; omega))
 refine G_seq ?_
 refine G_region (l := [0, 1]) rfl ?_
 refine G_val rfl rfl rfl rfl (V_move rfl rfl) ?_
 refine G_val rfl rfl rfl rfl (V_assign rfl rfl) ?_
 refine G_done ?_
 refine G_ret (post := []) Tryd.func61 rfl (RVs_cons (RV_tmp rfl) RVs_nil) [] rfl ?_
 dsimp only [packed]
 exact ⟨rfl, rfl⟩


theorem repeat_any (z : Int) (m : Nat) (hz : z = (m : Int)) (h8 : m ≤ 8192) : Ct Tryd.prog 61 [.string (bs [0]), .int .i64 z] [] [] (fun v post => v = .string (bs (List.replicate m 0)) ∧ post = []) := by
  subst hz
  match m, h8 with
  | 0, _ => exact repeat_zero
  | 1, _ => exact repeat_one
  | n + 2, h8 => exact repeat0 (n + 2) (by omega) h8

set_option maxRecDepth 100000 in
set_option maxHeartbeats 1000000 in
theorem sn_put (d n lb lcap : Nat) (lcs : Array Value) (uw : Sl) (k : Dk) (h : DkAt k n lb lcs lcap uw) (f b : Int) (e : Nat) (hf0 : -9223372036854775808 ≤ f) (hf1 : f ≤ 9223372036854775807) (hb0 : -9223372036854775808 ≤ b) (hb1 : b ≤ 9223372036854775807) (he : e < 4294967296) (s : List UInt8) (hW : k.W.length ≤ 100000) (hsl : s.length ≤ 1000000) :
    Ct Tryd.prog 23 [.pointer (some ⟨d, 0, none⟩), .int .i64 f, .int .i64 b, .int .u32 (e : Int), .string (bs s)] [] [(some d, .cells #[.slice (some ⟨lb, 0, none⟩) n lcap, uw.v k.W.length, .int .i64 k.fuse, .bool k.dead] 110 (0, 0)), (some lb, .cells lcs 9 (0, 0)), (uw.ob, .cells uw.cs 116 uw.fz)] fun v post => v = .int .i64 (putE k f b e s) ∧ ∃ lcs1 uw1, DkAt (putK k f b e s) n lb lcs1 lcap uw1 ∧ post = [(some d, .cells #[.slice (some ⟨lb, 0, none⟩) n lcap, uw1.v (putK k f b e s).W.length, .int .i64 (putK k f b e s).fuse, .bool (putK k f b e s).dead] 110 (0, 0)), (some lb, .cells lcs1 9 (0, 0)), (uw1.ob, .cells uw1.cs 116 uw1.fz)] := by
 have hq := h.bd
 have hq1 := hq.n1
 have hq2 := hq.n4
 have hq3 := hq.ncs
 have hq4 := hq.ncap
 have hq5 := hq.cap
 have hq6 := hq.w
 have hq7 := hq.wc
 have hln := h.len
 have hroom := manyS_room s.length
 have hpl := padS_len s
 have hbl := blksS_len e s
 refine ct_of Tryd.func23 rfl rfl (fun w0 => ?_)
 show G _ _ [(0, _), (1, _), (2, _), (3, _), (4, _)] _ _
 refine G_seq ?_
 refine G_region (l := [0]) rfl ?_
 refine G_val rfl rfl rfl rfl (V_assign rfl rfl) ?_
 refine G_done ?_
 refine G_seq ?_
 refine G_seq ?_
 refine G_region (l := [0, 1, 2, 3, 4, 5]) rfl ?_
 refine G_val rfl rfl rfl rfl (V_move rfl rfl) ?_
 refine G_val rfl rfl rfl rfl (V_move rfl rfl) ?_
 refine G_val rfl rfl rfl rfl (V_move rfl rfl) ?_
 refine G_val rfl rfl rfl rfl (V_move rfl rfl) ?_
 refine G_call (L2 := [_, _, _]) rfl rfl rfl rfl rfl rfl Tryd.call67 (sn_check d n lb lcap lcs uw k h f b e hf0 hf1 hb0 hb1 he) [] [0] rfl rfl ?_
 rintro v post ⟨rfl, rfl⟩
 show G _ _ _ [_, _, _] _
 refine G_val rfl rfl rfl rfl (V_assign rfl rfl) ?_
 refine G_done ?_
 refine G_seq ?_
 refine G_region (l := [0, 1]) rfl ?_
 refine G_val rfl rfl rfl rfl (V_move rfl rfl) ?_
 refine G_val rfl rfl rfl rfl (V_neq rfl rfl rfl) ?_
 refine G_done ?_
 refine G_ifD rfl (fun hc1 => ?_) (fun hc1 => ?_)
 · skip
   refine G_seq ?_
   refine G_region (l := [0, 1]) rfl ?_
   refine G_val rfl rfl rfl rfl (V_move rfl rfl) ?_
   refine G_val rfl rfl rfl rfl (V_assign rfl rfl) ?_
   refine G_done ?_
   refine G_ret (post := [_, _, _]) Tryd.func23 rfl (RVs_cons (RV_tmp rfl) RVs_nil) [0, 0, 0] rfl ?_
   dsimp only [packed]
   first
     | (suffices hz : ¬ regE n f b e = 0 by (obtain ⟨e1, e2⟩ := put_no (k := k) (s := s) (f := f) (b := b) (e := e) (by rw [hln]; exact hz); rw [e1, e2]; exact ⟨by rw [regE_one hz], lcs, uw, h, rfl⟩)
        assumption)
     | (suffices hz : regE n f b e = 0 ∧ b < (manyS s.length : Int) by (obtain ⟨e1, e2⟩ := put_full (k := k) (s := s) (f := f) (b := b) (e := e) (by rw [hln]; exact hz.1) hz.2; rw [e1, e2]; exact ⟨rfl, lcs, uw, h, rfl⟩)
        exact ⟨by assumption, by omega⟩)
     | (suffices hz : ¬ kk.writeE (f + (i : Int)) (blkS e s i) = 0 by (obtain ⟨e1, e2⟩ := put_stop h hln hreg (by omega) hwr hxb hz; rw [e1, e2]; exact ⟨rfl, lcs1, uw1, h1, rfl⟩)
        assumption)
     | (suffices hz : manyS s.length ≤ i by (obtain ⟨e1, e2⟩ := put_end h hln hreg (by omega) hwr (by omega); rw [e1, e2]; exact ⟨rfl, cs, u, hkk, rfl⟩)
        omega)
 refine G_skip ?_
 refine G_seq ?_
 have hreg : regE n f b e = 0 := by omega
 have hreg1 := hreg
 rw [regE_ok] at hreg1
 obtain ⟨hr1, hr2, hr3, hr4⟩ := hreg1
 refine G_region (l := [0, 1, 2, 3]) rfl ?_
 refine G_val rfl rfl rfl rfl (V_move rfl rfl) ?_
 refine G_val rfl rfl rfl rfl (V_slen rfl rfl Tryd.underlying9 rfl) ?_
 refine G_call (L2 := [_, _, _]) rfl rfl rfl rfl rfl rfl Tryd.call26 (sn_many _ (by first | omega | (simp; done) | (simp; omega) | (simp at *; omega))) [] [] rfl rfl ?_
 rintro v post ⟨rfl, rfl⟩
 show G _ _ _ [_, _, _] _
 refine G_val rfl rfl rfl rfl (V_assign rfl rfl) ?_
 refine G_done ?_
 refine G_seq ?_
 refine G_seq ?_
 refine G_region (l := [0, 1, 2]) rfl ?_
 refine G_val rfl rfl rfl rfl (V_move rfl rfl) ?_
 refine G_val rfl rfl rfl rfl (V_move rfl rfl) ?_
 refine G_val rfl rfl rfl rfl (V_gtr rfl rfl rfl) ?_
 refine G_done ?_
 refine G_ifD rfl (fun hc2 => ?_) (fun hc2 => ?_)
 · skip
   refine G_seq ?_
   refine G_region (l := [0]) rfl ?_
   refine G_val rfl rfl rfl rfl (V_assign rfl rfl) ?_
   refine G_done ?_
   refine G_ret (post := [_, _, _]) Tryd.func23 rfl (RVs_cons (RV_tmp rfl) RVs_nil) [0, 0, 0] rfl ?_
   dsimp only [packed]
   first
     | (suffices hz : ¬ regE n f b e = 0 by (obtain ⟨e1, e2⟩ := put_no (k := k) (s := s) (f := f) (b := b) (e := e) (by rw [hln]; exact hz); rw [e1, e2]; exact ⟨by rw [regE_one hz], lcs, uw, h, rfl⟩)
        assumption)
     | (suffices hz : regE n f b e = 0 ∧ b < (manyS s.length : Int) by (obtain ⟨e1, e2⟩ := put_full (k := k) (s := s) (f := f) (b := b) (e := e) (by rw [hln]; exact hz.1) hz.2; rw [e1, e2]; exact ⟨rfl, lcs, uw, h, rfl⟩)
        exact ⟨by assumption, by omega⟩)
     | (suffices hz : ¬ kk.writeE (f + (i : Int)) (blkS e s i) = 0 by (obtain ⟨e1, e2⟩ := put_stop h hln hreg (by omega) hwr hxb hz; rw [e1, e2]; exact ⟨rfl, lcs1, uw1, h1, rfl⟩)
        assumption)
     | (suffices hz : manyS s.length ≤ i by (obtain ⟨e1, e2⟩ := put_end h hln hreg (by omega) hwr (by omega); rw [e1, e2]; exact ⟨rfl, cs, u, hkk, rfl⟩)
        omega)
 refine G_skip ?_
 refine G_seq ?_
 refine G_region (l := [0, 1, 2, 3, 4, 5, 6, 7, 8]) rfl ?_
 refine G_val rfl rfl rfl rfl (V_move rfl rfl) ?_
 refine G_val rfl rfl rfl rfl (V_move rfl rfl) ?_
 first
   | refine G_val rfl rfl rfl rfl ((V_mul rfl rfl rfl).int (wrap_i64 (by omega))) ?_
   | refine G_val rfl rfl rfl rfl (V_mul rfl rfl rfl) ?_
 refine G_val rfl rfl rfl rfl (V_move rfl rfl) ?_
 refine G_val rfl rfl rfl rfl (V_slen rfl rfl Tryd.underlying9 rfl) ?_
 first
   | refine G_val rfl rfl rfl rfl ((V_sub rfl rfl rfl).int (wrap_i64 (by omega))) ?_
   | refine G_val rfl rfl rfl rfl (V_sub rfl rfl rfl) ?_
 refine G_call (L2 := [_, _, _]) rfl rfl rfl rfl rfl rfl Tryd.call61 (repeat_any _ (48 * manyS s.length - s.length) (by omega) (by omega)) [] [] rfl rfl ?_
 rintro v post ⟨rfl, rfl⟩
 show G _ _ _ [_, _, _] _
 refine G_val rfl rfl rfl rfl (V_sadd rfl rfl rfl (by first | omega | (simp [wCells, kCells, wCells, kCells, wCells, kCells, wCells, kCells]; done) | (simp [wCells, kCells, wCells, kCells, wCells, kCells, wCells, kCells]; omega) | (simp [wCells, kCells, wCells, kCells, wCells, kCells, wCells, kCells] at *; omega))) ?_
 refine G_val rfl rfl rfl rfl (V_assign rfl rfl) ?_
 refine G_done ?_
 refine G_seq ?_
 refine G_seq ?_
 rw [pad_app s rfl]
 refine G_region (l := [0, 1]) rfl ?_
 refine G_val rfl rfl rfl rfl (V_move rfl rfl) ?_
 refine G_val rfl rfl rfl rfl (V_move rfl rfl) ?_
 refine G_done ?_
 refine G_block ?_
 refine G_sub ?he9 [0, 0, 0] ?hl9 (G_loop (X := Nat × Dk × Array Value × Sl) (fun x => match x with | ⟨i, kk, cs, u⟩ => i ≤ manyS s.length ∧ DkAt kk n lb cs lcap u ∧ WrsAt k kk f (blksS e s) i ∧ kk.W.length ≤ k.W.length + i) (fun x => match x with | ⟨i, kk, cs, u⟩ => manyS s.length - i) (fun x => match x with | ⟨i, kk, cs, u⟩ => [(0, .pointer (some ⟨d, 0, none⟩)), (1, .int .i64 f), (3, .int .u32 (e : Int)), (4, .string (bs (padS s))), (39, .int .i64 (manyS s.length : Int)), (40, .int .i64 (i : Int))]) (fun x => match x with | ⟨i, kk, cs, u⟩ => [(some d, .cells #[.slice (some ⟨lb, 0, none⟩) n lcap, u.v kk.W.length, .int .i64 kk.fuse, .bool kk.dead] 110 (0, 0)), (some lb, .cells cs 9 (0, 0)), (u.ob, .cells u.cs 116 u.fz)]) ?round9 (0, k, lcs, uw) ?h09)
 case he9 => exact (And.intro rfl (And.intro rfl (And.intro rfl (And.intro rfl (And.intro rfl (And.intro rfl trivial))))))
 case hl9 => exact ⟨_, rfl⟩
 case h09 => exact ⟨Nat.zero_le _, h, wrs_start k f _, Nat.le_refl _⟩
 case round9 =>
  intro x hJ ih
  try dsimp only at hJ ih
  obtain ⟨i, kk, cs, u⟩ := x
  try dsimp only at hJ ih
  obtain ⟨hi, hkk, hwr, hww⟩ := hJ
  show G _ _ [(0, .pointer (some ⟨d, 0, none⟩)), (1, .int .i64 f), (3, .int .u32 (e : Int)), (4, .string (bs (padS s))), (39, .int .i64 (manyS s.length : Int)), (40, .int .i64 (i : Int))] [(some d, .cells #[.slice (some ⟨lb, 0, none⟩) n lcap, u.v kk.W.length, .int .i64 kk.fuse, .bool kk.dead] 110 (0, 0)), (some lb, .cells cs 9 (0, 0)), (u.ob, .cells u.cs 116 u.fz)] _
  refine G_seq ?_
  refine G_region (l := [0]) rfl ?_
  refine G_val rfl rfl rfl rfl (V_lss rfl rfl rfl) ?_
  refine G_done ?_
  refine G_seq ?_
  refine G_ifD rfl (fun hc3 => ?_) (fun hc3 => ?_)
  · skip
    refine G_skip ?_
    refine G_seq ?_
    refine G_block ?_
    refine G_seq ?_
    refine G_region (l := [0, 1]) rfl ?_
    refine G_val rfl rfl rfl rfl (V_move rfl rfl) ?_
    refine G_val rfl rfl rfl rfl (V_assign rfl rfl) ?_
    refine G_done ?_
    refine G_seq ?_
    have hxb := blksS_at e s (show i < manyS s.length by omega)
    have hx64 := blkS_len s hr4 (show i < manyS s.length by omega)
    have hxE := blkS_E s hr4 (show i < manyS s.length by omega)
    have hx48 := pieceS_len s (show i < manyS s.length by omega)
    refine G_region (l := [0, 1, 2, 3, 4, 5, 6, 7, 8, 9, 10, 11, 12, 13, 14, 15]) rfl ?_
    refine G_val rfl rfl rfl rfl (V_move rfl rfl) ?_
    refine G_val rfl rfl rfl rfl (V_move rfl rfl) ?_
    first
      | refine G_val rfl rfl rfl rfl ((V_conv rfl rfl Tryd.underlying3 Tryd.underlying22).int (wrap_u32 (by omega))) ?_
      | refine G_val rfl rfl rfl rfl (V_conv rfl rfl Tryd.underlying3 Tryd.underlying22) ?_
    refine G_val rfl rfl rfl rfl (V_move rfl rfl) ?_
    refine G_val rfl rfl rfl rfl (V_move rfl rfl) ?_
    refine G_val rfl rfl rfl rfl (Val.int (e' := ((i * 48 : Nat) : Int)) (V_mul rfl rfl rfl) (mul48r i (by omega))) ?_
    refine G_val rfl rfl rfl rfl (V_move rfl rfl) ?_
    first
      | refine G_val rfl rfl rfl rfl ((V_add rfl rfl rfl).int (wrap_i64 (by omega))) ?_
      | refine G_val rfl rfl rfl rfl (V_add rfl rfl rfl) ?_
    refine G_val rfl rfl rfl rfl (Val.int (e' := (((i + 1) * 48 : Nat) : Int)) (V_mul rfl rfl rfl) (mul48s i (by omega))) ?_
    refine G_val rfl rfl rfl rfl (V_ssliceN (lo := i * 48) (hi := (i + 1) * 48) rfl Tryd.underlying9 rfl rfl rfl rfl rfl (by omega) (by omega)) ?_
    rw [piece_cutS]
    refine G_call (L2 := [_, _, _]) rfl rfl rfl rfl rfl rfl Tryd.call72 ((seal_seal e i (pieceS s i) he (by omega) (by omega)).weaken (fun v post h => by rw [hxE] at h; exact h)) [] [] rfl rfl ?_
    rintro v post ⟨rfl, rfl⟩
    show G _ _ _ [_, _, _] _
    refine G_val rfl rfl rfl rfl (V_move rfl rfl) ?_
    refine G_val rfl rfl rfl rfl (V_extract rfl rfl rfl) ?_
    refine G_val rfl rfl rfl rfl (V_extract rfl rfl rfl) ?_
    refine G_val rfl rfl rfl rfl (V_assign rfl rfl) ?_
    refine G_val rfl rfl rfl rfl (V_assign rfl rfl) ?_
    refine G_done ?_
    refine G_seq ?_
    refine G_seq ?_
    rw [show sealL e i (pieceS s i) = blkS e s i from rfl]
    refine G_region (l := [0, 1]) rfl ?_
    refine G_val rfl rfl rfl rfl (V_move rfl rfl) ?_
    refine G_val rfl rfl rfl rfl (V_neq rfl rfl rfl) ?_
    refine G_done ?_
    refine G_ifD rfl (fun hc4 => ?_) (fun hc4 => ?_)
    · (first | (exact absurd rfl hc4) | (exact absurd hc4 (by decide)) | (exact absurd (by decide) hc4) | (exfalso; omega))
    refine G_skip ?_
    refine G_seq ?_
    refine G_region (l := [0, 1, 2, 3, 4, 5, 6]) rfl ?_
    refine G_val rfl rfl rfl rfl (V_move rfl rfl) ?_
    refine G_val rfl rfl rfl rfl (V_move rfl rfl) ?_
    refine G_val rfl rfl rfl rfl (V_move rfl rfl) ?_
    first
      | refine G_val rfl rfl rfl rfl ((V_add rfl rfl rfl).int (wrap_i64 (by omega))) ?_
      | refine G_val rfl rfl rfl rfl (V_add rfl rfl rfl) ?_
    refine G_val rfl rfl rfl rfl (V_move rfl rfl) ?_
    refine G_call (L2 := []) rfl rfl rfl rfl rfl rfl Tryd.call20 (dk_write d n lb lcap cs u kk hkk (f + (i : Int)) (blkS e s i) (by omega)) [0, 0, 0] [] rfl rfl ?_
    rintro v post ⟨rfl, lcs1, uw1, h1, rfl⟩
    show G _ _ _ [_, _, _] _
    refine G_val rfl rfl rfl rfl (V_assign rfl rfl) ?_
    refine G_done ?_
    refine G_seq ?_
    refine G_region (l := [0, 1]) rfl ?_
    refine G_val rfl rfl rfl rfl (V_move rfl rfl) ?_
    refine G_val rfl rfl rfl rfl (V_neq rfl rfl rfl) ?_
    refine G_done ?_
    refine G_ifD rfl (fun hc5 => ?_) (fun hc5 => ?_)
    · skip
      refine G_seq ?_
      refine G_region (l := [0, 1]) rfl ?_
      refine G_val rfl rfl rfl rfl (V_move rfl rfl) ?_
      refine G_val rfl rfl rfl rfl (V_assign rfl rfl) ?_
      refine G_done ?_
      refine G_ret (post := [_, _, _]) Tryd.func23 rfl (RVs_cons (RV_tmp rfl) RVs_nil) [0, 0, 0] rfl ?_
      dsimp only [packed]
      first
        | (suffices hz : ¬ regE n f b e = 0 by (obtain ⟨e1, e2⟩ := put_no (k := k) (s := s) (f := f) (b := b) (e := e) (by rw [hln]; exact hz); rw [e1, e2]; exact ⟨by rw [regE_one hz], lcs, uw, h, rfl⟩)
           assumption)
        | (suffices hz : regE n f b e = 0 ∧ b < (manyS s.length : Int) by (obtain ⟨e1, e2⟩ := put_full (k := k) (s := s) (f := f) (b := b) (e := e) (by rw [hln]; exact hz.1) hz.2; rw [e1, e2]; exact ⟨rfl, lcs, uw, h, rfl⟩)
           exact ⟨by assumption, by omega⟩)
        | (suffices hz : ¬ kk.writeE (f + (i : Int)) (blkS e s i) = 0 by (obtain ⟨e1, e2⟩ := put_stop h hln hreg (by omega) hwr hxb hz; rw [e1, e2]; exact ⟨rfl, lcs1, uw1, h1, rfl⟩)
           assumption)
        | (suffices hz : manyS s.length ≤ i by (obtain ⟨e1, e2⟩ := put_end h hln hreg (by omega) hwr (by omega); rw [e1, e2]; exact ⟨rfl, cs, u, hkk, rfl⟩)
           omega)
    refine G_skip ?_
    refine G_inBlock ?_
    refine G_region (l := [0, 1]) rfl ?_
    first
      | refine G_val rfl rfl rfl rfl ((V_add rfl rfl rfl).int (wrap_i64 (by omega))) ?_
      | refine G_val rfl rfl rfl rfl (V_add rfl rfl rfl) ?_
    refine G_val rfl rfl rfl rfl (V_move rfl rfl) ?_
    refine G_done ?_
    refine G_sub ?_ [0, 0, 0] ?_ (ih (i + 1, kk.write (f + (i : Int)) (blkS e s i), lcs1, uw1) ?_ ?_)
    · (refine (And.intro ?_ (And.intro ?_ (And.intro ?_ (And.intro ?_ (And.intro ?_ (And.intro ?_ trivial)))))) <;> first | rfl | exact slot_int (by omega) | exact slot_int (by simp))
    · exact ⟨_, rfl⟩
    · exact ⟨by omega, h1, wrs_next hwr hxb (by omega), by show (kk.write (f + (i : Int)) (blkS e s i)).W.length ≤ k.W.length + (i + 1); have := write_W kk (f + (i : Int)) (blkS e s i); omega⟩
    · (first | omega | (dsimp only; omega))
  refine G_exit rfl ?_
  refine G_seq ?_
  refine G_region (l := [0]) rfl ?_
  refine G_val rfl rfl rfl rfl (V_assign rfl rfl) ?_
  refine G_done ?_
  refine G_ret (post := [_, _, _]) Tryd.func23 rfl (RVs_cons (RV_tmp rfl) RVs_nil) [0, 0, 0] rfl ?_
  dsimp only [packed]
  first
    | (suffices hz : ¬ regE n f b e = 0 by (obtain ⟨e1, e2⟩ := put_no (k := k) (s := s) (f := f) (b := b) (e := e) (by rw [hln]; exact hz); rw [e1, e2]; exact ⟨by rw [regE_one hz], lcs, uw, h, rfl⟩)
       assumption)
    | (suffices hz : regE n f b e = 0 ∧ b < (manyS s.length : Int) by (obtain ⟨e1, e2⟩ := put_full (k := k) (s := s) (f := f) (b := b) (e := e) (by rw [hln]; exact hz.1) hz.2; rw [e1, e2]; exact ⟨rfl, lcs, uw, h, rfl⟩)
       exact ⟨by assumption, by omega⟩)
    | (suffices hz : ¬ kk.writeE (f + (i : Int)) (blkS e s i) = 0 by (obtain ⟨e1, e2⟩ := put_stop h hln hreg (by omega) hwr hxb hz; rw [e1, e2]; exact ⟨rfl, lcs1, uw1, h1, rfl⟩)
       assumption)
    | (suffices hz : manyS s.length ≤ i by (obtain ⟨e1, e2⟩ := put_end h hln hreg (by omega) hwr (by omega); rw [e1, e2]; exact ⟨rfl, cs, u, hkk, rfl⟩)
       omega)

set_option maxRecDepth 100000 in
set_option maxHeartbeats 1000000 in
theorem sn_put_nil (x y z w : Value) :
    Ct Tryd.prog 23 [.pointer none, x, y, z, w] [] [] fun v post => v = .int .i64 19 ∧ post = [] := by
 refine ct_of Tryd.func23 rfl rfl (fun w0 => ?_)
 show G _ _ [(0, _), (1, _), (2, _), (3, _), (4, _)] _ _
 refine G_seq ?_
 refine G_region (l := [0]) rfl ?_
 refine G_val rfl rfl rfl rfl (V_assign rfl rfl) ?_
 refine G_done ?_
 refine G_seq ?_
 refine G_seq ?_
 refine G_region (l := [0, 1, 2, 3, 4, 5]) rfl ?_
 refine G_val rfl rfl rfl rfl (V_move rfl rfl) ?_
 refine G_val rfl rfl rfl rfl (V_move rfl rfl) ?_
 refine G_val rfl rfl rfl rfl (V_move rfl rfl) ?_
 refine G_val rfl rfl rfl rfl (V_move rfl rfl) ?_
 refine G_call (L2 := []) rfl rfl rfl rfl rfl rfl Tryd.call67 (sn_check_nil _ _ _) [] [] rfl rfl ?_
 rintro v post ⟨rfl, rfl⟩
 refine G_val rfl rfl rfl rfl (V_assign rfl rfl) ?_
 refine G_done ?_
 refine G_seq ?_
 refine G_region (l := [0, 1]) rfl ?_
 refine G_val rfl rfl rfl rfl (V_move rfl rfl) ?_
 refine G_val rfl rfl rfl rfl (V_neq rfl rfl rfl) ?_
 refine G_done ?_
 refine G_ifD rfl (fun hc1 => ?_) (fun hc1 => ?_)
 rotate_left
 · (first | (exact absurd rfl hc1) | (exact absurd hc1 (by decide)) | (exact absurd (by decide) hc1) | (exfalso; omega))
 refine G_seq ?_
 refine G_region (l := [0, 1]) rfl ?_
 refine G_val rfl rfl rfl rfl (V_move rfl rfl) ?_
 refine G_val rfl rfl rfl rfl (V_assign rfl rfl) ?_
 refine G_done ?_
 refine G_ret (post := []) Tryd.func23 rfl (RVs_cons (RV_tmp rfl) RVs_nil) [] rfl ?_
 dsimp only [packed]
 exact ⟨rfl, rfl⟩


def gotT (k : Dk) (f b : Int) (e : Nat) (z : Int) : List UInt8 := if regE k.L.length f b e ≠ 0 then [] else getT (rdB k f b.toNat) e z
def gotE (k : Dk) (f b : Int) (e : Nat) (z : Int) : Int := if regE k.L.length f b e ≠ 0 then 1 else getE (rdB k f b.toNat) e z
theorem got_no {k : Dk} {f b : Int} {e : Nat} {z : Int} (h : ¬ regE k.L.length f b e = 0) : gotT k f b e z = [] ∧ gotE k f b e z = 1 := by unfold gotT gotE; rw [if_pos h, if_pos h]; exact ⟨rfl, rfl⟩
theorem got_yes {k : Dk} {f b : Int} {e : Nat} {z : Int} (h : regE k.L.length f b e = 0) : gotT k f b e z = getT (rdB k f b.toNat) e z ∧ gotE k f b e z = getE (rdB k f b.toNat) e z := by
  unfold gotT gotE; rw [if_neg (by omega), if_neg (by omega)]; exact ⟨rfl, rfl⟩
theorem got_18 {k : Dk} {f b : Int} {e : Nat} {z : Int} (h : regE k.L.length f b e = 0) (h1 : ¬ getOk (rdB k f b.toNat) e z) : gotT k f b e z = [] ∧ gotE k f b e z = 18 := by
  obtain ⟨e1, e2⟩ := got_yes (z := z) h
  obtain ⟨e3, e4⟩ := get_no h1
  exact ⟨e1.trans e3, e2.trans e4⟩
theorem got_0 {k : Dk} {f b : Int} {e : Nat} {z : Nat} (h : regE k.L.length f b e = 0) (h1 : manyS z ≤ b.toNat) (h2 : okTo (rdB k f b.toNat) e (manyS z)) (h3 : ∀ x ∈ (catD ((rdB k f b.toNat).take (manyS z))).drop z, x = 0) :
    gotT k f b e (z : Int) = (catD ((rdB k f b.toNat).take (manyS z))).take z ∧ gotE k f b e (z : Int) = 0 := by
  obtain ⟨e1, e2⟩ := got_yes (z := (z : Int)) h
  have hg : getOk (rdB k f b.toNat) e (z : Int) := by
    unfold getOk; rw [Int.toNat_natCast, rdB_len]; exact ⟨by omega, h1, h2, h3⟩
  obtain ⟨e3, e4⟩ := get_yes hg
  rw [Int.toNat_natCast] at e3
  exact ⟨e1.trans e3, e2.trans e4⟩
theorem getOk_small {bl : List (List UInt8)} {e z : Nat} (h : bl.length < manyS z) : ¬ getOk bl e (z : Int) := fun x => by
  have := x.2.1; rw [Int.toNat_natCast] at this; omega
theorem getOk_bad {bl : List (List UInt8)} {e z i : Nat} {b : List UInt8} (hi : i < manyS z) (hb : bl.getD i [] = b) (h : ¬ (openOk b = true ∧ openE b = e ∧ openI b = i)) : ¬ getOk bl e (z : Int) := fun x => by
  have := x.2.2.1; rw [Int.toNat_natCast] at this
  have := this i hi
  rw [hb, okB_iff] at this
  exact h this
theorem getOk_rest {bl : List (List UInt8)} {e z : Nat} (h : ¬ ∀ x ∈ (catD (bl.take (manyS z))).drop z, x = 0) : ¬ getOk bl e (z : Int) := fun x => by
  have := x.2.2.2; rw [Int.toNat_natCast] at this; exact h this
theorem getOk_neg {bl : List (List UInt8)} {e : Nat} {z : Int} (h : z < 0) : ¬ getOk bl e z := fun x => by have := x.1; omega

set_option maxRecDepth 100000 in
set_option maxHeartbeats 2000000 in
theorem sn_getN (d n lb lcap : Nat) (lcs : Array Value) (uw : Sl) (k : Dk) (h : DkAt k n lb lcs lcap uw) (f b : Int) (e : Nat) (hf0 : -9223372036854775808 ≤ f) (hf1 : f ≤ 9223372036854775807) (hb0 : -9223372036854775808 ≤ b) (hb1 : b ≤ 9223372036854775807) (he : e < 4294967296) (z : Nat) (hzl : z ≤ 9223372036854775807) (hd : k.dead = false) :
    Ct Tryd.prog 21 [.pointer (some ⟨d, 0, none⟩), .int .i64 f, .int .i64 b, .int .u32 (e : Int), .int .i64 (z : Int)] [(some d, .cells #[.slice (some ⟨lb, 0, none⟩) n lcap, uw.v k.W.length, .int .i64 k.fuse, .bool k.dead] 110 (0, 0)), (some lb, .cells lcs 9 (0, 0)), (uw.ob, .cells uw.cs 116 uw.fz)] [] fun v post => v = .tuple #[.string (bs (gotT k f b e (z : Int))), .int .i64 (gotE k f b e (z : Int))] ∧ post = [] := by
 have hq := h.bd
 have hq1 := hq.n1
 have hq2 := hq.n4
 have hq3 := hq.ncs
 have hq4 := hq.ncap
 have hq5 := hq.cap
 have hq6 := hq.w
 have hq7 := hq.wc
 have hln := h.len
 have hroom := manyS_room z
 have hrl := rdB_len k f b.toNat
 refine ct_of Tryd.func21 rfl rfl (fun w0 => ?_)
 show G _ _ [(0, _), (1, _), (2, _), (3, _), (4, _)] _ _
 refine G_seq ?_
 refine G_region (l := [0, 1]) rfl ?_
 refine G_val rfl rfl rfl rfl (V_assign rfl rfl) ?_
 refine G_val rfl rfl rfl rfl (V_assign rfl rfl) ?_
 refine G_done ?_
 refine G_seq ?_
 refine G_seq ?_
 refine G_region (l := [0, 1, 2, 3, 4, 5]) rfl ?_
 refine G_val rfl rfl rfl rfl (V_move rfl rfl) ?_
 refine G_val rfl rfl rfl rfl (V_move rfl rfl) ?_
 refine G_val rfl rfl rfl rfl (V_move rfl rfl) ?_
 refine G_val rfl rfl rfl rfl (V_move rfl rfl) ?_
 refine G_call (L2 := []) rfl rfl rfl rfl rfl rfl Tryd.call67 (sn_check d n lb lcap lcs uw k h f b e hf0 hf1 hb0 hb1 he) [] [0] rfl rfl ?_
 rintro v post ⟨rfl, rfl⟩
 refine G_val rfl rfl rfl rfl (V_assign rfl rfl) ?_
 refine G_done ?_
 refine G_seq ?_
 refine G_region (l := [0, 1]) rfl ?_
 refine G_val rfl rfl rfl rfl (V_move rfl rfl) ?_
 refine G_val rfl rfl rfl rfl (V_neq rfl rfl rfl) ?_
 refine G_done ?_
 refine G_ifD rfl (fun hc1 => ?_) (fun hc1 => ?_)
 · skip
   refine G_seq ?_
   refine G_region (l := [0, 1, 2]) rfl ?_
   refine G_val rfl rfl rfl rfl (V_move rfl rfl) ?_
   refine G_val rfl rfl rfl rfl (V_assign rfl rfl) ?_
   refine G_val rfl rfl rfl rfl (V_assign rfl rfl) ?_
   refine G_done ?_
   refine G_ret (post := []) Tryd.func21 rfl (RVs_cons (RV_tmp rfl) (RVs_cons (RV_tmp rfl) RVs_nil)) [] rfl ?_
   dsimp only [packed]
   first
     | (suffices hz : ¬ regE n f b e = 0 by (obtain ⟨e1, e2⟩ := got_no (k := k) (f := f) (b := b) (e := e) (z := (z : Int)) (by rw [hln]; exact hz); rw [e1, e2]; exact ⟨by rw [regE_one hz]; try rfl, rfl⟩)
        assumption)
     | (suffices hz : regE n f b e = 0 ∧ b < (manyS z : Int) by (obtain ⟨e1, e2⟩ := got_18 (k := k) (f := f) (b := b) (e := e) (by rw [hln]; exact hz.1) (getOk_small (z := z) (by rw [rdB_len]; omega)); rw [e1, e2]; exact ⟨rfl, rfl⟩)
        exact ⟨by assumption, by omega⟩)
     | (suffices hz : i < manyS z ∧ ¬ (openOk (k.readS (f + (i : Int))) = true ∧ openE (k.readS (f + (i : Int))) = e ∧ openI (k.readS (f + (i : Int))) = i) by (obtain ⟨e1, e2⟩ := got_18 (k := k) (f := f) (b := b) (e := e) (by rw [hln]; exact hreg) (getOk_bad (z := z) (i := i) hz.1 hbg hz.2); rw [e1, e2]; exact ⟨rfl, rfl⟩)
        exact ⟨by omega, by rintro ⟨x1, x2, x3⟩; first | omega | simp_all⟩)
     | (suffices hz : i = manyS z ∧ ¬ trimL (trimR (((catD ((rdB k f b.toNat).take i))).drop z)) = [] by (obtain ⟨e1, e2⟩ := got_18 (k := k) (f := f) (b := b) (e := e) (by rw [hln]; exact hreg) (getOk_rest (z := z) (fun x => hz.2 ((trim_nil _).2 (by rw [hz.1]; exact x)))); rw [e1, e2]; exact ⟨rfl, rfl⟩)
        exact ⟨by omega, by assumption⟩)
     | (suffices hz : i = manyS z ∧ trimL (trimR (((catD ((rdB k f b.toNat).take i))).drop z)) = [] by (obtain ⟨e1, e2⟩ := got_0 (k := k) (f := f) (b := b) (e := e) (z := z) (by rw [hln]; exact hreg) (by omega) (by rw [← hz.1]; exact hok) ((trim_nil _).1 (by rw [← hz.1]; exact hz.2)); rw [e1, e2]; exact ⟨by rw [hz.1], rfl⟩)
        exact ⟨by omega, by first | assumption | exact Classical.not_not.1 (by assumption)⟩)
 refine G_skip ?_
 refine G_seq ?_
 refine G_seq ?_
 have hreg : regE n f b e = 0 := by omega
 have hreg1 := hreg
 rw [regE_ok] at hreg1
 obtain ⟨hr1, hr2, hr3, hr4⟩ := hreg1
 refine G_region (l := [0, 1, 2, 3, 4, 5, 6, 7]) rfl ?_
 refine G_val rfl rfl rfl rfl (V_move rfl rfl) ?_
 refine G_val rfl rfl rfl rfl (V_lss rfl rfl rfl) ?_
 refine G_val rfl rfl rfl rfl (V_move rfl rfl) ?_
 refine G_splitD 32 rfl (fun hc2 => ?_) (fun hc2 => ?_)
 · (first | (exact absurd rfl hc2) | (exact absurd hc2 (by decide)) | (exact absurd (by decide) hc2) | (exfalso; omega))
 refine G_val rfl rfl rfl rfl (V_move rfl rfl) ?_
 refine G_call (L2 := []) rfl rfl rfl rfl rfl rfl Tryd.call26 (sn_many _ (by first | omega | (simp; done) | (simp; omega) | (simp at *; omega))) [] [] rfl rfl ?_
 rintro v post ⟨rfl, rfl⟩
 refine G_val rfl rfl rfl rfl (V_move rfl rfl) ?_
 refine G_val rfl rfl rfl rfl (V_gtr rfl rfl rfl) ?_
 refine G_val rfl rfl rfl rfl (V_pickF rfl rfl rfl) ?_
 refine G_done ?_
 refine G_ifD rfl (fun hc3 => ?_) (fun hc3 => ?_)
 · skip
   refine G_seq ?_
   refine G_region (l := [0, 1]) rfl ?_
   refine G_val rfl rfl rfl rfl (V_assign rfl rfl) ?_
   refine G_val rfl rfl rfl rfl (V_assign rfl rfl) ?_
   refine G_done ?_
   refine G_ret (post := []) Tryd.func21 rfl (RVs_cons (RV_tmp rfl) (RVs_cons (RV_tmp rfl) RVs_nil)) [] rfl ?_
   dsimp only [packed]
   first
     | (suffices hz : ¬ regE n f b e = 0 by (obtain ⟨e1, e2⟩ := got_no (k := k) (f := f) (b := b) (e := e) (z := (z : Int)) (by rw [hln]; exact hz); rw [e1, e2]; exact ⟨by rw [regE_one hz]; try rfl, rfl⟩)
        assumption)
     | (suffices hz : regE n f b e = 0 ∧ b < (manyS z : Int) by (obtain ⟨e1, e2⟩ := got_18 (k := k) (f := f) (b := b) (e := e) (by rw [hln]; exact hz.1) (getOk_small (z := z) (by rw [rdB_len]; omega)); rw [e1, e2]; exact ⟨rfl, rfl⟩)
        exact ⟨by assumption, by omega⟩)
     | (suffices hz : i < manyS z ∧ ¬ (openOk (k.readS (f + (i : Int))) = true ∧ openE (k.readS (f + (i : Int))) = e ∧ openI (k.readS (f + (i : Int))) = i) by (obtain ⟨e1, e2⟩ := got_18 (k := k) (f := f) (b := b) (e := e) (by rw [hln]; exact hreg) (getOk_bad (z := z) (i := i) hz.1 hbg hz.2); rw [e1, e2]; exact ⟨rfl, rfl⟩)
        exact ⟨by omega, by rintro ⟨x1, x2, x3⟩; first | omega | simp_all⟩)
     | (suffices hz : i = manyS z ∧ ¬ trimL (trimR (((catD ((rdB k f b.toNat).take i))).drop z)) = [] by (obtain ⟨e1, e2⟩ := got_18 (k := k) (f := f) (b := b) (e := e) (by rw [hln]; exact hreg) (getOk_rest (z := z) (fun x => hz.2 ((trim_nil _).2 (by rw [hz.1]; exact x)))); rw [e1, e2]; exact ⟨rfl, rfl⟩)
        exact ⟨by omega, by assumption⟩)
     | (suffices hz : i = manyS z ∧ trimL (trimR (((catD ((rdB k f b.toNat).take i))).drop z)) = [] by (obtain ⟨e1, e2⟩ := got_0 (k := k) (f := f) (b := b) (e := e) (z := z) (by rw [hln]; exact hreg) (by omega) (by rw [← hz.1]; exact hok) ((trim_nil _).1 (by rw [← hz.1]; exact hz.2)); rw [e1, e2]; exact ⟨by rw [hz.1], rfl⟩)
        exact ⟨by omega, by first | assumption | exact Classical.not_not.1 (by assumption)⟩)
 refine G_skip ?_
 refine G_seq ?_
 refine G_region (l := [0]) rfl ?_
 refine G_new rfl rfl rfl rfl (N_allocA rfl infSnapW_120 rfl) (fun b13 => ?_)
 refine G_done ?_
 refine G_seq ?_
 refine G_seq ?_
 refine G_addNone (.cells #[] 5 (0, 0)) ?_
 refine G_region (l := [0, 1, 2]) rfl ?_
 refine G_val rfl rfl rfl rfl (V_move rfl rfl) ?_
 refine G_call (L2 := [_, _]) rfl rfl rfl rfl rfl rfl Tryd.call26 (sn_many _ (by first | omega | (simp; done) | (simp; omega) | (simp at *; omega))) [] [] rfl rfl ?_
 rintro v post ⟨rfl, rfl⟩
 show G _ _ _ [_, _] _
 refine G_val rfl rfl rfl rfl (V_move rfl rfl) ?_
 refine G_done ?_
 refine G_block ?_
 refine G_sub ?he8 [1, 0] ?hl8 (G_loop (X := Nat × Value × Sl) (fun x => match x with | ⟨i, pv, u⟩ => i ≤ manyS z ∧ UsedOr b13 pv ∧ Txt u (catD ((rdB k f b.toNat).take i)) ∧ okTo (rdB k f b.toNat) e i) (fun x => match x with | ⟨i, pv, u⟩ => manyS z - i) (fun x => match x with | ⟨i, pv, u⟩ => [(0, .pointer (some ⟨d, 0, none⟩)), (1, .int .i64 f), (3, .int .u32 (e : Int)), (4, .int .i64 (z : Int)), (13, .pointer (some ⟨b13, 0, none⟩)), (39, .int .i64 (manyS z : Int)), (40, .int .i64 (i : Int))]) (fun x => match x with | ⟨i, pv, u⟩ => [(some b13, .cells #[pv, u.v (catD ((rdB k f b.toNat).take i)).length] 120 (0, 0)), (u.ob, .cells u.cs 5 u.fz)]) ?round8 (0, .pointer none, slNil) ?h08)
 case he8 => exact (And.intro rfl (And.intro rfl (And.intro rfl (And.intro rfl (And.intro rfl (And.intro rfl (And.intro rfl trivial)))))))
 case hl8 => exact ⟨_, rfl⟩
 case h08 => exact ⟨Nat.zero_le _, .inl rfl, txt_nil, fun j hj => by omega⟩
 case round8 =>
  intro x hJ ih
  try dsimp only at hJ ih
  obtain ⟨i, pv, u⟩ := x
  try dsimp only at hJ ih
  obtain ⟨hi, hpx, hux, hok⟩ := hJ
  show G _ _ [(0, .pointer (some ⟨d, 0, none⟩)), (1, .int .i64 f), (3, .int .u32 (e : Int)), (4, .int .i64 (z : Int)), (13, .pointer (some ⟨b13, 0, none⟩)), (39, .int .i64 (manyS z : Int)), (40, .int .i64 (i : Int))] [(some b13, .cells #[pv, u.v (catD ((rdB k f b.toNat).take i)).length] 120 (0, 0)), (u.ob, .cells u.cs 5 u.fz)] _
  refine G_seq ?_
  refine G_region (l := [0]) rfl ?_
  refine G_val rfl rfl rfl rfl (V_lss rfl rfl rfl) ?_
  refine G_done ?_
  refine G_seq ?_
  refine G_ifD rfl (fun hc4 => ?_) (fun hc4 => ?_)
  · skip
    refine G_skip ?_
    refine G_seq ?_
    refine G_block ?_
    refine G_seq ?_
    refine G_region (l := [0, 1]) rfl ?_
    refine G_val rfl rfl rfl rfl (V_move rfl rfl) ?_
    refine G_val rfl rfl rfl rfl (V_assign rfl rfl) ?_
    refine G_done ?_
    refine G_seq ?_
    have hre : k.readE (f + (i : Int)) = 0 := (read_yes (hasE_ok.2 (by omega)) (by rw [hd]; exact Bool.false_ne_true)).1
    have hbx := rdB_at (k := k) (f := f) (show i < b.toNat by omega)
    have hbg := rdB_get (k := k) (f := f) (show i < b.toNat by omega)
    have hr64 := readS_len h.ok (f + (i : Int))
    have hq1 := openE_lt (k.readS (f + (i : Int)))
    have hq2 := openI_lt (k.readS (f + (i : Int)))
    have hq3 := openD_len (k.readS (f + (i : Int)))
    refine G_region (l := [0, 1, 2, 3, 4, 5, 6, 7, 8, 9]) rfl ?_
    refine G_val rfl rfl rfl rfl (V_move rfl rfl) ?_
    refine G_val rfl rfl rfl rfl (V_move rfl rfl) ?_
    refine G_val rfl rfl rfl rfl (V_move rfl rfl) ?_
    first
      | refine G_val rfl rfl rfl rfl ((V_add rfl rfl rfl).int (wrap_i64 (by omega))) ?_
      | refine G_val rfl rfl rfl rfl (V_add rfl rfl rfl) ?_
    refine G_call (L2 := [_, _]) rfl rfl rfl rfl rfl rfl Tryd.call29 ((dk_read d n lb lcap lcs uw k h (f + (i : Int))).weaken (fun v post h => by rw [hre] at h; exact h)) [] [0, 1, 2] rfl rfl ?_
    rintro v post ⟨rfl, rfl⟩
    show G _ _ _ [_, _] _
    refine G_val rfl rfl rfl rfl (V_move rfl rfl) ?_
    refine G_val rfl rfl rfl rfl (V_extract rfl rfl rfl) ?_
    refine G_val rfl rfl rfl rfl (V_extract rfl rfl rfl) ?_
    refine G_val rfl rfl rfl rfl (V_assign rfl rfl) ?_
    refine G_val rfl rfl rfl rfl (V_assign rfl rfl) ?_
    refine G_done ?_
    refine G_seq ?_
    refine G_seq ?_
    refine G_region (l := [0, 1]) rfl ?_
    refine G_val rfl rfl rfl rfl (V_move rfl rfl) ?_
    refine G_val rfl rfl rfl rfl (V_neq rfl rfl rfl) ?_
    refine G_done ?_
    refine G_ifD rfl (fun hc5 => ?_) (fun hc5 => ?_)
    · (first | (exact absurd rfl hc5) | (exact absurd hc5 (by decide)) | (exact absurd (by decide) hc5) | (exfalso; omega))
    refine G_skip ?_
    refine G_seq ?_
    refine G_region (l := [0, 1, 2, 3, 4, 5, 6, 7, 8, 9, 10]) rfl ?_
    refine G_val rfl rfl rfl rfl (V_move rfl rfl) ?_
    refine G_call (L2 := [_, _]) rfl rfl rfl rfl rfl rfl Tryd.call68 (seal_open _ (by first | omega | (simp; omega))) [] [] rfl rfl ?_
    rintro v post ⟨rfl, rfl⟩
    show G _ _ _ [_, _] _
    refine G_val rfl rfl rfl rfl (V_move rfl rfl) ?_
    refine G_val rfl rfl rfl rfl (V_extract rfl rfl rfl) ?_
    refine G_val rfl rfl rfl rfl (V_extract rfl rfl rfl) ?_
    refine G_val rfl rfl rfl rfl (V_extract rfl rfl rfl) ?_
    refine G_val rfl rfl rfl rfl (V_extract rfl rfl rfl) ?_
    refine G_val rfl rfl rfl rfl (V_assign rfl rfl) ?_
    refine G_val rfl rfl rfl rfl (V_assign rfl rfl) ?_
    refine G_val rfl rfl rfl rfl (V_assign rfl rfl) ?_
    refine G_val rfl rfl rfl rfl (V_assign rfl rfl) ?_
    refine G_done ?_
    refine G_seq ?_
    refine G_seq ?_
    refine G_region (l := [0, 1, 2, 3, 4, 5, 6, 7, 8, 9, 10, 11, 12]) rfl ?_
    refine G_val rfl rfl rfl rfl (V_move rfl rfl) ?_
    refine G_val rfl rfl rfl rfl (V_not rfl rfl) ?_
    refine G_val rfl rfl rfl rfl (V_move rfl rfl) ?_
    refine G_split 63 rfl (fun hc6 => ?_) (fun hc6 => ?_)
    · skip
      refine G_off rfl rfl rfl rfl ?_
      refine G_off rfl rfl rfl rfl ?_
      refine G_off rfl rfl rfl rfl ?_
      refine G_val rfl rfl rfl rfl (V_pickT rfl rfl rfl) ?_
      refine G_val rfl rfl rfl rfl (V_move rfl rfl) ?_
      refine G_off rfl rfl rfl rfl ?_
      refine G_off rfl rfl rfl rfl ?_
      refine G_off rfl rfl rfl rfl ?_
      refine G_off rfl rfl rfl rfl ?_
      refine G_val rfl rfl rfl rfl (V_pickT rfl rfl rfl) ?_
      refine G_done ?_
      refine G_then rfl ?_
      refine G_seq ?_
      refine G_region (l := [0, 1]) rfl ?_
      refine G_val rfl rfl rfl rfl (V_assign rfl rfl) ?_
      refine G_val rfl rfl rfl rfl (V_assign rfl rfl) ?_
      refine G_done ?_
      refine G_ret (post := []) Tryd.func21 rfl (RVs_cons (RV_tmp rfl) (RVs_cons (RV_tmp rfl) RVs_nil)) [] rfl ?_
      dsimp only [packed]
      first
        | (suffices hz : ¬ regE n f b e = 0 by (obtain ⟨e1, e2⟩ := got_no (k := k) (f := f) (b := b) (e := e) (z := (z : Int)) (by rw [hln]; exact hz); rw [e1, e2]; exact ⟨by rw [regE_one hz]; try rfl, rfl⟩)
           assumption)
        | (suffices hz : regE n f b e = 0 ∧ b < (manyS z : Int) by (obtain ⟨e1, e2⟩ := got_18 (k := k) (f := f) (b := b) (e := e) (by rw [hln]; exact hz.1) (getOk_small (z := z) (by rw [rdB_len]; omega)); rw [e1, e2]; exact ⟨rfl, rfl⟩)
           exact ⟨by assumption, by omega⟩)
        | (suffices hz : i < manyS z ∧ ¬ (openOk (k.readS (f + (i : Int))) = true ∧ openE (k.readS (f + (i : Int))) = e ∧ openI (k.readS (f + (i : Int))) = i) by (obtain ⟨e1, e2⟩ := got_18 (k := k) (f := f) (b := b) (e := e) (by rw [hln]; exact hreg) (getOk_bad (z := z) (i := i) hz.1 hbg hz.2); rw [e1, e2]; exact ⟨rfl, rfl⟩)
           exact ⟨by omega, by rintro ⟨x1, x2, x3⟩; first | omega | simp_all⟩)
        | (suffices hz : i = manyS z ∧ ¬ trimL (trimR (((catD ((rdB k f b.toNat).take i))).drop z)) = [] by (obtain ⟨e1, e2⟩ := got_18 (k := k) (f := f) (b := b) (e := e) (by rw [hln]; exact hreg) (getOk_rest (z := z) (fun x => hz.2 ((trim_nil _).2 (by rw [hz.1]; exact x)))); rw [e1, e2]; exact ⟨rfl, rfl⟩)
           exact ⟨by omega, by assumption⟩)
        | (suffices hz : i = manyS z ∧ trimL (trimR (((catD ((rdB k f b.toNat).take i))).drop z)) = [] by (obtain ⟨e1, e2⟩ := got_0 (k := k) (f := f) (b := b) (e := e) (z := z) (by rw [hln]; exact hreg) (by omega) (by rw [← hz.1]; exact hok) ((trim_nil _).1 (by rw [← hz.1]; exact hz.2)); rw [e1, e2]; exact ⟨by rw [hz.1], rfl⟩)
           exact ⟨by omega, by first | assumption | exact Classical.not_not.1 (by assumption)⟩)
    refine G_val rfl rfl rfl rfl (V_move rfl rfl) ?_
    refine G_val rfl rfl rfl rfl (V_move rfl rfl) ?_
    refine G_val rfl rfl rfl rfl (V_neq rfl rfl rfl) ?_
    refine G_val rfl rfl rfl rfl (V_pickF rfl rfl rfl) ?_
    refine G_val rfl rfl rfl rfl (V_move rfl rfl) ?_
    refine G_splitD 68 rfl (fun hc7 => ?_) (fun hc7 => ?_)
    · skip
      refine G_off rfl rfl rfl rfl ?_
      refine G_off rfl rfl rfl rfl ?_
      refine G_off rfl rfl rfl rfl ?_
      refine G_off rfl rfl rfl rfl ?_
      refine G_val rfl rfl rfl rfl (V_pickT rfl rfl rfl) ?_
      refine G_done ?_
      refine G_then rfl ?_
      refine G_seq ?_
      refine G_region (l := [0, 1]) rfl ?_
      refine G_val rfl rfl rfl rfl (V_assign rfl rfl) ?_
      refine G_val rfl rfl rfl rfl (V_assign rfl rfl) ?_
      refine G_done ?_
      refine G_ret (post := []) Tryd.func21 rfl (RVs_cons (RV_tmp rfl) (RVs_cons (RV_tmp rfl) RVs_nil)) [] rfl ?_
      dsimp only [packed]
      first
        | (suffices hz : ¬ regE n f b e = 0 by (obtain ⟨e1, e2⟩ := got_no (k := k) (f := f) (b := b) (e := e) (z := (z : Int)) (by rw [hln]; exact hz); rw [e1, e2]; exact ⟨by rw [regE_one hz]; try rfl, rfl⟩)
           assumption)
        | (suffices hz : regE n f b e = 0 ∧ b < (manyS z : Int) by (obtain ⟨e1, e2⟩ := got_18 (k := k) (f := f) (b := b) (e := e) (by rw [hln]; exact hz.1) (getOk_small (z := z) (by rw [rdB_len]; omega)); rw [e1, e2]; exact ⟨rfl, rfl⟩)
           exact ⟨by assumption, by omega⟩)
        | (suffices hz : i < manyS z ∧ ¬ (openOk (k.readS (f + (i : Int))) = true ∧ openE (k.readS (f + (i : Int))) = e ∧ openI (k.readS (f + (i : Int))) = i) by (obtain ⟨e1, e2⟩ := got_18 (k := k) (f := f) (b := b) (e := e) (by rw [hln]; exact hreg) (getOk_bad (z := z) (i := i) hz.1 hbg hz.2); rw [e1, e2]; exact ⟨rfl, rfl⟩)
           exact ⟨by omega, by rintro ⟨x1, x2, x3⟩; first | omega | simp_all⟩)
        | (suffices hz : i = manyS z ∧ ¬ trimL (trimR (((catD ((rdB k f b.toNat).take i))).drop z)) = [] by (obtain ⟨e1, e2⟩ := got_18 (k := k) (f := f) (b := b) (e := e) (by rw [hln]; exact hreg) (getOk_rest (z := z) (fun x => hz.2 ((trim_nil _).2 (by rw [hz.1]; exact x)))); rw [e1, e2]; exact ⟨rfl, rfl⟩)
           exact ⟨by omega, by assumption⟩)
        | (suffices hz : i = manyS z ∧ trimL (trimR (((catD ((rdB k f b.toNat).take i))).drop z)) = [] by (obtain ⟨e1, e2⟩ := got_0 (k := k) (f := f) (b := b) (e := e) (z := z) (by rw [hln]; exact hreg) (by omega) (by rw [← hz.1]; exact hok) ((trim_nil _).1 (by rw [← hz.1]; exact hz.2)); rw [e1, e2]; exact ⟨by rw [hz.1], rfl⟩)
           exact ⟨by omega, by first | assumption | exact Classical.not_not.1 (by assumption)⟩)
    refine G_val rfl rfl rfl rfl (V_move rfl rfl) ?_
    refine G_val rfl rfl rfl rfl (V_move rfl rfl) ?_
    first
      | refine G_val rfl rfl rfl rfl ((V_conv rfl rfl Tryd.underlying3 Tryd.underlying22).int (wrap_u32 (by omega))) ?_
      | refine G_val rfl rfl rfl rfl (V_conv rfl rfl Tryd.underlying3 Tryd.underlying22) ?_
    refine G_val rfl rfl rfl rfl (V_neq rfl rfl rfl) ?_
    refine G_val rfl rfl rfl rfl (V_pickF rfl rfl rfl) ?_
    refine G_done ?_
    refine G_ifD rfl (fun hc8 => ?_) (fun hc8 => ?_)
    · skip
      refine G_seq ?_
      refine G_region (l := [0, 1]) rfl ?_
      refine G_val rfl rfl rfl rfl (V_assign rfl rfl) ?_
      refine G_val rfl rfl rfl rfl (V_assign rfl rfl) ?_
      refine G_done ?_
      refine G_ret (post := []) Tryd.func21 rfl (RVs_cons (RV_tmp rfl) (RVs_cons (RV_tmp rfl) RVs_nil)) [] rfl ?_
      dsimp only [packed]
      first
        | (suffices hz : ¬ regE n f b e = 0 by (obtain ⟨e1, e2⟩ := got_no (k := k) (f := f) (b := b) (e := e) (z := (z : Int)) (by rw [hln]; exact hz); rw [e1, e2]; exact ⟨by rw [regE_one hz]; try rfl, rfl⟩)
           assumption)
        | (suffices hz : regE n f b e = 0 ∧ b < (manyS z : Int) by (obtain ⟨e1, e2⟩ := got_18 (k := k) (f := f) (b := b) (e := e) (by rw [hln]; exact hz.1) (getOk_small (z := z) (by rw [rdB_len]; omega)); rw [e1, e2]; exact ⟨rfl, rfl⟩)
           exact ⟨by assumption, by omega⟩)
        | (suffices hz : i < manyS z ∧ ¬ (openOk (k.readS (f + (i : Int))) = true ∧ openE (k.readS (f + (i : Int))) = e ∧ openI (k.readS (f + (i : Int))) = i) by (obtain ⟨e1, e2⟩ := got_18 (k := k) (f := f) (b := b) (e := e) (by rw [hln]; exact hreg) (getOk_bad (z := z) (i := i) hz.1 hbg hz.2); rw [e1, e2]; exact ⟨rfl, rfl⟩)
           exact ⟨by omega, by rintro ⟨x1, x2, x3⟩; first | omega | simp_all⟩)
        | (suffices hz : i = manyS z ∧ ¬ trimL (trimR (((catD ((rdB k f b.toNat).take i))).drop z)) = [] by (obtain ⟨e1, e2⟩ := got_18 (k := k) (f := f) (b := b) (e := e) (by rw [hln]; exact hreg) (getOk_rest (z := z) (fun x => hz.2 ((trim_nil _).2 (by rw [hz.1]; exact x)))); rw [e1, e2]; exact ⟨rfl, rfl⟩)
           exact ⟨by omega, by assumption⟩)
        | (suffices hz : i = manyS z ∧ trimL (trimR (((catD ((rdB k f b.toNat).take i))).drop z)) = [] by (obtain ⟨e1, e2⟩ := got_0 (k := k) (f := f) (b := b) (e := e) (z := z) (by rw [hln]; exact hreg) (by omega) (by rw [← hz.1]; exact hok) ((trim_nil _).1 (by rw [← hz.1]; exact hz.2)); rw [e1, e2]; exact ⟨by rw [hz.1], rfl⟩)
           exact ⟨by omega, by first | assumption | exact Classical.not_not.1 (by assumption)⟩)
    refine G_skip ?_
    have hcl := okTo_len hok (by omega)
    refine G_region (l := [0, 1]) rfl ?_
    refine G_val rfl rfl rfl rfl (V_move rfl rfl) ?_
    refine G_call (L2 := []) rfl rfl rfl rfl rfl rfl Tryd.call69 (bld_write _ _ _ _ _ hpx hux (by omega)) [0, 0] [] rfl rfl ?_
    rintro v post ⟨rfl, u1, hu1, rfl⟩
    show G _ _ _ [_, _] _
    rw [← catD_next hbx] at hu1 ⊢
    refine G_done ?_
    refine G_inBlock ?_
    refine G_region (l := [0, 1]) rfl ?_
    first
      | refine G_val rfl rfl rfl rfl ((V_add rfl rfl rfl).int (wrap_i64 (by omega))) ?_
      | refine G_val rfl rfl rfl rfl (V_add rfl rfl rfl) ?_
    refine G_val rfl rfl rfl rfl (V_move rfl rfl) ?_
    refine G_done ?_
    refine G_sub ?_ [0, 0] ?_ (ih (i + 1, .pointer (some ⟨b13, 0, none⟩), u1) ?_ ?_)
    · (refine (And.intro ?_ (And.intro ?_ (And.intro ?_ (And.intro ?_ (And.intro ?_ (And.intro ?_ (And.intro ?_ trivial))))))) <;> first | rfl | exact slot_int (by omega) | exact slot_int (by simp))
    · exact ⟨_, rfl⟩
    · exact ⟨by omega, .inr rfl, hu1, okTo_next hok (by rw [hbg]; exact okB_iff.2 ⟨by simp_all, by omega, by omega⟩)⟩
    · (first | omega | (dsimp only; omega))
  refine G_exit rfl ?_
  refine G_seq ?_
  have hcl := okTo_len hok (by omega)
  refine G_region (l := [0, 1]) rfl ?_
  refine G_call (L2 := []) rfl rfl rfl rfl rfl rfl Tryd.call70 (bld_string _ _ _ _ hux (by omega)) [0, 0] [] rfl rfl ?_
  rintro v post ⟨rfl, u1, hu1, rfl⟩
  show G _ _ _ [_, _] _
  refine G_val rfl rfl rfl rfl (V_assign rfl rfl) ?_
  refine G_done ?_
  refine G_seq ?_
  refine G_seq ?_
  refine G_region (l := [0, 1, 2, 3, 4]) rfl ?_
  refine G_val rfl rfl rfl rfl (V_move rfl rfl) ?_
  refine G_val rfl rfl rfl rfl (V_move rfl rfl) ?_
  first
    | refine G_val rfl rfl rfl rfl (V_ssliceLN (lo := _) rfl Tryd.underlying9 rfl rfl rfl (by first | omega | (simp [wCells, kCells, wCells, kCells, wCells, kCells, wCells, kCells]; done) | (simp [wCells, kCells, wCells, kCells, wCells, kCells, wCells, kCells]; omega) | (simp [wCells, kCells, wCells, kCells, wCells, kCells, wCells, kCells] at *; omega))) ?_
    | refine G_val rfl rfl rfl rfl (V_ssliceL rfl Tryd.underlying9 rfl rfl (by first | omega | (simp [wCells, kCells, wCells, kCells, wCells, kCells, wCells, kCells]; done) | (simp [wCells, kCells, wCells, kCells, wCells, kCells, wCells, kCells]; omega) | (simp [wCells, kCells, wCells, kCells, wCells, kCells, wCells, kCells] at *; omega)) (by first | omega | (simp [wCells, kCells, wCells, kCells, wCells, kCells, wCells, kCells]; done) | (simp [wCells, kCells, wCells, kCells, wCells, kCells, wCells, kCells]; omega) | (simp [wCells, kCells, wCells, kCells, wCells, kCells, wCells, kCells] at *; omega))) ?_
  refine G_call (L2 := [_, _]) rfl rfl rfl rfl rfl rfl Tryd.call60 (str_trim _ (by simp; omega)) [] [] rfl rfl ?_
  rintro v post ⟨rfl, rfl⟩
  show G _ _ _ [_, _] _
  refine G_val rfl rfl rfl rfl (V_sneq rfl rfl rfl) ?_
  refine G_done ?_
  refine G_ifD rfl (fun hc5 => ?_) (fun hc5 => ?_)
  · skip
    refine G_seq ?_
    refine G_region (l := [0, 1]) rfl ?_
    refine G_val rfl rfl rfl rfl (V_assign rfl rfl) ?_
    refine G_val rfl rfl rfl rfl (V_assign rfl rfl) ?_
    refine G_done ?_
    refine G_ret (post := []) Tryd.func21 rfl (RVs_cons (RV_tmp rfl) (RVs_cons (RV_tmp rfl) RVs_nil)) [] rfl ?_
    dsimp only [packed]
    first
      | (suffices hz : ¬ regE n f b e = 0 by (obtain ⟨e1, e2⟩ := got_no (k := k) (f := f) (b := b) (e := e) (z := (z : Int)) (by rw [hln]; exact hz); rw [e1, e2]; exact ⟨by rw [regE_one hz]; try rfl, rfl⟩)
         assumption)
      | (suffices hz : regE n f b e = 0 ∧ b < (manyS z : Int) by (obtain ⟨e1, e2⟩ := got_18 (k := k) (f := f) (b := b) (e := e) (by rw [hln]; exact hz.1) (getOk_small (z := z) (by rw [rdB_len]; omega)); rw [e1, e2]; exact ⟨rfl, rfl⟩)
         exact ⟨by assumption, by omega⟩)
      | (suffices hz : i < manyS z ∧ ¬ (openOk (k.readS (f + (i : Int))) = true ∧ openE (k.readS (f + (i : Int))) = e ∧ openI (k.readS (f + (i : Int))) = i) by (obtain ⟨e1, e2⟩ := got_18 (k := k) (f := f) (b := b) (e := e) (by rw [hln]; exact hreg) (getOk_bad (z := z) (i := i) hz.1 hbg hz.2); rw [e1, e2]; exact ⟨rfl, rfl⟩)
         exact ⟨by omega, by rintro ⟨x1, x2, x3⟩; first | omega | simp_all⟩)
      | (suffices hz : i = manyS z ∧ ¬ trimL (trimR (((catD ((rdB k f b.toNat).take i))).drop z)) = [] by (obtain ⟨e1, e2⟩ := got_18 (k := k) (f := f) (b := b) (e := e) (by rw [hln]; exact hreg) (getOk_rest (z := z) (fun x => hz.2 ((trim_nil _).2 (by rw [hz.1]; exact x)))); rw [e1, e2]; exact ⟨rfl, rfl⟩)
         exact ⟨by omega, by assumption⟩)
      | (suffices hz : i = manyS z ∧ trimL (trimR (((catD ((rdB k f b.toNat).take i))).drop z)) = [] by (obtain ⟨e1, e2⟩ := got_0 (k := k) (f := f) (b := b) (e := e) (z := z) (by rw [hln]; exact hreg) (by omega) (by rw [← hz.1]; exact hok) ((trim_nil _).1 (by rw [← hz.1]; exact hz.2)); rw [e1, e2]; exact ⟨by rw [hz.1], rfl⟩)
         exact ⟨by omega, by first | assumption | exact Classical.not_not.1 (by assumption)⟩)
  refine G_skip ?_
  refine G_seq ?_
  refine G_region (l := [0, 1, 2, 3, 4]) rfl ?_
  refine G_val rfl rfl rfl rfl (V_move rfl rfl) ?_
  refine G_val rfl rfl rfl rfl (V_move rfl rfl) ?_
  first
    | refine G_val rfl rfl rfl rfl (V_ssliceHN (hi := _) rfl Tryd.underlying9 rfl rfl rfl (by first | omega | (simp [wCells, kCells, wCells, kCells, wCells, kCells, wCells, kCells]; done) | (simp [wCells, kCells, wCells, kCells, wCells, kCells, wCells, kCells]; omega) | (simp [wCells, kCells, wCells, kCells, wCells, kCells, wCells, kCells] at *; omega))) ?_
    | refine G_val rfl rfl rfl rfl (V_ssliceH rfl Tryd.underlying9 rfl rfl (by first | omega | (simp [wCells, kCells, wCells, kCells, wCells, kCells, wCells, kCells]; done) | (simp [wCells, kCells, wCells, kCells, wCells, kCells, wCells, kCells]; omega) | (simp [wCells, kCells, wCells, kCells, wCells, kCells, wCells, kCells] at *; omega)) (by first | omega | (simp [wCells, kCells, wCells, kCells, wCells, kCells, wCells, kCells]; done) | (simp [wCells, kCells, wCells, kCells, wCells, kCells, wCells, kCells]; omega) | (simp [wCells, kCells, wCells, kCells, wCells, kCells, wCells, kCells] at *; omega))) ?_
  refine G_val rfl rfl rfl rfl (V_assign rfl rfl) ?_
  refine G_val rfl rfl rfl rfl (V_assign rfl rfl) ?_
  refine G_done ?_
  refine G_ret (post := []) Tryd.func21 rfl (RVs_cons (RV_tmp rfl) (RVs_cons (RV_tmp rfl) RVs_nil)) [] rfl ?_
  dsimp only [packed]
  first
    | (suffices hz : ¬ regE n f b e = 0 by (obtain ⟨e1, e2⟩ := got_no (k := k) (f := f) (b := b) (e := e) (z := (z : Int)) (by rw [hln]; exact hz); rw [e1, e2]; exact ⟨by rw [regE_one hz]; try rfl, rfl⟩)
       assumption)
    | (suffices hz : regE n f b e = 0 ∧ b < (manyS z : Int) by (obtain ⟨e1, e2⟩ := got_18 (k := k) (f := f) (b := b) (e := e) (by rw [hln]; exact hz.1) (getOk_small (z := z) (by rw [rdB_len]; omega)); rw [e1, e2]; exact ⟨rfl, rfl⟩)
       exact ⟨by assumption, by omega⟩)
    | (suffices hz : i < manyS z ∧ ¬ (openOk (k.readS (f + (i : Int))) = true ∧ openE (k.readS (f + (i : Int))) = e ∧ openI (k.readS (f + (i : Int))) = i) by (obtain ⟨e1, e2⟩ := got_18 (k := k) (f := f) (b := b) (e := e) (by rw [hln]; exact hreg) (getOk_bad (z := z) (i := i) hz.1 hbg hz.2); rw [e1, e2]; exact ⟨rfl, rfl⟩)
       exact ⟨by omega, by rintro ⟨x1, x2, x3⟩; first | omega | simp_all⟩)
    | (suffices hz : i = manyS z ∧ ¬ trimL (trimR (((catD ((rdB k f b.toNat).take i))).drop z)) = [] by (obtain ⟨e1, e2⟩ := got_18 (k := k) (f := f) (b := b) (e := e) (by rw [hln]; exact hreg) (getOk_rest (z := z) (fun x => hz.2 ((trim_nil _).2 (by rw [hz.1]; exact x)))); rw [e1, e2]; exact ⟨rfl, rfl⟩)
       exact ⟨by omega, by assumption⟩)
    | (suffices hz : i = manyS z ∧ trimL (trimR (((catD ((rdB k f b.toNat).take i))).drop z)) = [] by (obtain ⟨e1, e2⟩ := got_0 (k := k) (f := f) (b := b) (e := e) (z := z) (by rw [hln]; exact hreg) (by omega) (by rw [← hz.1]; exact hok) ((trim_nil _).1 (by rw [← hz.1]; exact hz.2)); rw [e1, e2]; exact ⟨by rw [hz.1], rfl⟩)
       exact ⟨by omega, by first | assumption | exact Classical.not_not.1 (by assumption)⟩)

set_option maxRecDepth 100000 in
set_option maxHeartbeats 1000000 in
theorem sn_get_neg (d n lb lcap : Nat) (lcs : Array Value) (uw : Sl) (k : Dk) (h : DkAt k n lb lcs lcap uw) (f b : Int) (e : Nat) (hf0 : -9223372036854775808 ≤ f) (hf1 : f ≤ 9223372036854775807) (hb0 : -9223372036854775808 ≤ b) (hb1 : b ≤ 9223372036854775807) (he : e < 4294967296) (z : Int) (hzn : z < 0) :
    Ct Tryd.prog 21 [.pointer (some ⟨d, 0, none⟩), .int .i64 f, .int .i64 b, .int .u32 (e : Int), .int .i64 z] [(some d, .cells #[.slice (some ⟨lb, 0, none⟩) n lcap, uw.v k.W.length, .int .i64 k.fuse, .bool k.dead] 110 (0, 0)), (some lb, .cells lcs 9 (0, 0)), (uw.ob, .cells uw.cs 116 uw.fz)] [] fun v post => v = .tuple #[.string (bs (gotT k f b e z)), .int .i64 (gotE k f b e z)] ∧ post = [] := by
 have hq := h.bd
 have hq1 := hq.n1
 have hq2 := hq.n4
 have hq3 := hq.ncs
 have hq4 := hq.ncap
 have hq5 := hq.cap
 have hq6 := hq.w
 have hq7 := hq.wc
 have hln := h.len
 refine ct_of Tryd.func21 rfl rfl (fun w0 => ?_)
 show G _ _ [(0, _), (1, _), (2, _), (3, _), (4, _)] _ _
 refine G_seq ?_
 refine G_region (l := [0, 1]) rfl ?_
 refine G_val rfl rfl rfl rfl (V_assign rfl rfl) ?_
 refine G_val rfl rfl rfl rfl (V_assign rfl rfl) ?_
 refine G_done ?_
 refine G_seq ?_
 refine G_seq ?_
 refine G_region (l := [0, 1, 2, 3, 4, 5]) rfl ?_
 refine G_val rfl rfl rfl rfl (V_move rfl rfl) ?_
 refine G_val rfl rfl rfl rfl (V_move rfl rfl) ?_
 refine G_val rfl rfl rfl rfl (V_move rfl rfl) ?_
 refine G_val rfl rfl rfl rfl (V_move rfl rfl) ?_
 refine G_call (L2 := []) rfl rfl rfl rfl rfl rfl Tryd.call67 (sn_check d n lb lcap lcs uw k h f b e hf0 hf1 hb0 hb1 he) [] [0] rfl rfl ?_
 rintro v post ⟨rfl, rfl⟩
 refine G_val rfl rfl rfl rfl (V_assign rfl rfl) ?_
 refine G_done ?_
 refine G_seq ?_
 refine G_region (l := [0, 1]) rfl ?_
 refine G_val rfl rfl rfl rfl (V_move rfl rfl) ?_
 refine G_val rfl rfl rfl rfl (V_neq rfl rfl rfl) ?_
 refine G_done ?_
 refine G_ifD rfl (fun hc1 => ?_) (fun hc1 => ?_)
 · skip
   refine G_seq ?_
   refine G_region (l := [0, 1, 2]) rfl ?_
   refine G_val rfl rfl rfl rfl (V_move rfl rfl) ?_
   refine G_val rfl rfl rfl rfl (V_assign rfl rfl) ?_
   refine G_val rfl rfl rfl rfl (V_assign rfl rfl) ?_
   refine G_done ?_
   refine G_ret (post := []) Tryd.func21 rfl (RVs_cons (RV_tmp rfl) (RVs_cons (RV_tmp rfl) RVs_nil)) [] rfl ?_
   dsimp only [packed]
   first
     | (suffices hz : ¬ regE n f b e = 0 by (obtain ⟨e1, e2⟩ := got_no (k := k) (f := f) (b := b) (e := e) (z := z) (by rw [hln]; exact hz); rw [e1, e2]; exact ⟨by rw [regE_one hz]; try rfl, rfl⟩)
        assumption)
     | (suffices hz : regE n f b e = 0 by (obtain ⟨e1, e2⟩ := got_18 (k := k) (f := f) (b := b) (e := e) (by rw [hln]; exact hz) (getOk_neg (by omega)); rw [e1, e2]; exact ⟨rfl, rfl⟩)
        assumption)
 refine G_skip ?_
 refine G_seq ?_
 refine G_seq ?_
 have hreg : regE n f b e = 0 := by omega
 refine G_region (l := [0, 1, 2, 3, 4, 5, 6, 7]) rfl ?_
 refine G_val rfl rfl rfl rfl (V_move rfl rfl) ?_
 refine G_val rfl rfl rfl rfl (V_lss rfl rfl rfl) ?_
 refine G_val rfl rfl rfl rfl (V_move rfl rfl) ?_
 refine G_splitD 32 rfl (fun hc2 => ?_) (fun hc2 => ?_)
 rotate_left
 · (first | (exact absurd rfl hc2) | (exact absurd hc2 (by decide)) | (exact absurd (by decide) hc2) | (exfalso; omega))
 refine G_off rfl rfl rfl rfl ?_
 refine G_off rfl rfl rfl rfl ?_
 refine G_off rfl rfl rfl rfl ?_
 refine G_off rfl rfl rfl rfl ?_
 refine G_val rfl rfl rfl rfl (V_pickT rfl rfl rfl) ?_
 refine G_done ?_
 refine G_then rfl ?_
 refine G_seq ?_
 refine G_region (l := [0, 1]) rfl ?_
 refine G_val rfl rfl rfl rfl (V_assign rfl rfl) ?_
 refine G_val rfl rfl rfl rfl (V_assign rfl rfl) ?_
 refine G_done ?_
 refine G_ret (post := []) Tryd.func21 rfl (RVs_cons (RV_tmp rfl) (RVs_cons (RV_tmp rfl) RVs_nil)) [] rfl ?_
 dsimp only [packed]
 first
   | (suffices hz : ¬ regE n f b e = 0 by (obtain ⟨e1, e2⟩ := got_no (k := k) (f := f) (b := b) (e := e) (z := z) (by rw [hln]; exact hz); rw [e1, e2]; exact ⟨by rw [regE_one hz]; try rfl, rfl⟩)
      assumption)
   | (suffices hz : regE n f b e = 0 by (obtain ⟨e1, e2⟩ := got_18 (k := k) (f := f) (b := b) (e := e) (by rw [hln]; exact hz) (getOk_neg (by omega)); rw [e1, e2]; exact ⟨rfl, rfl⟩)
      assumption)


theorem sn_get (d n lb lcap : Nat) (lcs : Array Value) (uw : Sl) (k : Dk) (h : DkAt k n lb lcs lcap uw) (f b : Int) (e : Nat) (hf0 : -9223372036854775808 ≤ f) (hf1 : f ≤ 9223372036854775807) (hb0 : -9223372036854775808 ≤ b) (hb1 : b ≤ 9223372036854775807) (he : e < 4294967296) (z : Int) (hz : z ≤ 9223372036854775807) (hd : k.dead = false) : Ct Tryd.prog 21 [.pointer (some ⟨d, 0, none⟩), .int .i64 f, .int .i64 b, .int .u32 (e : Int), .int .i64 z] [(some d, .cells #[.slice (some ⟨lb, 0, none⟩) n lcap, uw.v k.W.length, .int .i64 k.fuse, .bool k.dead] 110 (0, 0)), (some lb, .cells lcs 9 (0, 0)), (uw.ob, .cells uw.cs 116 uw.fz)] [] (fun v post => v = .tuple #[.string (bs (gotT k f b e z)), .int .i64 (gotE k f b e z)] ∧ post = []) := by
  rcases Int.lt_or_le z 0 with h0 | h0
  · exact sn_get_neg d n lb lcap lcs uw k h f b e hf0 hf1 hb0 hb1 he z h0
  · obtain ⟨m, rfl⟩ := Int.eq_ofNat_of_zero_le h0
    exact sn_getN d n lb lcap lcs uw k h f b e hf0 hf1 hb0 hb1 he m (by omega) hd

set_option maxRecDepth 100000 in
set_option maxHeartbeats 1000000 in
theorem sn_get_nil (x y z w : Value) :
    Ct Tryd.prog 21 [.pointer none, x, y, z, w] [] [] fun v post => v = .tuple #[.string (bs []), .int .i64 19] ∧ post = [] := by
 refine ct_of Tryd.func21 rfl rfl (fun w0 => ?_)
 show G _ _ [(0, _), (1, _), (2, _), (3, _), (4, _)] _ _
 refine G_seq ?_
 refine G_region (l := [0, 1]) rfl ?_
 refine G_val rfl rfl rfl rfl (V_assign rfl rfl) ?_
 refine G_val rfl rfl rfl rfl (V_assign rfl rfl) ?_
 refine G_done ?_
 refine G_seq ?_
 refine G_seq ?_
 refine G_region (l := [0, 1, 2, 3, 4, 5]) rfl ?_
 refine G_val rfl rfl rfl rfl (V_move rfl rfl) ?_
 refine G_val rfl rfl rfl rfl (V_move rfl rfl) ?_
 refine G_val rfl rfl rfl rfl (V_move rfl rfl) ?_
 refine G_val rfl rfl rfl rfl (V_move rfl rfl) ?_
 refine G_call (L2 := []) rfl rfl rfl rfl rfl rfl Tryd.call67 (sn_check_nil _ _ _) [] [] rfl rfl ?_
 rintro v post ⟨rfl, rfl⟩
 refine G_val rfl rfl rfl rfl (V_assign rfl rfl) ?_
 refine G_done ?_
 refine G_seq ?_
 refine G_region (l := [0, 1]) rfl ?_
 refine G_val rfl rfl rfl rfl (V_move rfl rfl) ?_
 refine G_val rfl rfl rfl rfl (V_neq rfl rfl rfl) ?_
 refine G_done ?_
 refine G_ifD rfl (fun hc1 => ?_) (fun hc1 => ?_)
 rotate_left
 · (first | (exact absurd rfl hc1) | (exact absurd hc1 (by decide)) | (exact absurd (by decide) hc1) | (exfalso; omega))
 refine G_seq ?_
 refine G_region (l := [0, 1, 2]) rfl ?_
 refine G_val rfl rfl rfl rfl (V_move rfl rfl) ?_
 refine G_val rfl rfl rfl rfl (V_assign rfl rfl) ?_
 refine G_val rfl rfl rfl rfl (V_assign rfl rfl) ?_
 refine G_done ?_
 refine G_ret (post := []) Tryd.func21 rfl (RVs_cons (RV_tmp rfl) (RVs_cons (RV_tmp rfl) RVs_nil)) [] rfl ?_
 dsimp only [packed]
 exact ⟨rfl, rfl⟩

end
end Go.Proofs.YtbblkgdejgoncaaDoor
