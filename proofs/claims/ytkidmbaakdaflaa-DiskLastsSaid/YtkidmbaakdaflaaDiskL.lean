/- The laws of layer 22: what they have in common. -/
import Derived.Test.YtkidmbaakdaflaaDiskY
import Derived.Test.YtkidmbaakdaflaaLaw3
set_option linter.unusedSimpArgs false
set_option linter.unusedVariables false
namespace Go.Proofs.Ytkidmbaakdaflaa
open Go Go.RowKit

section
theorem infDiskL_3 : Try.prog.info? 3 = some Try.t3 := by kernel_rfl
theorem infDiskL_5 : Try.prog.info? 5 = some Try.t5 := by kernel_rfl
theorem infDiskL_61 : Try.prog.info? 61 = some Try.t61 := by kernel_rfl
theorem plcDiskL_61 : placesOf Try.prog (Try.prog.fieldsOf 61) = some [(0, 1), (1, 1)] := by kernel_rfl


def fillL (c : Int) : List UInt8 := List.replicate 64 (UInt8.ofNat c.toNat)
theorem fillL_len (c : Int) : (fillL c).length = 64 := by simp [fillL]
def fillC (c : Int) (i : Nat) : List Value := List.replicate i (.int .u8 c) ++ List.replicate (64 - i) (.int .u8 0)
theorem fillC_len (c : Int) (i : Nat) (h : i ≤ 64) : (fillC c i).toArray.size = 64 := by simp [fillC]; omega
theorem fillC_next (c : Int) (i : Nat) (h : i < 64) : (fillC c i).toArray.setIfInBounds (0 + i * 1) (.int .u8 c) = (fillC c (i + 1)).toArray := by
  apply Array.toList_inj.1
  rw [Array.toList_setIfInBounds]
  show (fillC c i).set _ _ = fillC c (i + 1)
  unfold fillC
  rw [Nat.mul_one, Nat.zero_add, List.set_append_right _ _ (by simp)]
  rw [List.length_replicate, Nat.sub_self, show 64 - i = (64 - (i + 1)) + 1 by omega, List.replicate_succ, List.set_cons_zero, List.replicate_succ', List.append_assoc]
  rfl
theorem fillC_end (c : Int) (h0 : 0 ≤ c) (h1 : c < 256) : ((fillC c 64).toArray.toList.drop 0).take 64 = bcells (fillL c) := by
  have e : ((UInt8.ofNat c.toNat).toNat : Int) = c := by
    rw [byte_mod c.toNat (by omega)]; omega
  have e2 : bcells (fillL c) = List.replicate 64 (Value.int .u8 c) := by unfold bcells fillL; rw [List.map_replicate, e]
  rw [e2]
  show ((fillC c 64).drop 0).take 64 = _
  simp [fillC]
structure Ac where
  kind : Int
  at_ : Int
  n : Int
  c : Int
  p : Option Addr
  i : Nat
  j : Nat
def acCells (a : Ac) : List Value := [.int .i64 a.kind, .int .i64 a.at_, .int .i64 a.n, .int .u8 a.c, .slice a.p a.i a.j]
theorem ac_len (a : Ac) : (acCells a).length = 5 := rfl
structure AcOk (a : Ac) : Prop where
  at0 : -9223372036854775808 ≤ a.at_
  at1 : a.at_ ≤ 9223372036854775807
  n0 : -9223372036854775808 ≤ a.n
  n1 : a.n ≤ 9223372036854775807
  c0 : 0 ≤ a.c
  c1 : a.c < 256
def textA (c n : Int) : List UInt8 := (fillL c).take (64 - cut64 n)
theorem textA_eq (c n : Int) : (fillL c).take (64 - min (max n 0) 64).toNat = textA c n := by
  unfold textA cut64
  congr 1
  omega
theorem textA_len (c n : Int) : (textA c n).length ≤ 64 := by unfold textA; rw [List.length_take]; omega

set_option maxRecDepth 100000 in
set_option maxHeartbeats 1000000 in
theorem dl_num (n : Int) :
    Ct Try.prog 36 [.int .i64 n] [] [] fun v post => v = .int .i64 n ∧ post = [] := by
 refine ct_of Try.func36 rfl rfl (fun w0 => ?_)
 show G _ _ [(0, _)] _ _
 refine G_seq ?_
 refine G_region (l := [0]) rfl ?_
 refine G_val rfl rfl rfl rfl (V_assign rfl rfl) ?_
 refine G_done ?_
 refine G_seq ?_
 refine G_region (l := [0, 1]) rfl ?_
 refine G_val rfl rfl rfl rfl (V_move rfl rfl) ?_
 refine G_val rfl rfl rfl rfl (V_assign rfl rfl) ?_
 refine G_done ?_
 refine G_ret (post := []) Try.func36 rfl (RVs_cons (RV_tmp rfl) RVs_nil) [] rfl ?_
 dsimp only [packed]
 exact ⟨rfl, rfl⟩

set_option maxRecDepth 100000 in
set_option maxHeartbeats 1000000 in
theorem dl_fill (c : Int) (h0 : 0 ≤ c) (h1 : c < 256) :
    Ct Try.prog 105 [.int .u8 c] [] [] fun v post => v = .string (bs (fillL c)) ∧ post = [] := by
 refine ct_of Try.func105 rfl rfl (fun w0 => ?_)
 show G _ _ [(0, _)] _ _
 refine G_seq ?_
 refine G_region (l := [0]) rfl ?_
 refine G_val rfl rfl rfl rfl (V_assign rfl rfl) ?_
 refine G_done ?_
 refine G_seq ?_
 refine G_region (l := [0, 1]) rfl ?_
 refine G_new rfl rfl rfl rfl (N_make (l := 64) (m := 64) rfl Try.underlying107 infDiskL_5 rfl rfl rfl rfl rfl rfl rfl (by first | decide | omega) (by first | decide | omega) (by first | decide | omega)) (fun b5 => ?_)
 refine G_val rfl rfl rfl rfl (V_assign rfl rfl) ?_
 refine G_done ?_
 refine G_seq ?_
 refine G_seq ?_
 refine G_region (l := [0]) rfl ?_
 refine G_val rfl rfl rfl rfl (V_assign rfl rfl) ?_
 refine G_done ?_
 refine G_block ?_
 refine G_sub ?he3 [0] ?hl3 (G_loop (X := Nat) (fun i => i ≤ 64) (fun i => 64 - i) (fun i => [(0, .int .u8 c), (3, .slice (some ⟨b5, 0, none⟩) 64 64), (4, .int .i64 (i : Int))]) (fun i => [(some b5, .cells (fillC c i).toArray 5 (0, 0))]) ?round3 0 ?h03)
 case he3 => exact (And.intro rfl (And.intro rfl (And.intro rfl trivial)))
 case hl3 => exact ⟨_, rfl⟩
 case h03 => exact Nat.zero_le _
 case round3 =>
  intro i hJ ih
  try dsimp only at hJ ih
  refine G_seq ?_
  refine G_seq ?_
  refine G_region (l := [0, 1]) rfl ?_
  refine G_val rfl rfl rfl rfl (V_move rfl rfl) ?_
  refine G_val rfl rfl rfl rfl (V_lss rfl rfl rfl) ?_
  refine G_done ?_
  refine G_ifD rfl (fun hc1 => ?_) (fun hc1 => ?_)
  · skip
    refine G_skip ?_
    refine G_seq ?_
    refine G_block ?_
    have hsz := fillC_len c i (by omega)
    refine G_region (l := [0, 1, 2, 3, 4]) rfl ?_
    refine G_val rfl rfl rfl rfl (V_move rfl rfl) ?_
    refine G_val rfl rfl rfl rfl (V_move rfl rfl) ?_
    refine G_val rfl rfl rfl rfl (V_move rfl rfl) ?_
    first
      | refine G_val rfl rfl rfl rfl (V_indexAddrN (s := 1) rfl Try.underlying107 infDiskL_5 rfl rfl rfl rfl (by omega)) ?_
      | refine G_val rfl rfl rfl rfl (V_indexAddr (s := 1) rfl Try.underlying107 infDiskL_5 rfl rfl rfl (by omega) (by first | omega | (simp [wCells, kCells, wCells, kCells, wCells, kCells, wCells, kCells]; done) | (simp [wCells, kCells, wCells, kCells, wCells, kCells, wCells, kCells]; omega) | (simp [wCells, kCells, wCells, kCells, wCells, kCells, wCells, kCells] at *; omega))) ?_
    refine G_put (l1 := []) (L' := [_]) rfl rfl rfl rfl (P_store1 rfl rfl rfl (mem_at 0 rfl) (by first | exact of_decide_eq_true rfl | omega | (simp [wCells, kCells, wCells, kCells, wCells, kCells, wCells, kCells]; done) | (simp [wCells, kCells, wCells, kCells, wCells, kCells, wCells, kCells]; omega) | (simp [wCells, kCells, wCells, kCells, wCells, kCells, wCells, kCells] at *; omega)) infDiskL_5 rfl rfl) rfl ?_
    refine G_done ?_
    refine G_inBlock ?_
    rw [fillC_next c i (by omega)]
    refine G_region (l := [0, 1, 2]) rfl ?_
    refine G_val rfl rfl rfl rfl (V_move rfl rfl) ?_
    first
      | refine G_val rfl rfl rfl rfl ((V_add rfl rfl rfl).int (wrap_i64 (by omega))) ?_
      | refine G_val rfl rfl rfl rfl (V_add rfl rfl rfl) ?_
    refine G_val rfl rfl rfl rfl (V_assign rfl rfl) ?_
    refine G_done ?_
    refine G_sub ?_ [0] ?_ (ih (i + 1) ?_ ?_)
    · (refine (And.intro ?_ (And.intro ?_ (And.intro ?_ trivial))) <;> first | rfl | exact slot_int (by omega) | exact slot_int (by simp))
    · exact ⟨_, rfl⟩
    · omega
    · (first | omega | (dsimp only; omega))
  refine G_exit rfl ?_
  refine G_seq ?_
  obtain rfl : i = 64 := by omega
  refine G_region (l := [0, 1, 2]) rfl ?_
  refine G_val rfl rfl rfl rfl (V_move rfl rfl) ?_
  refine G_val rfl rfl rfl rfl (V_bytesS (l := fillL c) rfl rfl Try.underlying107 Try.underlying5 Try.underlying9 (mem_at 0 rfl) (fillL_len c) (fillC_end c h0 h1)) ?_
  refine G_val rfl rfl rfl rfl (V_assign rfl rfl) ?_
  refine G_done ?_
  refine G_ret (post := []) Try.func105 rfl (RVs_cons (RV_tmp rfl) RVs_nil) [] rfl ?_
  dsimp only [packed]
  exact ⟨rfl, rfl⟩

set_option maxRecDepth 100000 in
set_option maxHeartbeats 1000000 in
theorem dl_text (a : Ac) (h : AcOk a) :
    Ct Try.prog 44 [.agg (acCells a).toArray] [] [] fun v post => v = .string (bs (textA a.c a.n)) ∧ post = [] := by
 have h1 := h.n0
 have h2 := h.n1
 have h3 := h.c0
 have h4 := h.c1
 have h5 := fillL_len a.c
 refine ct_of Try.func44 rfl rfl (fun w0 => ?_)
 show G _ _ [(0, _)] _ _
 refine G_seq ?_
 refine G_region (l := [0, 1]) rfl ?_
 refine G_new rfl rfl rfl rfl (N_boxA rfl rfl) (fun b1 => ?_)
 refine G_val rfl rfl rfl rfl (V_assign rfl rfl) ?_
 refine G_done ?_
 refine G_seq ?_
 refine GH_start (Lq := [_]) (isq := [0]) (m := 10) mixedK rfl rfl ?_
 refine GH_take 0 rfl rfl rfl rfl (by kernel_rfl) (by kernel_rfl) (by kernel_rfl) (fun _ _ => (V_fieldAddr (fo := 3) rfl Try.underlying67 rfl infDiskL_5 rfl rfl rfl)) ?_
 refine GH_take 1 rfl rfl rfl rfl (by kernel_rfl) (by kernel_rfl) (by kernel_rfl) (fun _ _ => (V_load1 rfl rfl (mem_at 0 rfl) rfl Try.underlying5 rfl)) ?_
 refine GH_take 3 rfl rfl rfl rfl (by kernel_rfl) (by kernel_rfl) (by kernel_rfl) (fun _ _ => (V_fieldAddr (fo := 2) rfl Try.underlying67 rfl infDiskL_3 rfl rfl rfl)) ?_
 refine GH_take 4 rfl rfl rfl rfl (by kernel_rfl) (by kernel_rfl) (by kernel_rfl) (fun _ _ => (V_load1 rfl rfl (mem_at 0 rfl) rfl Try.underlying3 rfl)) ?_
 refine GH_take 5 rfl rfl rfl rfl (by kernel_rfl) (by kernel_rfl) (by kernel_rfl) (fun _ _ => (V_max rfl rfl rfl)) ?_
 refine GH_take 6 rfl rfl rfl rfl (by kernel_rfl) (by kernel_rfl) (by kernel_rfl) (fun _ _ => (V_min rfl rfl rfl)) ?_
 first
   | refine GH_take 7 rfl rfl rfl rfl (by kernel_rfl) (by kernel_rfl) (by kernel_rfl) (fun _ _ => ((V_sub rfl rfl rfl).int (wrap_i64 (by omega)))) ?_
   | refine GH_take 7 rfl rfl rfl rfl (by kernel_rfl) (by kernel_rfl) (by kernel_rfl) (fun _ _ => (V_sub rfl rfl rfl)) ?_
 refine GH_all [2] (by kernel_rfl) (by decide) ?_
 refine (And.intro ?_ trivial)
 · skip
   refine GHop_call (L2 := [_]) rfl rfl rfl rfl rfl rfl Try.call105 (dl_fill _ (by omega) (by omega)) [] [] rfl rfl [0] (by rintro v post ⟨rfl, rfl⟩; exact ⟨_, rfl⟩) ?_
   rintro v post ⟨rfl, rfl⟩
   show GH _ _ _ _ _ _ _ [_] _
   first
     | refine GH_take 8 rfl rfl rfl rfl (by kernel_rfl) (by kernel_rfl) (by kernel_rfl) (fun _ _ => (V_ssliceHN (hi := _) rfl Try.underlying9 rfl rfl rfl (by first | omega | (simp [wCells, kCells, wCells, kCells, wCells, kCells, wCells, kCells]; done) | (simp [wCells, kCells, wCells, kCells, wCells, kCells, wCells, kCells]; omega) | (simp [wCells, kCells, wCells, kCells, wCells, kCells, wCells, kCells] at *; omega)))) ?_
     | refine GH_take 8 rfl rfl rfl rfl (by kernel_rfl) (by kernel_rfl) (by kernel_rfl) (fun _ _ => (V_ssliceH rfl Try.underlying9 rfl rfl (by first | omega | (simp [wCells, kCells, wCells, kCells, wCells, kCells, wCells, kCells]; done) | (simp [wCells, kCells, wCells, kCells, wCells, kCells, wCells, kCells]; omega) | (simp [wCells, kCells, wCells, kCells, wCells, kCells, wCells, kCells] at *; omega)) (by first | omega | (simp [wCells, kCells, wCells, kCells, wCells, kCells, wCells, kCells]; done) | (simp [wCells, kCells, wCells, kCells, wCells, kCells, wCells, kCells]; omega) | (simp [wCells, kCells, wCells, kCells, wCells, kCells, wCells, kCells] at *; omega)))) ?_
   refine GH_take 9 rfl rfl rfl rfl (by kernel_rfl) (by kernel_rfl) (by kernel_rfl) (fun _ _ => (V_assign rfl rfl)) ?_
   refine GH_done (by kernel_rfl) ?_
   refine G_ret (post := []) Try.func44 rfl (RVs_cons (RV_tmp rfl) RVs_nil) [] rfl ?_
   dsimp only [packed]
   rw [← textA_eq]; exact ⟨rfl, rfl⟩


def lvA : Dk := newD 2
def lvB : Dk := lvA.write 1 (fillL 120)
def lvC : Dk := lvB.crash [(0, 3)]
theorem lv1 : lvA.writeE 1 (fillL 120) = 0 := by decide
theorem lv2 : lvB.liesS 1 = fillL 0 ∧ hasE lvB.L.length 1 = 0 := by decide
theorem lv3 : lvC.readS 1 = [120, 120, 120] ++ (fillL 0).drop 3 ∧ lvC.readE 1 = 0 := by decide
theorem sees_one (b : Nat) (x : Int × Int) : Sees 2 (some b) 0 1 (kCells x).toArray ([x].flatMap kCells) [x].length := ⟨rfl, Nat.le_refl _, by omega, rfl, fun h => by cases h⟩

set_option maxRecDepth 100000 in
set_option maxHeartbeats 1000000 in
theorem dl_live  :
    Ct Try.prog 31 [] [] [] fun v post => v = .bool true ∧ post = [] := by
 have hf0 : (fillL 0).length = 64 := fillL_len 0
 refine ct_of Try.func31 rfl rfl (fun w0 => ?_)
 show G _ _ [] _ _
 refine G_seq ?_
 refine G_region (l := [0]) rfl ?_
 refine G_val rfl rfl rfl rfl (V_assign rfl rfl) ?_
 refine G_done ?_
 refine G_seq ?_
 refine G_region (l := [0, 1, 2, 3, 4, 5]) rfl ?_
 refine G_call (L2 := []) rfl rfl rfl rfl rfl rfl Try.call32 (dk_new 2 (by omega) (by omega)) [] [] rfl rfl ?_
 rintro v post ⟨d, lb, lcap, lcs, rfl, h0, rfl⟩
 show G _ _ _ [_, _, _] _
 refine G_val rfl rfl rfl rfl (V_move rfl rfl) ?_
 refine G_val rfl rfl rfl rfl (V_extract rfl rfl rfl) ?_
 refine G_val rfl rfl rfl rfl (V_extract rfl rfl rfl) ?_
 refine G_val rfl rfl rfl rfl (V_assign rfl rfl) ?_
 refine G_val rfl rfl rfl rfl (V_assign rfl rfl) ?_
 refine G_done ?_
 refine G_seq ?_
 refine G_region (l := [0, 1, 2, 3]) rfl ?_
 refine G_val rfl rfl rfl rfl (V_move rfl rfl) ?_
 refine G_call (L2 := [_, _, _]) rfl rfl rfl rfl rfl rfl Try.call105 (dl_fill _ (by omega) (by omega)) [] [] rfl rfl ?_
 rintro v post ⟨rfl, rfl⟩
 show G _ _ _ [_, _, _] _
 refine G_call (L2 := []) rfl rfl rfl rfl rfl rfl Try.call43 ((dk_write d 2 lb lcap lcs slNil lvA h0 1 (fillL 120) (by decide)).weaken (fun v post h => by rw [lv1] at h; exact h)) [0, 0, 0] [] rfl rfl ?_
 rintro v post ⟨rfl, lcs1, uw1, h1, rfl⟩
 show G _ _ _ [_, _, _] _
 refine G_val rfl rfl rfl rfl (V_assign rfl rfl) ?_
 refine G_done ?_
 refine G_seq ?_
 refine G_region (l := [0, 1, 2, 3, 4, 5, 6]) rfl ?_
 refine G_val rfl rfl rfl rfl (V_move rfl rfl) ?_
 refine G_call (L2 := [_, _, _]) rfl rfl rfl rfl rfl rfl Try.call41 ((dk_lies d 2 lb lcap lcs1 uw1 lvB h1 1).weaken (fun v post h => by rw [lv2.1, lv2.2] at h; exact h)) [] [0, 1] rfl rfl ?_
 rintro v post ⟨rfl, rfl⟩
 show G _ _ _ [_, _, _] _
 refine G_val rfl rfl rfl rfl (V_move rfl rfl) ?_
 refine G_val rfl rfl rfl rfl (V_extract rfl rfl rfl) ?_
 refine G_val rfl rfl rfl rfl (V_extract rfl rfl rfl) ?_
 refine G_val rfl rfl rfl rfl (V_assign rfl rfl) ?_
 refine G_val rfl rfl rfl rfl (V_assign rfl rfl) ?_
 refine G_done ?_
 refine G_seq ?_
 refine G_region (l := [0, 1, 2, 3, 4]) rfl ?_
 refine G_val rfl rfl rfl rfl (V_move rfl rfl) ?_
 refine G_val rfl rfl rfl rfl (V_buildS (cs := [_, _]) rfl Try.underlying61 infDiskL_61 rfl plcDiskL_61 rfl rfl rfl) ?_
 refine G_new rfl rfl rfl rfl (N_buildAll (s := 2) (cs := [_, _]) rfl Try.underlying50 infDiskL_61 rfl rfl rfl rfl rfl rfl rfl rfl rfl) (fun b23 => ?_)
 refine G_call (L2 := [_]) rfl rfl rfl rfl rfl rfl Try.call38 (dk_crash d 2 lb lcap lcs1 uw1 lvB h1 (some b23) 0 1 _ _ _ [(0, 3)] (sees_one b23 (0, 3))) [1, 1, 1] [0] rfl rfl ?_
 rintro v post ⟨rfl, lcs2, h2, rfl⟩
 show G _ _ _ [_, _, _, _] _
 refine G_val rfl rfl rfl rfl (V_assign rfl rfl) ?_
 refine G_done ?_
 refine G_seq ?_
 refine G_region (l := [0, 1, 2, 3, 4, 5, 6]) rfl ?_
 refine G_val rfl rfl rfl rfl (V_move rfl rfl) ?_
 refine G_call (L2 := [_, _, _, _]) rfl rfl rfl rfl rfl rfl Try.call40 ((dk_read d 2 lb lcap lcs2 slNil lvC h2 1).weaken (fun v post h => by rw [lv3.1, lv3.2] at h; exact h)) [] [0, 1, 2] rfl rfl ?_
 rintro v post ⟨rfl, rfl⟩
 show G _ _ _ [_, _, _, _] _
 refine G_val rfl rfl rfl rfl (V_move rfl rfl) ?_
 refine G_val rfl rfl rfl rfl (V_extract rfl rfl rfl) ?_
 refine G_val rfl rfl rfl rfl (V_extract rfl rfl rfl) ?_
 refine G_val rfl rfl rfl rfl (V_assign rfl rfl) ?_
 refine G_val rfl rfl rfl rfl (V_assign rfl rfl) ?_
 refine G_done ?_
 refine G_seq ?_
 refine G_region (l := [0, 1, 2, 3, 4, 5, 6, 7, 8, 9, 10, 11, 12, 13, 14, 15, 16, 17, 18, 19, 20, 21, 22, 23, 24, 25, 26, 27, 28, 29]) rfl ?_
 refine G_val rfl rfl rfl rfl (V_move rfl rfl) ?_
 refine G_val rfl rfl rfl rfl (V_pneqN rfl Try.underlying52 rfl rfl) ?_
 refine G_val rfl rfl rfl rfl (V_move rfl rfl) ?_
 refine G_split 32 rfl (fun hc1 => ?_) (fun hc1 => ?_)
 rotate_left
 · (first | (exact absurd rfl hc1) | (simp at hc1; done) | (exfalso; omega))
 refine G_val rfl rfl rfl rfl (V_move rfl rfl) ?_
 refine G_call (L2 := [_, _, _, _]) rfl rfl rfl rfl rfl rfl Try.call36 (dl_num _) [] [] rfl rfl ?_
 rintro v post ⟨rfl, rfl⟩
 show G _ _ _ [_, _, _, _] _
 refine G_val rfl rfl rfl rfl (V_eql rfl rfl rfl) ?_
 refine G_val rfl rfl rfl rfl (V_pickT rfl rfl rfl) ?_
 refine G_val rfl rfl rfl rfl (V_move rfl rfl) ?_
 refine G_splitD 37 rfl (fun hc2 => ?_) (fun hc2 => ?_)
 rotate_left
 · (first | (exact absurd rfl hc2) | (simp at hc2; done) | (exfalso; omega))
 refine G_val rfl rfl rfl rfl (V_move rfl rfl) ?_
 refine G_call (L2 := [_, _, _, _]) rfl rfl rfl rfl rfl rfl Try.call36 (dl_num _) [] [] rfl rfl ?_
 rintro v post ⟨rfl, rfl⟩
 show G _ _ _ [_, _, _, _] _
 refine G_val rfl rfl rfl rfl (V_eql rfl rfl rfl) ?_
 refine G_val rfl rfl rfl rfl (V_pickT rfl rfl rfl) ?_
 refine G_val rfl rfl rfl rfl (V_move rfl rfl) ?_
 refine G_splitD 42 rfl (fun hc3 => ?_) (fun hc3 => ?_)
 rotate_left
 · (first | (exact absurd rfl hc3) | (simp at hc3; done) | (exfalso; omega))
 refine G_val rfl rfl rfl rfl (V_move rfl rfl) ?_
 refine G_call (L2 := [_, _, _, _]) rfl rfl rfl rfl rfl rfl Try.call36 (dl_num _) [] [] rfl rfl ?_
 rintro v post ⟨rfl, rfl⟩
 show G _ _ _ [_, _, _, _] _
 refine G_val rfl rfl rfl rfl (V_eql rfl rfl rfl) ?_
 refine G_val rfl rfl rfl rfl (V_pickT rfl rfl rfl) ?_
 refine G_val rfl rfl rfl rfl (V_move rfl rfl) ?_
 refine G_splitD 47 rfl (fun hc4 => ?_) (fun hc4 => ?_)
 rotate_left
 · (first | (exact absurd rfl hc4) | (simp at hc4; done) | (exfalso; omega))
 refine G_val rfl rfl rfl rfl (V_move rfl rfl) ?_
 refine G_call (L2 := [_, _, _, _]) rfl rfl rfl rfl rfl rfl Try.call105 (dl_fill _ (by omega) (by omega)) [] [] rfl rfl ?_
 rintro v post ⟨rfl, rfl⟩
 show G _ _ _ [_, _, _, _] _
 refine G_val rfl rfl rfl rfl (V_seql rfl rfl rfl) ?_
 refine G_val rfl rfl rfl rfl (V_pickT rfl rfl rfl) ?_
 refine G_val rfl rfl rfl rfl (V_move rfl rfl) ?_
 refine G_splitD 52 rfl (fun hc5 => ?_) (fun hc5 => ?_)
 rotate_left
 · (first | (exact absurd rfl hc5) | (simp at hc5; done) | (exfalso; omega))
 refine G_val rfl rfl rfl rfl (V_move rfl rfl) ?_
 refine G_call (L2 := [_, _, _, _]) rfl rfl rfl rfl rfl rfl Try.call105 (dl_fill _ (by omega) (by omega)) [] [] rfl rfl ?_
 rintro v post ⟨rfl, rfl⟩
 show G _ _ _ [_, _, _, _] _
 first
   | refine G_val rfl rfl rfl rfl (V_ssliceLN (lo := 3) rfl Try.underlying9 rfl rfl rfl (by first | omega | (simp [wCells, kCells, wCells, kCells, wCells, kCells, wCells, kCells]; done) | (simp [wCells, kCells, wCells, kCells, wCells, kCells, wCells, kCells]; omega) | (simp [wCells, kCells, wCells, kCells, wCells, kCells, wCells, kCells] at *; omega))) ?_
   | refine G_val rfl rfl rfl rfl (V_ssliceL rfl Try.underlying9 rfl rfl (by first | omega | (simp [wCells, kCells, wCells, kCells, wCells, kCells, wCells, kCells]; done) | (simp [wCells, kCells, wCells, kCells, wCells, kCells, wCells, kCells]; omega) | (simp [wCells, kCells, wCells, kCells, wCells, kCells, wCells, kCells] at *; omega)) (by first | omega | (simp [wCells, kCells, wCells, kCells, wCells, kCells, wCells, kCells]; done) | (simp [wCells, kCells, wCells, kCells, wCells, kCells, wCells, kCells]; omega) | (simp [wCells, kCells, wCells, kCells, wCells, kCells, wCells, kCells] at *; omega))) ?_
 refine G_val rfl rfl rfl rfl (V_sadd rfl rfl rfl (by first | omega | (simp [wCells, kCells, wCells, kCells, wCells, kCells, wCells, kCells]; done) | (simp [wCells, kCells, wCells, kCells, wCells, kCells, wCells, kCells]; omega) | (simp [wCells, kCells, wCells, kCells, wCells, kCells, wCells, kCells] at *; omega))) ?_
 refine G_val rfl rfl rfl rfl (V_seql rfl rfl rfl) ?_
 refine G_val rfl rfl rfl rfl (V_pickT rfl rfl rfl) ?_
 refine G_val rfl rfl rfl rfl (V_assign rfl rfl) ?_
 refine G_done ?_
 refine G_ret (post := []) Try.func31 rfl (RVs_cons (RV_tmp rfl) RVs_nil) [] rfl ?_
 dsimp only [packed]
 exact ⟨rfl, rfl⟩

end
end Go.Proofs.Ytkidmbaakdaflaa
