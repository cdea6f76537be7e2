/- Numbers in tens: strconv.Itoa by the shelf's contract, and the document's numbers in tens. -/
import Derived.Test.YtkekkalgebgokaaDoorTellW
import Derived.Shelf.Strconv.Itoa3
set_option linter.unusedSimpArgs false
set_option linter.unusedVariables false
namespace Go.Proofs.YtkekkalgebgokaaDoor
open Go Go.Shelf Go.RowKit

section



def renN : Ren := ⟨fun x => match x with | 171 => 55 | 243 => 66 | 246 => 75 | 283 => 62 | 284 => 63 | 285 => 64 | 286 => 65 | 129 => 71 | 317 => 70 | 318 => 72 | 319 => 73 | 320 => 74 | 337 => 76 | 338 => 77 | n => n, fun x => match x with | 3 => 3 | 9 => 9 | 2 => 2 | 4 => 4 | 171 => 130 | 0 => 0 | 53 => 32 | 37 => 55 | 5 => 5 | 173 => 133 | 212 => 142 | 51 => 143 | 20 => 20 | 213 => 144 | 46 => 64 | 232 => 149 | 233 => 150 | n => n, fun x => match x with | 17 => 0 | 18 => 2 | 19 => 3 | n => n⟩
set_option maxRecDepth 100000 in
theorem laysN : LaysM.n171 Tryd.prog renN := { mixed := mixedK, f129 := by first | kernel_rfl | rfl, f171 := by first | kernel_rfl | rfl, f243 := by first | kernel_rfl | rfl, f246 := by first | kernel_rfl | rfl, f283 := by first | kernel_rfl | rfl, f284 := by first | kernel_rfl | rfl, f285 := by first | kernel_rfl | rfl, f286 := by first | kernel_rfl | rfl, f317 := by first | kernel_rfl | rfl, f318 := by first | kernel_rfl | rfl, f319 := by first | kernel_rfl | rfl, f320 := by first | kernel_rfl | rfl, f337 := by first | kernel_rfl | rfl, f338 := by first | kernel_rfl | rfl, t0 := by first | exact Tryd.underlying0 | exact fun w => rfl | kernel_rfl, a0 := by first | exact Tryd.isAgg0 | exact fun w => rfl | kernel_rfl, z0 := by first | exact Tryd.sizeOf0 | exact fun w => rfl | kernel_rfl, v0 := by first | exact Tryd.zeroValue0 | exact fun w => rfl | kernel_rfl, t2 := by first | exact Tryd.underlying2 | exact fun w => rfl | kernel_rfl, a2 := by first | exact Tryd.isAgg2 | exact fun w => rfl | kernel_rfl, z2 := by first | exact Tryd.sizeOf2 | exact fun w => rfl | kernel_rfl, v2 := by first | exact Tryd.zeroValue2 | exact fun w => rfl | kernel_rfl, t3 := by first | exact Tryd.underlying3 | exact fun w => rfl | kernel_rfl, a3 := by first | exact Tryd.isAgg3 | exact fun w => rfl | kernel_rfl, z3 := by first | exact Tryd.sizeOf3 | exact fun w => rfl | kernel_rfl, v3 := by first | exact Tryd.zeroValue3 | exact fun w => rfl | kernel_rfl, t4 := by first | exact Tryd.underlying4 | exact fun w => rfl | kernel_rfl, a4 := by first | exact Tryd.isAgg4 | exact fun w => rfl | kernel_rfl, z4 := by first | exact Tryd.sizeOf4 | exact fun w => rfl | kernel_rfl, v4 := by first | exact Tryd.zeroValue4 | exact fun w => rfl | kernel_rfl, t5 := by first | exact Tryd.underlying5 | exact fun w => rfl | kernel_rfl, a5 := by first | exact Tryd.isAgg5 | exact fun w => rfl | kernel_rfl, z5 := by first | exact Tryd.sizeOf5 | exact fun w => rfl | kernel_rfl, v5 := by first | exact Tryd.zeroValue5 | exact fun w => rfl | kernel_rfl, t9 := by first | exact Tryd.underlying9 | exact fun w => rfl | kernel_rfl, a9 := by first | exact Tryd.isAgg9 | exact fun w => rfl | kernel_rfl, z9 := by first | exact Tryd.sizeOf9 | exact fun w => rfl | kernel_rfl, v9 := by first | exact Tryd.zeroValue9 | exact fun w => rfl | kernel_rfl, t20 := by first | exact Tryd.underlying20 | exact fun w => rfl | kernel_rfl, a20 := by first | exact Tryd.isAgg20 | exact fun w => rfl | kernel_rfl, z20 := by first | exact Tryd.sizeOf20 | exact fun w => rfl | kernel_rfl, v20 := by first | exact Tryd.zeroValue20 | exact fun w => rfl | kernel_rfl, t37 := by first | exact Tryd.underlying55 | exact fun w => rfl | kernel_rfl, a37 := by first | exact Tryd.isAgg55 | exact fun w => rfl | kernel_rfl, z37 := by first | exact Tryd.sizeOf55 | exact fun w => rfl | kernel_rfl, v37 := by first | exact Tryd.zeroValue55 | exact fun w => rfl | kernel_rfl, t46 := by first | exact Tryd.underlying64 | exact fun w => rfl | kernel_rfl, a46 := by first | exact Tryd.isAgg64 | exact fun w => rfl | kernel_rfl, z46 := by first | exact Tryd.sizeOf64 | exact fun w => rfl | kernel_rfl, v46 := by first | exact Tryd.zeroValue64 | exact fun w => rfl | kernel_rfl, t51 := by first | exact Tryd.underlying143 | exact fun w => rfl | kernel_rfl, a51 := by first | exact Tryd.isAgg143 | exact fun w => rfl | kernel_rfl, z51 := by first | exact Tryd.sizeOf143 | exact fun w => rfl | kernel_rfl, v51 := by first | exact Tryd.zeroValue143 | exact fun w => rfl | kernel_rfl, t53 := by first | exact Tryd.underlying32 | exact fun w => rfl | kernel_rfl, a53 := by first | exact Tryd.isAgg32 | exact fun w => rfl | kernel_rfl, z53 := by first | exact Tryd.sizeOf32 | exact fun w => rfl | kernel_rfl, v53 := by first | exact Tryd.zeroValue32 | exact fun w => rfl | kernel_rfl, t171 := by first | exact Tryd.underlying130 | exact fun w => rfl | kernel_rfl, a171 := by first | exact Tryd.isAgg130 | exact fun w => rfl | kernel_rfl, z171 := by first | exact Tryd.sizeOf130 | exact fun w => rfl | kernel_rfl, v171 := by first | exact Tryd.zeroValue130 | exact fun w => rfl | kernel_rfl, t173 := by first | exact Tryd.underlying133 | exact fun w => rfl | kernel_rfl, a173 := by first | exact Tryd.isAgg133 | exact fun w => rfl | kernel_rfl, z173 := by first | exact Tryd.sizeOf133 | exact fun w => rfl | kernel_rfl, v173 := by first | exact Tryd.zeroValue133 | exact fun w => rfl | kernel_rfl, t212 := by first | exact Tryd.underlying142 | exact fun w => rfl | kernel_rfl, a212 := by first | exact Tryd.isAgg142 | exact fun w => rfl | kernel_rfl, z212 := by first | exact Tryd.sizeOf142 | exact fun w => rfl | kernel_rfl, v212 := by first | exact Tryd.zeroValue142 | exact fun w => rfl | kernel_rfl, t213 := by first | exact Tryd.underlying144 | exact fun w => rfl | kernel_rfl, a213 := by first | exact Tryd.isAgg144 | exact fun w => rfl | kernel_rfl, z213 := by first | exact Tryd.sizeOf144 | exact fun w => rfl | kernel_rfl, t232 := by first | exact Tryd.underlying149 | exact fun w => rfl | kernel_rfl, a232 := by first | exact Tryd.isAgg149 | exact fun w => rfl | kernel_rfl, z232 := by first | exact Tryd.sizeOf149 | exact fun w => rfl | kernel_rfl, v232 := by first | exact Tryd.zeroValue149 | exact fun w => rfl | kernel_rfl, t233 := by first | exact Tryd.underlying150 | exact fun w => rfl | kernel_rfl, a233 := by first | exact Tryd.isAgg150 | exact fun w => rfl | kernel_rfl, z233 := by first | exact Tryd.sizeOf150 | exact fun w => rfl | kernel_rfl, v233 := by first | exact Tryd.zeroValue150 | exact fun w => rfl | kernel_rfl, g17 := by first | kernel_rfl | rfl, g18 := by first | kernel_rfl | rfl, g19 := by first | kernel_rfl | rfl, i0 := by first | kernel_rfl | rfl, i2 := by first | kernel_rfl | rfl, i3 := by first | kernel_rfl | rfl, i4 := by first | kernel_rfl | rfl, i5 := by first | kernel_rfl | rfl, i9 := by first | kernel_rfl | rfl, i20 := by first | kernel_rfl | rfl, i37 := by first | kernel_rfl | rfl, i46 := by first | kernel_rfl | rfl, i51 := by first | kernel_rfl | rfl, i53 := by first | kernel_rfl | rfl, i171 := by first | kernel_rfl | rfl, i173 := by first | kernel_rfl | rfl, i212 := by first | kernel_rfl | rfl, i232 := by first | kernel_rfl | rfl, i233 := by first | kernel_rfl | rfl, m17 := by first | kernel_rfl | rfl, m18 := by first | kernel_rfl | rfl, m19 := by first | kernel_rfl | rfl }


def powC : Array Value := (Lib.pow10Tab.map fun z => Value.int .u64 z).toArray
theorem tab_of {w : World} {T : TypeId} {fr : Nat × Nat} (h : w.heap[0]? = some (.cells powC T fr)) : Lib.TabIs Tryd.prog w "internal/strconv.uint64pow10" .u64 Lib.pow10Tab := by
  unfold Lib.TabIs World.var?
  rw [show Tryd.prog.globalNamed "internal/strconv.uint64pow10" = some 0 from laysN.m17, Option.bind_some, h]
  rfl
theorem chg_grow (w : World) (k : Nat) (os : Array Obj) : Chg w [] (Sort.grow (w.drewN k) os) :=
  ⟨rfl, rfl, rfl, by rw [Sort.size_grow]; exact Nat.le_add_right _ _, fun j hj _ => by show (w.heap ++ os)[j]? = _; rw [Array.getElem?_append_left hj]⟩
theorem tl_itoa (x : Int) (h0 : -9223372036854775808 ≤ x) (h1 : x ≤ 9223372036854775807) (T : TypeId) (fr : Nat × Nat) : Ct Tryd.prog 55 [.int .i64 x] [(some 0, .cells powC T fr)] [] (fun v post => v = .string (bs (Lib.itoa x)) ∧ post = []) := fun w0 hw => by
  have h := Any.strconv_Itoa laysN x h0 h1 w0 (tab_of (T := T) (fr := fr) (hw.liesA 0 _ (List.mem_singleton.2 rfl)))
  refine Calls.mono h ?_
  rintro e w' ⟨he, k, os, hw'⟩
  refine ⟨_, [], he, ⟨rfl, rfl⟩, has_nil _, fun _ _ h => (by cases h), ?_⟩
  subst hw'
  exact chg_grow w0 k os

set_option maxRecDepth 100000 in
set_option maxHeartbeats 1000000 in
theorem tl_num (x : Int) (h0 : -9223372036854775808 ≤ x) (h1 : x ≤ 9223372036854775807) (T0 : TypeId) (r0 : Nat × Nat) :
    Ct Tryd.prog 40 [.int .i64 x] [(some 0, .cells powC T0 r0)] [] fun v post => v = .string (bs (Lib.itoa x)) ∧ post = [] := by
 refine ct_of Tryd.func40 rfl rfl (fun w0 => ?_)
 show G _ _ [(0, _)] _ _
 refine G_seq ?_
 refine G_region (l := [0]) rfl ?_
 refine G_val rfl rfl rfl rfl (V_assign rfl rfl) ?_
 refine G_done ?_
 refine G_seq ?_
 refine G_region (l := [0, 1, 2]) rfl ?_
 refine G_val rfl rfl rfl rfl (V_move rfl rfl) ?_
 refine G_call (L2 := []) rfl rfl rfl rfl rfl rfl Tryd.call55 (tl_itoa x h0 h1 T0 r0) [] [0] rfl rfl ?_
 rintro v post ⟨rfl, rfl⟩
 refine G_val rfl rfl rfl rfl (V_assign rfl rfl) ?_
 refine G_done ?_
 refine G_ret (post := []) Tryd.func40 rfl (RVs_cons (RV_tmp rfl) RVs_nil) [] rfl ?_
 dsimp only [packed]
 exact ⟨rfl, rfl⟩


def decInit (v : Nat) : List UInt8 := if v < 10 then [] else Lib.decDigits (v / 10)
theorem dec_split (v : Nat) : Lib.decDigits v = decInit v ++ [UInt8.ofNat (48 + v % 10)] := by
  unfold decInit
  by_cases h : v < 10
  · rw [if_pos h, Lib.decDigits, dif_pos h, Nat.mod_eq_of_lt h]; rfl
  · rw [if_neg h, Lib.decDigits, dif_neg h]
theorem dec_step {v : Nat} (h : 10 ≤ v) (r : List UInt8) : decInit v ++ r = decInit (v / 10) ++ ([UInt8.ofNat (48 + v / 10 % 10)] ++ r) := by
  rw [← List.append_assoc, ← dec_split]
  unfold decInit; rw [if_neg (by omega)]
theorem dec_end {v : Nat} (h : v < 10) (r : List UInt8) : decInit v ++ r = r := by unfold decInit; rw [if_pos h]; rfl
theorem dec_len : ∀ (n v : Nat), v < 10 ^ (n + 1) → (Lib.decDigits v).length ≤ n + 1
  | 0, v, h => by rw [Lib.decDigits, dif_pos (by omega)]; simp
  | n + 1, v, h => by
    by_cases h1 : v < 10
    · rw [Lib.decDigits, dif_pos h1]; simp
    · rw [Lib.decDigits, dif_neg h1, List.length_append]
      have := dec_len n (v / 10) (by rw [Nat.div_lt_iff_lt_mul (by omega)]; rw [Nat.pow_succ] at h; exact h)
      simp; omega
theorem dec_len20 {v : Nat} (h : v < 18446744073709551616) : (Lib.decDigits v).length ≤ 20 := dec_len 19 v (by omega)
theorem itoa_len {x : Int} (h0 : -9223372036854775808 ≤ x) (h1 : x ≤ 9223372036854775807) : (Lib.itoa x).length ≤ 21 := by
  unfold Lib.itoa
  split
  · have := dec_len20 (v := x.natAbs) (by omega); simp; omega
  · have := dec_len20 (v := x.toNat) (by omega); omega
theorem dig_cut {k : Nat} (h : k < 10) : (([48, 49, 50, 51, 52, 53, 54, 55, 56, 57] : List UInt8).take (k + 1)).drop k = [UInt8.ofNat (48 + k)] := by
  have key : ∀ k < 10, (([48, 49, 50, 51, 52, 53, 54, 55, 56, 57] : List UInt8).take (k + 1)).drop k = [UInt8.ofNat (48 + k)] := by decide
  exact key k h

set_option maxRecDepth 100000 in
set_option maxHeartbeats 1000000 in
theorem rt_tens (v : Nat) (hv : v < 18446744073709551616) :
    Ct Tryd.prog 42 [.int .u64 (v : Int)] [] [] fun v_ post => v_ = .string (bs (Lib.decDigits v)) ∧ post = [] := by
 have hd := dec_len20 hv
 refine ct_of Tryd.func42 rfl rfl (fun w0 => ?_)
 show G _ _ [(0, _)] _ _
 refine G_seq ?_
 refine G_region (l := [0]) rfl ?_
 refine G_val rfl rfl rfl rfl (V_assign rfl rfl) ?_
 refine G_done ?_
 refine G_seq ?_
 refine G_region (l := [0]) rfl ?_
 refine G_val rfl rfl rfl rfl (V_assign rfl rfl) ?_
 refine G_done ?_
 refine G_seq ?_
 refine G_region (l := [0, 1, 2, 3, 4, 5, 6, 7]) rfl ?_
 refine G_val rfl rfl rfl rfl (V_move rfl rfl) ?_
 refine G_val rfl rfl rfl rfl (V_move rfl rfl) ?_
 refine G_val rfl rfl rfl rfl (Val.int (e' := ((v % 10 : Nat) : Int)) (V_rem rfl rfl rfl (by omega) (by omega)) (by omega)) ?_
 refine G_val rfl rfl rfl rfl (V_move rfl rfl) ?_
 refine G_val rfl rfl rfl rfl (Val.int (e' := ((v % 10 : Nat) : Int)) (V_rem rfl rfl rfl (by omega) (by omega)) (by omega)) ?_
 first
   | refine G_val rfl rfl rfl rfl ((V_add rfl rfl rfl).int (wrap_u64 (by omega))) ?_
   | refine G_val rfl rfl rfl rfl (V_add rfl rfl rfl) ?_
 refine G_val rfl rfl rfl rfl (V_ssliceN (lo := v % 10) (hi := v % 10 + 1) rfl Tryd.underlying9 rfl rfl rfl rfl rfl (by omega) (by show _ ≤ 10; omega)) ?_
 rw [dig_cut (by omega)]
 refine G_val rfl rfl rfl rfl (V_assign rfl rfl) ?_
 refine G_done ?_
 refine G_seq ?_
 refine G_block ?_
 refine G_sub ?he3 [] ?hl3 (G_loop (X := Nat × List UInt8) (fun x => match x with | ⟨q, r⟩ => q < 18446744073709551616 ∧ Lib.decDigits v = decInit q ++ r) (fun x => match x with | ⟨q, r⟩ => q) (fun x => match x with | ⟨q, r⟩ => [(0, .int .u64 (q : Int)), (3, .string (bs [48, 49, 50, 51, 52, 53, 54, 55, 56, 57])), (4, .string (bs r))]) (fun x => match x with | ⟨q, r⟩ => []) ?round3 (v, [UInt8.ofNat (48 + v % 10)]) ?h03)
 case he3 => exact (And.intro rfl (And.intro rfl (And.intro rfl trivial)))
 case hl3 => exact ⟨_, rfl⟩
 case h03 => exact ⟨hv, dec_split v⟩
 case round3 =>
  intro x hJ ih
  try dsimp only at hJ ih
  obtain ⟨q, r⟩ := x
  try dsimp only at hJ ih
  obtain ⟨hq, hr⟩ := hJ
  show G _ _ [(0, .int .u64 (q : Int)), (3, .string (bs [48, 49, 50, 51, 52, 53, 54, 55, 56, 57])), (4, .string (bs r))] [] _
  refine G_seq ?_
  refine G_seq ?_
  refine G_region (l := [0, 1]) rfl ?_
  refine G_val rfl rfl rfl rfl (V_move rfl rfl) ?_
  refine G_val rfl rfl rfl rfl (V_geq rfl rfl rfl) ?_
  refine G_done ?_
  refine G_ifD rfl (fun hc1 => ?_) (fun hc1 => ?_)
  · skip
    refine G_skip ?_
    refine G_block ?_
    refine G_seq ?_
    refine G_region (l := [0, 1, 2]) rfl ?_
    refine G_val rfl rfl rfl rfl (V_move rfl rfl) ?_
    refine G_val rfl rfl rfl rfl (Val.int (e' := ((q / 10 : Nat) : Int)) (V_quo rfl rfl rfl (by omega) (by omega) (wrap_u64 (by omega))) (by omega)) ?_
    refine G_val rfl rfl rfl rfl (V_assign rfl rfl) ?_
    refine G_done ?_
    have hl2 : r.length ≤ 20 := by have := congrArg List.length hr; simp only [List.length_append] at this; omega
    refine G_region (l := [0, 1, 2, 3, 4, 5, 6, 7, 8, 9]) rfl ?_
    refine G_val rfl rfl rfl rfl (V_move rfl rfl) ?_
    refine G_val rfl rfl rfl rfl (V_move rfl rfl) ?_
    refine G_val rfl rfl rfl rfl (Val.int (e' := (((q / 10) % 10 : Nat) : Int)) (V_rem rfl rfl rfl (by omega) (by omega)) (by omega)) ?_
    refine G_val rfl rfl rfl rfl (V_move rfl rfl) ?_
    refine G_val rfl rfl rfl rfl (Val.int (e' := (((q / 10) % 10 : Nat) : Int)) (V_rem rfl rfl rfl (by omega) (by omega)) (by omega)) ?_
    first
      | refine G_val rfl rfl rfl rfl ((V_add rfl rfl rfl).int (wrap_u64 (by omega))) ?_
      | refine G_val rfl rfl rfl rfl (V_add rfl rfl rfl) ?_
    refine G_val rfl rfl rfl rfl (V_ssliceN (lo := (q / 10) % 10) (hi := (q / 10) % 10 + 1) rfl Tryd.underlying9 rfl rfl rfl rfl rfl (by omega) (by show _ ≤ 10; omega)) ?_
    rw [dig_cut (by omega)]
    refine G_val rfl rfl rfl rfl (V_move rfl rfl) ?_
    refine G_val rfl rfl rfl rfl (V_sadd rfl rfl rfl (by first | omega | (simp; done) | (simp; omega) | (simp at *; omega))) ?_
    refine G_val rfl rfl rfl rfl (V_assign rfl rfl) ?_
    refine G_done ?_
    refine G_inBlock ?_
    refine G_sub ?_ [] ?_ (ih (q / 10, [UInt8.ofNat (48 + q / 10 % 10)] ++ r) ?_ ?_)
    · (refine (And.intro ?_ (And.intro ?_ (And.intro ?_ trivial))) <;> first | rfl | exact slot_int (by omega) | exact slot_int (by simp))
    · exact ⟨_, rfl⟩
    · exact ⟨by omega, by rw [hr]; exact dec_step (by omega) r⟩
    · (first | omega | (dsimp only; omega))
  refine G_exit rfl ?_
  refine G_seq ?_
  refine G_region (l := [0, 1]) rfl ?_
  refine G_val rfl rfl rfl rfl (V_move rfl rfl) ?_
  refine G_val rfl rfl rfl rfl (V_assign rfl rfl) ?_
  refine G_done ?_
  refine G_ret (post := []) Tryd.func42 rfl (RVs_cons (RV_tmp rfl) RVs_nil) [] rfl ?_
  dsimp only [packed]
  rw [dec_end (by omega)] at hr; exact ⟨str_eq hr.symm, rfl⟩


theorem itoa_neg {x : Int} (h : x < 0) : Lib.itoa x = [45] ++ Lib.decDigits x.natAbs := by unfold Lib.itoa; rw [if_pos h]; rfl
theorem itoa_pos {x : Int} (h : ¬ x < 0) : Lib.itoa x = Lib.decDigits x.toNat := by unfold Lib.itoa; rw [if_neg h]

set_option maxRecDepth 100000 in
set_option maxHeartbeats 1000000 in
theorem rt_int (x : Int) (h0 : -9223372036854775808 ≤ x) (h1 : x ≤ 9223372036854775807) :
    Ct Tryd.prog 44 [.int .i64 x] [] [] fun v post => v = .string (bs (Lib.itoa x)) ∧ post = [] := by
 refine ct_of Tryd.func44 rfl rfl (fun w0 => ?_)
 show G _ _ [(0, _)] _ _
 refine G_seq ?_
 refine G_region (l := [0]) rfl ?_
 refine G_val rfl rfl rfl rfl (V_assign rfl rfl) ?_
 refine G_done ?_
 refine G_seq ?_
 refine G_seq ?_
 refine G_region (l := [0, 1]) rfl ?_
 refine G_val rfl rfl rfl rfl (V_move rfl rfl) ?_
 refine G_val rfl rfl rfl rfl (V_lss rfl rfl rfl) ?_
 refine G_done ?_
 refine G_ifD rfl (fun hc1 => ?_) (fun hc1 => ?_)
 · skip
   refine G_seq ?_
   have hd := dec_len20 (v := x.natAbs) (by omega)
   refine G_region (l := [0, 1, 2, 3, 4, 5, 6, 7]) rfl ?_
   refine G_val rfl rfl rfl rfl (V_move rfl rfl) ?_
   first
     | refine G_val rfl rfl rfl rfl ((V_add rfl rfl rfl).int (wrap_i64 (by omega))) ?_
     | refine G_val rfl rfl rfl rfl (V_add rfl rfl rfl) ?_
   first
     | refine G_val rfl rfl rfl rfl ((V_sub rfl rfl rfl).int (wrap_i64 (by omega))) ?_
     | refine G_val rfl rfl rfl rfl (V_sub rfl rfl rfl) ?_
   first
     | refine G_val rfl rfl rfl rfl ((V_conv rfl rfl Tryd.underlying3 Tryd.underlying32).int (wrap_u64 (by omega))) ?_
     | refine G_val rfl rfl rfl rfl (V_conv rfl rfl Tryd.underlying3 Tryd.underlying32) ?_
   refine G_val rfl rfl rfl rfl (Val.int (e' := (x.natAbs : Int)) (V_add rfl rfl rfl) (by rw [wrap_u64 (by omega)]; omega)) ?_
   refine G_call (L2 := []) rfl rfl rfl rfl rfl rfl Tryd.call42 (rt_tens _ (by omega)) [] [] rfl rfl ?_
   rintro v post ⟨rfl, rfl⟩
   refine G_val rfl rfl rfl rfl (V_sadd rfl rfl rfl (by first | omega | (simp; done) | (simp; omega) | (simp at *; omega))) ?_
   refine G_val rfl rfl rfl rfl (V_assign rfl rfl) ?_
   refine G_done ?_
   refine G_ret (post := []) Tryd.func44 rfl (RVs_cons (RV_tmp rfl) RVs_nil) [] rfl ?_
   dsimp only [packed]
   first | (rw [itoa_neg (by assumption)]; exact ⟨rfl, rfl⟩) | (rw [itoa_pos (by assumption)]; exact ⟨rfl, rfl⟩)
 refine G_skip ?_
 refine G_seq ?_
 refine G_region (l := [0, 1, 2, 3]) rfl ?_
 refine G_val rfl rfl rfl rfl (V_move rfl rfl) ?_
 refine G_val rfl rfl rfl rfl (Val.int (e' := (x.toNat : Int)) (V_conv rfl rfl Tryd.underlying3 Tryd.underlying32) (by rw [wrap_u64 (by omega)]; omega)) ?_
 refine G_call (L2 := []) rfl rfl rfl rfl rfl rfl Tryd.call42 (rt_tens _ (by omega)) [] [] rfl rfl ?_
 rintro v post ⟨rfl, rfl⟩
 refine G_val rfl rfl rfl rfl (V_assign rfl rfl) ?_
 refine G_done ?_
 refine G_ret (post := []) Tryd.func44 rfl (RVs_cons (RV_tmp rfl) RVs_nil) [] rfl ?_
 dsimp only [packed]
 first | (rw [itoa_neg (by assumption)]; exact ⟨rfl, rfl⟩) | (rw [itoa_pos (by assumption)]; exact ⟨rfl, rfl⟩)

end
end Go.Proofs.YtkekkalgebgokaaDoor
