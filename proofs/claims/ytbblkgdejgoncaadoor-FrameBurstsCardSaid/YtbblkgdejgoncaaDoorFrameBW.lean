/- The law FrameBursts: pieces of which bits are turned that all lie in the sum, or all behind it within 32 in a row, never tell a record; the call returns true and leaves its arguments as they were. -/
import Derived.Test.YtbblkgdejgoncaaDoorFrameB
import Derived.Test.YtbblkgdejgoncaaDoorG14
set_option linter.unusedSimpArgs false
set_option linter.unusedVariables false
namespace Go.Proofs.YtbblkgdejgoncaaDoor
open Go.ChangeShapes Go.WideShapes Go.ChangeAt Go.RowKit

section
theorem infFrameBW_5 : Tryd.prog.info? 5 = some Tryd.t5 := by kernel_rfl
theorem infFrameBW_9 : Tryd.prog.info? 9 = some Tryd.t9 := by kernel_rfl


theorem shr_nat (t i : Nat) (h : i ≤ 32) : (t : Int) / (2 : Int) ^ min (i : Int).toNat IntKind.u32.bits = ((t / 2 ^ i : Nat) : Int) := by
  have e : min (i : Int).toNat IntKind.u32.bits = i := by show min (i : Int).toNat 32 = i; omega
  rw [e]; simp
theorem shl_byte (q : Nat) (h : q < 8) : IntKind.u8.wrap ((1 : Int) * 2 ^ min (((7 - q : Nat) : Int)).toNat IntKind.u8.bits) = ((2 ^ (7 - q) : Nat) : Int) := by
  match q, h with
  | 0, _ => rfl | 1, _ => rfl | 2, _ => rfl | 3, _ => rfl | 4, _ => rfl | 5, _ => rfl | 6, _ => rfl | 7, _ => rfl
theorem xor_byte (v : UInt8) (q : Nat) (h : q < 8) : bitsOp .xor .u8 (v.toNat : Int) ((2 ^ (7 - q) : Nat) : Int) = ((v ^^^ (1 <<< UInt8.ofNat (7 - q))).toNat : Int) := by
  have h1 : ((1 : UInt8) <<< UInt8.ofNat (7 - q)).toNat = 2 ^ (7 - q) := by
    match q, h with
    | 0, _ => rfl | 1, _ => rfl | 2, _ => rfl | 3, _ => rfl | 4, _ => rfl | 5, _ => rfl | 6, _ => rfl | 7, _ => rfl
  have hv := v.toNat_lt
  have hp : 2 ^ (7 - q) < 256 := by
    match q, h with
    | 0, _ => decide | 1, _ => decide | 2, _ => decide | 3, _ => decide | 4, _ => decide | 5, _ => decide | 6, _ => decide | 7, _ => decide
  show IntKind.u8.wrap ((BitVec.ofInt 8 (v.toNat : Int) ^^^ BitVec.ofInt 8 ((2 ^ (7 - q) : Nat) : Int)).toNat : Int) = _
  rw [UInt8.toNat_xor, h1, BitVec.toNat_xor]
  have e1 : (BitVec.ofInt 8 (v.toNat : Int)).toNat = v.toNat := by rw [BitVec.toNat_ofInt]; omega
  have e2 : (BitVec.ofInt 8 ((2 ^ (7 - q) : Nat) : Int)).toNat = 2 ^ (7 - q) := by
    rw [BitVec.toNat_ofInt]; omega
  rw [e1, e2]
  have hx : v.toNat ^^^ 2 ^ (7 - q) < 2 ^ 8 := Nat.xor_lt_two_pow hv hp
  exact wrap_u8 (by omega)
theorem modify_set {l : List UInt8} {j : Nat} {v : UInt8} (f : UInt8 → UInt8) (h : l[j]? = some v) : l.modify j f = l.set j (f v) := by
  apply List.ext_getElem?
  intro k
  rw [List.getElem?_modify, List.getElem?_set]
  by_cases e : j = k
  · subst e
    rw [h]; simp [(List.getElem?_eq_some_iff.1 h).1]
  · simp [e]
theorem burst_cells {B : List UInt8} {cs : Array Value} {K M i : Nat} (hb : cs.toList.take B.length = bcells B) (hl : B.length = 48 * M) (hk : B.length ≤ cs.size) (hK : cs.size = K) (h : i < M) :
    (cs.toList.drop (if K = 48 * i then 0 else 0 + 48 * i * 1)).take (48 * i + 48 - 48 * i) = bcells ((B.drop (48 * i)).take 48) := by
  rw [if_neg (by omega), Nat.zero_add, Nat.mul_one, show 48 * i + 48 - 48 * i = 48 by omega, ← bcells_take, ← bcells_drop, ← hb, List.drop_take, List.take_take]
  congr 1
  omega


theorem dec_chunks (u : Sl) (m : Nat) (B : List UInt8) (hB : B.length = 48 * m) (h : Own 1 u ((chunks m B).map strC) m) : Ct Tryd.prog 14 [u.v m] [(u.ob, .cells u.cs 9 u.fz)] [] (fun v post => v = .tuple #[.string (bs (decS (chunks m B))), .int .i64 (decM (chunks m B) : Int), .int .i64 (decE (chunks m B))] ∧ post = []) := by
  have hq := fr_decode u.ob 0 u.cap u.cs 9 u.fz (chunks m B) (by rw [chunks_len]; exact h.sees) (fun x hx => by have := chunks_all hB x hx; omega)
  rw [chunks_len] at hq
  exact hq
theorem pieces_flat {s : List UInt8} (h : (padF s).length = 48 * manyN s.length) : (piecesF s).flatten = padF s := flat_chunks _ _ h
theorem chunks_zero (B : List UInt8) : chunks 0 B = [] := rfl
attribute [local irreducible] decS decM decE chunks manyN

set_option maxRecDepth 100000 in
set_option maxHeartbeats 4000000 in
theorem frameBursts_all (s : List UInt8) (hsl : s.length ≤ 9223372036854775807) (z y : Int) (hz0 : -9223372036854775808 ≤ z) (hz1 : z ≤ 9223372036854775807) (hy0 : 0 ≤ y) (hy1 : y ≤ 4294967295) :
    Ct Tryd.prog 3 [.string (bs s), .int .i64 z, .int .u32 y] [] [] fun v post => v = .bool true ∧ post = [] := by
 have hpl := padF_len s
 have hm := manyN_room s.length
 have hfl := pieces_flat hpl
 refine ct_of Tryd.func3 rfl rfl (fun w0 => ?_)
 show G _ _ [(0, _), (1, _), (2, _)] _ _
 refine G_seq ?_
 refine G_region (l := [0]) rfl ?_
 refine G_val rfl rfl rfl rfl (V_assign rfl rfl) ?_
 refine G_done ?_
 refine G_seq ?_
 refine G_seq ?_
 refine G_region (l := [0, 1, 2, 3, 4, 5, 6]) rfl ?_
 refine G_val rfl rfl rfl rfl (V_move rfl rfl) ?_
 refine G_val rfl rfl rfl rfl (V_slen rfl rfl Tryd.underlying9 rfl) ?_
 refine G_val rfl rfl rfl rfl (V_gtr rfl rfl rfl) ?_
 refine G_val rfl rfl rfl rfl (V_move rfl rfl) ?_
 refine G_splitD 22 rfl (fun hc1 => ?_) (fun hc1 => ?_)
 · skip
   refine G_off rfl rfl rfl rfl ?_
   refine G_off rfl rfl rfl rfl ?_
   refine G_val rfl rfl rfl rfl (V_pickT rfl rfl rfl) ?_
   refine G_done ?_
   refine G_then rfl ?_
   refine G_seq ?_
   refine G_region (l := [0, 1]) rfl ?_
   refine G_call (L2 := []) rfl rfl rfl rfl rfl rfl Tryd.call12 (fl_live) [] [] rfl rfl ?_
   rintro v post ⟨rfl, rfl⟩
   refine G_val rfl rfl rfl rfl (V_assign rfl rfl) ?_
   refine G_done ?_
   refine G_ret (post := []) Tryd.func3 rfl (RVs_cons (RV_tmp rfl) RVs_nil) [] rfl ?_
   dsimp only [packed]
   exact ⟨rfl, rfl⟩
 refine G_val rfl rfl rfl rfl (V_move rfl rfl) ?_
 refine G_val rfl rfl rfl rfl (V_eql rfl rfl rfl) ?_
 refine G_val rfl rfl rfl rfl (V_pickF rfl rfl rfl) ?_
 refine G_done ?_
 refine G_ifD rfl (fun hc2 => ?_) (fun hc2 => ?_)
 · skip
   refine G_seq ?_
   refine G_region (l := [0, 1]) rfl ?_
   refine G_call (L2 := []) rfl rfl rfl rfl rfl rfl Tryd.call12 (fl_live) [] [] rfl rfl ?_
   rintro v post ⟨rfl, rfl⟩
   refine G_val rfl rfl rfl rfl (V_assign rfl rfl) ?_
   refine G_done ?_
   refine G_ret (post := []) Tryd.func3 rfl (RVs_cons (RV_tmp rfl) RVs_nil) [] rfl ?_
   dsimp only [packed]
   exact ⟨rfl, rfl⟩
 refine G_skip ?_
 refine G_seq ?_
 refine G_region (l := [0, 1, 2, 3, 4, 5, 6]) rfl ?_
 refine G_val rfl rfl rfl rfl (V_move rfl rfl) ?_
 refine G_call (L2 := []) rfl rfl rfl rfl rfl rfl Tryd.call13 (rfr_encode s (by omega)) [] [] rfl rfl ?_
 rintro v post ⟨u, hu, rfl, rfl⟩
 show G _ _ _ [_] _
 have hle : s.length ≤ 1000 := by omega
 obtain ⟨en1, en2⟩ := encF_yes hle
 rw [en1, piecesF_len] at hu
 rw [en1, en2, piecesF_len]
 obtain ⟨ob, cs9, fz, cap⟩ := u
 obtain ⟨b9, hb9⟩ := hu.isSome (by omega)
 simp only at hb9
 subst hb9
 show G _ _ _ [(some b9, .cells cs9 9 fz)] _
 have hcap : manyN s.length ≤ cap := hu.le
 have hcpm : cap ≤ 9223372036854775807 := hu.max
 refine G_val rfl rfl rfl rfl (V_move rfl rfl) ?_
 refine G_val rfl rfl rfl rfl (V_extract rfl rfl rfl) ?_
 refine G_val rfl rfl rfl rfl (V_extract rfl rfl rfl) ?_
 refine G_val rfl rfl rfl rfl (V_assign rfl rfl) ?_
 refine G_val rfl rfl rfl rfl (V_assign rfl rfl) ?_
 refine G_done ?_
 refine G_seq ?_
 refine G_region (l := [0]) rfl ?_
 refine G_val rfl rfl rfl rfl (V_assign rfl rfl) ?_
 refine G_done ?_
 refine G_seq ?_
 refine G_seq ?_
 refine G_region (l := [0]) rfl ?_
 refine G_val rfl rfl rfl rfl (V_assign rfl rfl) ?_
 refine G_done ?_
 refine G_block ?_
 refine G_sub ?he6 [0] ?hl6 (G_loop (X := Nat) (fun i => i ≤ manyN s.length) (fun i => manyN s.length - i) (fun i => [(0, .string (bs s)), (1, .int .i64 z), (2, .int .u32 y), (7, .slice (some ⟨b9, 0, none⟩) (manyN s.length) cap), (8, .int .i64 0), (9, .string (bs ((piecesF s).take i).flatten)), (10, .int .i64 (i : Int))]) (fun i => [(some b9, .cells cs9 9 fz)]) ?round6 0 ?h06)
 case he6 => exact (And.intro rfl (And.intro rfl (And.intro rfl (And.intro rfl (And.intro rfl (And.intro rfl (And.intro rfl trivial)))))))
 case hl6 => exact ⟨_, rfl⟩
 case h06 => exact Nat.zero_le _
 case round6 =>
  intro i hJ ih
  try dsimp only at hJ ih
  refine G_seq ?_
  refine G_seq ?_
  refine G_region (l := [0, 1, 2, 3]) rfl ?_
  refine G_val rfl rfl rfl rfl (V_move rfl rfl) ?_
  refine G_val rfl rfl rfl rfl (V_move rfl rfl) ?_
  refine G_val rfl rfl rfl rfl (V_len rfl rfl Tryd.underlying24 rfl) ?_
  refine G_val rfl rfl rfl rfl (V_lss rfl rfl rfl) ?_
  refine G_done ?_
  refine G_ifD rfl (fun hc3 => ?_) (fun hc3 => ?_)
  · skip
    refine G_skip ?_
    refine G_seq ?_
    refine G_block ?_
    obtain ⟨x, hx⟩ := getI (show i < (piecesF s).length by rw [piecesF_len]; omega)
    have hf1 := flat_le (piecesF s) (i + 1)
    have hf2 := congrArg List.length (flat_next hx)
    rw [List.length_append] at hf2
    rw [hfl] at hf1
    refine G_region (l := [0, 1, 2, 3, 4, 5, 6]) rfl ?_
    refine G_val rfl rfl rfl rfl (V_move rfl rfl) ?_
    refine G_val rfl rfl rfl rfl (V_move rfl rfl) ?_
    refine G_val rfl rfl rfl rfl (V_move rfl rfl) ?_
    first
      | refine G_val rfl rfl rfl rfl (V_indexAddrN (s := 1) rfl Tryd.underlying24 infFrameBW_9 rfl rfl rfl rfl (by omega)) ?_
      | refine G_val rfl rfl rfl rfl (V_indexAddr (s := 1) rfl Tryd.underlying24 infFrameBW_9 rfl rfl rfl (by omega) (by first | omega | (simp; done) | (simp; omega) | (simp at *; omega))) ?_
    refine G_val rfl rfl rfl rfl (V_load1 rfl rfl (mem_at 0 rfl) (nth_of (Sees.cell (show Sees 1 (some b9) 0 cap cs9 ((piecesF s).map strC) (piecesF s).length by rw [piecesF_len]; exact hu.sees) hx)) Tryd.underlying9 rfl) ?_
    refine G_val rfl rfl rfl rfl (V_sadd rfl rfl rfl (by first | omega | (simp; done) | (simp; omega) | (simp at *; omega))) ?_
    rw [← flat_next hx]
    refine G_val rfl rfl rfl rfl (V_assign rfl rfl) ?_
    refine G_done ?_
    refine G_inBlock ?_
    refine G_region (l := [0, 1, 2]) rfl ?_
    refine G_val rfl rfl rfl rfl (V_move rfl rfl) ?_
    first
      | refine G_val rfl rfl rfl rfl ((V_add rfl rfl rfl).int (wrap_i64 (by omega))) ?_
      | refine G_val rfl rfl rfl rfl (V_add rfl rfl rfl) ?_
    refine G_val rfl rfl rfl rfl (V_assign rfl rfl) ?_
    refine G_done ?_
    refine G_sub ?_ [0] ?_ (ih (i + 1) ?_ ?_)
    · (refine (And.intro ?_ (And.intro ?_ (And.intro ?_ (And.intro ?_ (And.intro ?_ (And.intro ?_ (And.intro ?_ trivial))))))) <;> first | rfl | exact slot_int (by omega) | exact slot_int (by simp))
    · exact ⟨_, rfl⟩
    · omega
    · (first | omega | (dsimp only; omega))
  refine G_exit rfl ?_
  refine G_seq ?_
  refine G_seq ?_
  obtain rfl : i = manyN s.length := by omega
  rw [show (piecesF s).take (manyN s.length) = piecesF s from List.take_of_length_le (by rw [piecesF_len]; omega), hfl]
  refine G_region (l := [0, 1, 2, 3, 4, 5, 6, 7, 8, 9, 10, 11, 12, 13, 14, 15, 16, 17]) rfl ?_
  refine G_val rfl rfl rfl rfl (V_move rfl rfl) ?_
  refine G_val rfl rfl rfl rfl (V_neq rfl rfl rfl) ?_
  refine G_val rfl rfl rfl rfl (V_move rfl rfl) ?_
  refine G_splitD 46 rfl (fun hc4 => ?_) (fun hc4 => ?_)
  · (first | (exact absurd rfl hc4) | (exfalso; omega))
  refine G_val rfl rfl rfl rfl (V_move rfl rfl) ?_
  refine G_val rfl rfl rfl rfl (V_neq rfl rfl rfl) ?_
  refine G_val rfl rfl rfl rfl (V_move rfl rfl) ?_
  refine G_splitD 49 rfl (fun hc5 => ?_) (fun hc5 => ?_)
  · skip
    refine G_val rfl rfl rfl rfl (V_move rfl rfl) ?_
    refine G_val rfl rfl rfl rfl (V_lss rfl rfl rfl) ?_
    refine G_val rfl rfl rfl rfl (V_pickT rfl rfl rfl) ?_
    refine G_val rfl rfl rfl rfl (V_pickF rfl rfl rfl) ?_
    refine G_val rfl rfl rfl rfl (V_move rfl rfl) ?_
    refine G_splitD 54 rfl (fun hc6 => ?_) (fun hc6 => ?_)
    · skip
      refine G_off rfl rfl rfl rfl ?_
      refine G_off rfl rfl rfl rfl ?_
      refine G_off rfl rfl rfl rfl ?_
      refine G_off rfl rfl rfl rfl ?_
      refine G_off rfl rfl rfl rfl ?_
      refine G_off rfl rfl rfl rfl ?_
      refine G_val rfl rfl rfl rfl (V_pickT rfl rfl rfl) ?_
      refine G_done ?_
      refine G_then rfl ?_
      refine G_seq ?_
      refine G_region (l := [0, 1]) rfl ?_
      refine G_call (L2 := [_]) rfl rfl rfl rfl rfl rfl Tryd.call12 (fl_live) [] [] rfl rfl ?_
      rintro v post ⟨rfl, rfl⟩
      show G _ _ _ [_] _
      refine G_val rfl rfl rfl rfl (V_assign rfl rfl) ?_
      refine G_done ?_
      refine G_ret (post := []) Tryd.func3 rfl (RVs_cons (RV_tmp rfl) RVs_nil) [] rfl ?_
      dsimp only [packed]
      exact ⟨rfl, rfl⟩
    refine G_val rfl rfl rfl rfl (V_move rfl rfl) ?_
    refine G_val rfl rfl rfl rfl (V_move rfl rfl) ?_
    refine G_val rfl rfl rfl rfl (V_slen rfl rfl Tryd.underlying9 rfl) ?_
    first
      | refine G_val rfl rfl rfl rfl ((V_mul rfl rfl rfl).int (wrap_i64 (by omega))) ?_
      | refine G_val rfl rfl rfl rfl (V_mul rfl rfl rfl) ?_
    first
      | refine G_val rfl rfl rfl rfl ((V_sub rfl rfl rfl).int (wrap_i64 (by omega))) ?_
      | refine G_val rfl rfl rfl rfl (V_sub rfl rfl rfl) ?_
    refine G_val rfl rfl rfl rfl (V_gtr rfl rfl rfl) ?_
    refine G_val rfl rfl rfl rfl (V_pickF rfl rfl rfl) ?_
    refine G_done ?_
    refine G_ifD rfl (fun hc7 => ?_) (fun hc7 => ?_)
    · skip
      refine G_seq ?_
      refine G_region (l := [0, 1]) rfl ?_
      refine G_call (L2 := [_]) rfl rfl rfl rfl rfl rfl Tryd.call12 (fl_live) [] [] rfl rfl ?_
      rintro v post ⟨rfl, rfl⟩
      show G _ _ _ [_] _
      refine G_val rfl rfl rfl rfl (V_assign rfl rfl) ?_
      refine G_done ?_
      refine G_ret (post := []) Tryd.func3 rfl (RVs_cons (RV_tmp rfl) RVs_nil) [] rfl ?_
      dsimp only [packed]
      exact ⟨rfl, rfl⟩
    refine G_skip ?_
    refine G_seq ?_
    have haz : z = 16 ∨ 48 ≤ z := by omega
    obtain ⟨a, rfl⟩ : ∃ a : Nat, z = (a : Int) := ⟨z.toNat, by omega⟩
    obtain ⟨t, rfl⟩ : ∃ t : Nat, y = (t : Int) := ⟨y.toNat, by omega⟩
    refine G_region (l := [0, 1, 2]) rfl ?_
    refine G_val rfl rfl rfl rfl (V_move rfl rfl) ?_
    refine G_bytesOf rfl rfl rfl rfl rfl Tryd.underlying9 Tryd.underlying27 Tryd.underlying5 rfl (by first | omega | (simp; done) | (simp; omega) | (simp at *; omega)) ?_
    intro b64 csb64 hsb64 hmb64 hbb64
    refine G_val rfl rfl rfl rfl (V_assign rfl rfl) ?_
    refine G_done ?_
    refine G_seq ?_
    refine G_seq ?_
    refine G_region (l := [0]) rfl ?_
    refine G_val rfl rfl rfl rfl (V_assign rfl rfl) ?_
    refine G_done ?_
    refine G_block ?_
    refine G_sub ?he13 [0, 0] ?hl13 (G_loop (X := Nat × Array Value) (fun x => match x with | ⟨i, cs⟩ => i ≤ 32 ∧ cs.size = csb64.size ∧ cs.toList.take (burst (padF s) a t i).length = bcells (burst (padF s) a t i)) (fun x => match x with | ⟨i, cs⟩ => 32 - i) (fun x => match x with | ⟨i, cs⟩ => [(1, .int .i64 (a : Int)), (2, .int .u32 (t : Int)), (7, .slice (some ⟨b9, 0, none⟩) (manyN s.length) cap), (11, .slice (some ⟨b64, 0, none⟩) (padF s).length csb64.size), (12, .int .i64 (i : Int))]) (fun x => match x with | ⟨i, cs⟩ => [(some b64, .cells cs 5 (csb64.size, csb64.size + 1)), (some b9, .cells cs9 9 fz)]) ?round13 (0, csb64) ?h013)
    case he13 => exact (And.intro rfl (And.intro rfl (And.intro rfl (And.intro rfl (And.intro rfl trivial)))))
    case hl13 => exact ⟨_, rfl⟩
    case h013 => exact ⟨Nat.zero_le _, rfl, hbb64⟩
    case round13 =>
     intro x hJ ih
     try dsimp only at hJ ih
     obtain ⟨i, cs⟩ := x
     try dsimp only at hJ ih
     obtain ⟨hi, hcz, hcb⟩ := hJ
     show G _ _ [(1, .int .i64 (a : Int)), (2, .int .u32 (t : Int)), (7, .slice (some ⟨b9, 0, none⟩) (manyN s.length) cap), (11, .slice (some ⟨b64, 0, none⟩) (padF s).length csb64.size), (12, .int .i64 (i : Int))] [(some b64, .cells cs 5 (csb64.size, csb64.size + 1)), (some b9, .cells cs9 9 fz)] _
     refine G_seq ?_
     refine G_seq ?_
     refine G_region (l := [0, 1]) rfl ?_
     refine G_val rfl rfl rfl rfl (V_move rfl rfl) ?_
     refine G_val rfl rfl rfl rfl (V_lss rfl rfl rfl) ?_
     refine G_done ?_
     refine G_ifD rfl (fun hc8 => ?_) (fun hc8 => ?_)
     · skip
       refine G_skip ?_
       refine G_seq ?_
       refine G_block ?_
       refine G_seq ?_
       by_cases hbit : t / 2 ^ i % 2 = 1
       · skip
         refine G_region (l := [0, 1, 2, 3, 4, 5]) rfl ?_
         refine G_val rfl rfl rfl rfl (V_move rfl rfl) ?_
         refine G_val rfl rfl rfl rfl (V_move rfl rfl) ?_
         first
           | refine G_val rfl rfl rfl rfl ((V_conv rfl rfl Tryd.underlying3 Tryd.underlying28).int (wrap_u64 (by omega))) ?_
           | refine G_val rfl rfl rfl rfl (V_conv rfl rfl Tryd.underlying3 Tryd.underlying28) ?_
         refine G_val rfl rfl rfl rfl (Val.int (e' := ((t / 2 ^ i : Nat) : Int)) (V_shr rfl rfl rfl (by omega)) (shr_nat t i (by omega))) ?_
         generalize hqq : t / 2 ^ i = qq at hbit ⊢
         refine G_val rfl rfl rfl rfl (V_rem rfl rfl rfl (by omega) (by omega)) ?_
         refine G_val rfl rfl rfl rfl (V_eql rfl rfl rfl) ?_
         refine G_done ?_
         refine G_ifD rfl (fun hc9 => ?_) (fun hc9 => ?_)
         rotate_left
         · (first | (exact absurd rfl hc9) | (exfalso; omega))
         refine G_seq ?_
         refine G_region (l := [0, 1, 2, 3]) rfl ?_
         refine G_val rfl rfl rfl rfl (V_move rfl rfl) ?_
         refine G_val rfl rfl rfl rfl (V_move rfl rfl) ?_
         refine G_val rfl rfl rfl rfl (Val.int (e' := ((a + i : Nat) : Int)) (V_add rfl rfl rfl) (by rw [wrap_i64 (by omega)]; omega)) ?_
         refine G_val rfl rfl rfl rfl (V_assign rfl rfl) ?_
         refine G_done ?_
         obtain ⟨v, hv⟩ := getI (show (a + i) / 8 < (burst (padF s) a t i).length by rw [burst_length]; omega)
         have hbl := burst_length (padF s) a t i
         have hq8 : (a + i) % 8 < 8 := by omega
         refine G_region (l := [0, 1, 2, 3, 4, 5, 6, 7, 8, 9, 10, 11, 12, 13, 14, 15]) rfl ?_
         refine G_val rfl rfl rfl rfl (V_move rfl rfl) ?_
         refine G_val rfl rfl rfl rfl (V_move rfl rfl) ?_
         refine G_val rfl rfl rfl rfl (Val.int (e' := (((a + i) / 8 : Nat) : Int)) (V_quo rfl rfl rfl (by omega) (by omega) (wrap_i64 (by omega))) (by omega)) ?_
         refine G_val rfl rfl rfl rfl (V_move rfl rfl) ?_
         refine G_val rfl rfl rfl rfl (V_move rfl rfl) ?_
         refine G_val rfl rfl rfl rfl (Val.int (e' := (((a + i) / 8 : Nat) : Int)) (V_quo rfl rfl rfl (by omega) (by omega) (wrap_i64 (by omega))) (by omega)) ?_
         first
           | refine G_val rfl rfl rfl rfl (V_indexAddrN (s := 1) rfl Tryd.underlying27 infFrameBW_5 rfl rfl rfl rfl (by omega)) ?_
           | refine G_val rfl rfl rfl rfl (V_indexAddr (s := 1) rfl Tryd.underlying27 infFrameBW_5 rfl rfl rfl (by omega) (by first | omega | (simp; done) | (simp; omega) | (simp at *; omega))) ?_
         refine G_val rfl rfl rfl rfl (V_load1 rfl rfl (mem_at 0 rfl) (nth_of (by have := bytes_at hcb hv; rwa [show (a + i) / 8 = 0 + (a + i) / 8 * 1 by omega] at this)) Tryd.underlying5 rfl) ?_
         refine G_val rfl rfl rfl rfl (V_move rfl rfl) ?_
         refine G_val rfl rfl rfl rfl (Val.int (e' := (((a + i) % 8 : Nat) : Int)) (V_rem rfl rfl rfl (by omega) (by omega)) (by omega)) ?_
         refine G_val rfl rfl rfl rfl (Val.int (e' := ((7 - (a + i) % 8 : Nat) : Int)) (V_sub rfl rfl rfl) (by rw [wrap_i64 (by omega)]; omega)) ?_
         first
           | refine G_val rfl rfl rfl rfl ((V_conv rfl rfl Tryd.underlying3 Tryd.underlying28).int (wrap_u64 (by omega))) ?_
           | refine G_val rfl rfl rfl rfl (V_conv rfl rfl Tryd.underlying3 Tryd.underlying28) ?_
         refine G_val rfl rfl rfl rfl (Val.int (e' := ((2 ^ (7 - (a + i) % 8) : Nat) : Int)) (V_shl rfl rfl rfl (by omega)) (shl_byte _ hq8)) ?_
         refine G_val rfl rfl rfl rfl (Val.int (e' := ((v ^^^ (1 <<< UInt8.ofNat (7 - (a + i) % 8))).toNat : Int)) (V_bits .xor rfl rfl rfl rfl) (xor_byte v _ hq8)) ?_
         first
           | refine G_val rfl rfl rfl rfl (V_indexAddrN (s := 1) rfl Tryd.underlying27 infFrameBW_5 rfl rfl rfl rfl (by omega)) ?_
           | refine G_val rfl rfl rfl rfl (V_indexAddr (s := 1) rfl Tryd.underlying27 infFrameBW_5 rfl rfl rfl (by omega) (by first | omega | (simp; done) | (simp; omega) | (simp at *; omega))) ?_
         refine G_put (l1 := []) (L' := [_, _]) rfl rfl rfl rfl (P_store1F rfl rfl rfl (mem_at 0 rfl) (by first | omega | (simp; done) | (simp; omega) | (simp at *; omega)) (by first | omega | (simp; done) | (simp; omega) | (simp at *; omega)) infFrameBW_5 rfl rfl) rfl ?_
         refine G_done ?_
         refine G_inBlock ?_
         refine G_region (l := [0, 1, 2]) rfl ?_
         refine G_val rfl rfl rfl rfl (V_move rfl rfl) ?_
         first
           | refine G_val rfl rfl rfl rfl ((V_add rfl rfl rfl).int (wrap_i64 (by omega))) ?_
           | refine G_val rfl rfl rfl rfl (V_add rfl rfl rfl) ?_
         refine G_val rfl rfl rfl rfl (V_assign rfl rfl) ?_
         refine G_done ?_
         refine G_sub ?_ [0, 0] ?_ (ih (i + 1, cs.setIfInBounds (0 + (a + i) / 8 * 1) (.int .u8 ((v ^^^ (1 <<< UInt8.ofNat (7 - (a + i) % 8))).toNat : Int))) ?_ ?_)
         · (refine (And.intro ?_ (And.intro ?_ (And.intro ?_ (And.intro ?_ (And.intro ?_ trivial))))) <;> first | rfl | exact slot_int (by omega) | exact slot_int (by simp))
         · exact ⟨_, rfl⟩
         · first | exact ⟨by omega, by simpa using hcz, by rw [burst, if_pos (by rw [hqq]; exact hbit), modify_set _ hv, Nat.zero_add, Nat.mul_one]; exact bytes_set hcb (by rw [burst_length]; omega) (by omega) _⟩ | exact ⟨by omega, hcz, by rw [burst, if_neg (by rw [hqq]; exact hbit)]; exact hcb⟩
         · (first | omega | (dsimp only; omega))
       · skip
         refine G_region (l := [0, 1, 2, 3, 4, 5]) rfl ?_
         refine G_val rfl rfl rfl rfl (V_move rfl rfl) ?_
         refine G_val rfl rfl rfl rfl (V_move rfl rfl) ?_
         first
           | refine G_val rfl rfl rfl rfl ((V_conv rfl rfl Tryd.underlying3 Tryd.underlying28).int (wrap_u64 (by omega))) ?_
           | refine G_val rfl rfl rfl rfl (V_conv rfl rfl Tryd.underlying3 Tryd.underlying28) ?_
         refine G_val rfl rfl rfl rfl (Val.int (e' := ((t / 2 ^ i : Nat) : Int)) (V_shr rfl rfl rfl (by omega)) (shr_nat t i (by omega))) ?_
         generalize hqq : t / 2 ^ i = qq at hbit ⊢
         refine G_val rfl rfl rfl rfl (V_rem rfl rfl rfl (by omega) (by omega)) ?_
         refine G_val rfl rfl rfl rfl (V_eql rfl rfl rfl) ?_
         refine G_done ?_
         refine G_ifD rfl (fun hc9 => ?_) (fun hc9 => ?_)
         · (first | (exact absurd rfl hc9) | (exfalso; omega))
         refine G_skip ?_
         refine G_inBlock ?_
         refine G_region (l := [0, 1, 2]) rfl ?_
         refine G_val rfl rfl rfl rfl (V_move rfl rfl) ?_
         first
           | refine G_val rfl rfl rfl rfl ((V_add rfl rfl rfl).int (wrap_i64 (by omega))) ?_
           | refine G_val rfl rfl rfl rfl (V_add rfl rfl rfl) ?_
         refine G_val rfl rfl rfl rfl (V_assign rfl rfl) ?_
         refine G_done ?_
         refine G_sub ?_ [0, 0] ?_ (ih (i + 1, cs) ?_ ?_)
         · (refine (And.intro ?_ (And.intro ?_ (And.intro ?_ (And.intro ?_ (And.intro ?_ trivial))))) <;> first | rfl | exact slot_int (by omega) | exact slot_int (by simp))
         · exact ⟨_, rfl⟩
         · first | exact ⟨by omega, by simpa using hcz, by rw [burst, if_pos (by rw [hqq]; exact hbit), modify_set _ hv, Nat.zero_add, Nat.mul_one]; exact bytes_set hcb (by rw [burst_length]; omega) (by omega) _⟩ | exact ⟨by omega, hcz, by rw [burst, if_neg (by rw [hqq]; exact hbit)]; exact hcb⟩
         · (first | omega | (dsimp only; omega))
     refine G_exit rfl ?_
     refine G_seq ?_
     obtain rfl : i = 32 := by omega
     have hbl := burst_length (padF s) a t 32
     obtain ⟨d1, d2, d3⟩ := dec_burst (s := s) (a := a) (t := t) hle (by omega) (by omega) (by omega) (by omega)
     refine G_region (l := [0, 1]) rfl ?_
     refine G_new rfl rfl rfl rfl (N_build0 rfl Tryd.underlying24 infFrameBW_9) (fun b93 => ?_)
     refine G_val rfl rfl rfl rfl (V_assign rfl rfl) ?_
     refine G_done ?_
     refine G_seq ?_
     refine G_seq ?_
     refine G_region (l := [0]) rfl ?_
     refine G_val rfl rfl rfl rfl (V_assign rfl rfl) ?_
     refine G_done ?_
     refine G_block ?_
     refine G_sub ?he20 [0, 0] ?hl20 (G_loop (X := Nat × Sl) (fun x => match x with | ⟨i, u2⟩ => i ≤ manyN s.length ∧ Own 1 u2 ((chunks i (burst (padF s) a t 32)).map strC) i) (fun x => match x with | ⟨i, u2⟩ => manyN s.length - i) (fun x => match x with | ⟨i, u2⟩ => [(7, .slice (some ⟨b9, 0, none⟩) (manyN s.length) cap), (11, .slice (some ⟨b64, 0, none⟩) (padF s).length csb64.size), (14, u2.v i), (15, .int .i64 (i : Int))]) (fun x => match x with | ⟨i, u2⟩ => [(u2.ob, .cells u2.cs 9 u2.fz), (some b64, .cells cs 5 (csb64.size, csb64.size + 1))]) ?round20 (0, ⟨some b93, #[], (0, 0), 0⟩) ?h020)
     case he20 => exact (And.intro rfl (And.intro rfl (And.intro rfl (And.intro rfl trivial))))
     case hl20 => exact ⟨_, rfl⟩
     case h020 => exact ⟨Nat.zero_le _, by rw [chunks_zero]; exact own_empty 1 b93⟩
     case round20 =>
      intro x hJ ih
      try dsimp only at hJ ih
      obtain ⟨i, u2⟩ := x
      try dsimp only at hJ ih
      obtain ⟨hi, hux⟩ := hJ
      show G _ _ [(7, .slice (some ⟨b9, 0, none⟩) (manyN s.length) cap), (11, .slice (some ⟨b64, 0, none⟩) (padF s).length csb64.size), (14, u2.v i), (15, .int .i64 (i : Int))] [(u2.ob, .cells u2.cs 9 u2.fz), (some b64, .cells cs 5 (csb64.size, csb64.size + 1))] _
      refine G_seq ?_
      refine G_seq ?_
      refine G_region (l := [0, 1, 2, 3]) rfl ?_
      refine G_val rfl rfl rfl rfl (V_move rfl rfl) ?_
      refine G_val rfl rfl rfl rfl (V_move rfl rfl) ?_
      refine G_val rfl rfl rfl rfl (V_len rfl rfl Tryd.underlying24 rfl) ?_
      refine G_val rfl rfl rfl rfl (V_lss rfl rfl rfl) ?_
      refine G_done ?_
      refine G_ifD rfl (fun hc9 => ?_) (fun hc9 => ?_)
      · skip
        refine G_skip ?_
        refine G_seq ?_
        refine G_block ?_
        have hi2 : i < manyN s.length := by omega
        refine G_region (l := [0, 1, 2, 3, 4, 5, 6, 7, 8, 9, 10, 11]) rfl ?_
        refine G_val rfl rfl rfl rfl (V_move rfl rfl) ?_
        refine G_val rfl rfl rfl rfl (V_move rfl rfl) ?_
        refine G_val rfl rfl rfl rfl (V_move rfl rfl) ?_
        refine G_val rfl rfl rfl rfl (Val.int (e' := ((48 * i : Nat) : Int)) (V_mul rfl rfl rfl) (mul48 _ (by omega))) ?_
        refine G_val rfl rfl rfl rfl (V_move rfl rfl) ?_
        refine G_val rfl rfl rfl rfl (Val.int (e' := ((48 * i : Nat) : Int)) (V_mul rfl rfl rfl) (mul48 _ (by omega))) ?_
        refine G_val rfl rfl rfl rfl (Val.int (e' := ((48 * i + 48 : Nat) : Int)) (V_add rfl rfl rfl) (add48 _ (by omega))) ?_
        refine G_val rfl rfl rfl rfl (V_sliceLH rfl Tryd.underlying27 infFrameBW_5 rfl rfl rfl rfl rfl rfl (by first | omega | (simp; done) | (simp; omega) | (simp at *; omega)) (by first | omega | (simp; done) | (simp; omega) | (simp at *; omega))) ?_
        refine G_val rfl rfl rfl rfl (V_bytesS (l := ((burst (padF s) a t 32).drop (48 * i)).take 48) rfl rfl Tryd.underlying27 Tryd.underlying5 Tryd.underlying9 (mem_at 1 rfl) (by rw [List.length_take, List.length_drop]; omega) (burst_cells hcb (by omega) (by omega) hcz hi2)) ?_
        refine G_new rfl rfl rfl rfl (N_buildAll (s := 1) (cs := [_]) rfl Tryd.underlying24 infFrameBW_9 rfl rfl rfl rfl rfl rfl rfl rfl rfl) (fun b109 => ?_)
        refine G_append (l1 := [_]) (s := u2) (nn := i) (m := 1) (news := [strC (((burst (padF s) a t 32).drop (48 * i)).take 48)]) (bt := 16) rfl rfl rfl rfl Tryd.underlying24 Tryd.underlying24 (by first | exact .inl rfl | exact .inr ⟨_, rfl⟩) infFrameBW_9 rfl rfl rfl rfl rfl rfl hux rfl (src_mem (mem_at 0 rfl) rfl rfl (by simp [strC, Value.oneCell'])) (by omega) (by omega) ?_
        intro u1 hu1 _
        show G _ _ _ [_, _, _] _
        refine G_val rfl rfl rfl rfl (V_assign rfl rfl) ?_
        refine G_done ?_
        refine G_inBlock ?_
        refine G_region (l := [0, 1, 2]) rfl ?_
        refine G_val rfl rfl rfl rfl (V_move rfl rfl) ?_
        first
          | refine G_val rfl rfl rfl rfl ((V_add rfl rfl rfl).int (wrap_i64 (by omega))) ?_
          | refine G_val rfl rfl rfl rfl (V_add rfl rfl rfl) ?_
        refine G_val rfl rfl rfl rfl (V_assign rfl rfl) ?_
        refine G_done ?_
        refine G_sub ?_ [1, 1] ?_ (ih (i + 1, u1) ?_ ?_)
        · (refine (And.intro ?_ (And.intro ?_ (And.intro ?_ (And.intro ?_ trivial)))) <;> first | rfl | exact slot_int (by omega) | exact slot_int (by simp))
        · exact ⟨_, rfl⟩
        · exact ⟨by omega, by rw [chunks_next, List.map_append]; exact hu1⟩
        · (first | omega | (dsimp only; omega))
      refine G_exit rfl ?_
      refine G_seq ?_
      obtain rfl : i = manyN s.length := by omega
      refine G_region (l := [0, 1, 2, 3, 4, 5, 6, 7, 8]) rfl ?_
      refine G_val rfl rfl rfl rfl (V_move rfl rfl) ?_
      refine G_call (L2 := [_, _]) rfl rfl rfl rfl rfl rfl Tryd.call14 (dec_chunks u2 (manyN s.length) (burst (padF s) a t 32) (by rw [burst_length]; exact hpl) hux) [] [0] rfl rfl ?_
      rintro v post ⟨rfl, rfl⟩
      show G _ _ _ [_, _] _
      refine G_val rfl rfl rfl rfl (V_move rfl rfl) ?_
      refine G_val rfl rfl rfl rfl (V_extract rfl rfl rfl) ?_
      refine G_val rfl rfl rfl rfl (V_extract rfl rfl rfl) ?_
      refine G_val rfl rfl rfl rfl (V_extract rfl rfl rfl) ?_
      refine G_val rfl rfl rfl rfl (V_assign rfl rfl) ?_
      refine G_val rfl rfl rfl rfl (V_assign rfl rfl) ?_
      refine G_val rfl rfl rfl rfl (V_assign rfl rfl) ?_
      refine G_done ?_
      refine G_seq ?_
      rw [d1, d2, d3]
      refine G_region (l := [0, 1, 2, 3, 4, 5, 6, 7, 8, 9, 10, 11, 12, 13, 14]) rfl ?_
      refine G_val rfl rfl rfl rfl (V_move rfl rfl) ?_
      refine G_val rfl rfl rfl rfl (V_seql rfl rfl rfl) ?_
      refine G_val rfl rfl rfl rfl (V_move rfl rfl) ?_
      refine G_splitD 119 rfl (fun hc10 => ?_) (fun hc10 => ?_)
      rotate_left
      · (first | (exact absurd rfl hc10) | (exfalso; omega))
      refine G_val rfl rfl rfl rfl (V_move rfl rfl) ?_
      refine G_val rfl rfl rfl rfl (V_eql rfl rfl rfl) ?_
      refine G_val rfl rfl rfl rfl (V_pickT rfl rfl rfl) ?_
      refine G_val rfl rfl rfl rfl (V_move rfl rfl) ?_
      refine G_splitD 123 rfl (fun hc11 => ?_) (fun hc11 => ?_)
      rotate_left
      · (first | (exact absurd rfl hc11) | (exfalso; omega))
      refine G_val rfl rfl rfl rfl (V_move rfl rfl) ?_
      refine G_call (L2 := [_, _]) rfl rfl rfl rfl rfl rfl Tryd.call15 (fl_num _) [] [] rfl rfl ?_
      rintro v post ⟨rfl, rfl⟩
      show G _ _ _ [_, _] _
      refine G_val rfl rfl rfl rfl (V_eql rfl rfl rfl) ?_
      refine G_val rfl rfl rfl rfl (V_pickT rfl rfl rfl) ?_
      refine G_val rfl rfl rfl rfl (V_move rfl rfl) ?_
      refine G_splitD 128 rfl (fun hc12 => ?_) (fun hc12 => ?_)
      rotate_left
      · (first | (exact absurd rfl hc12) | (exfalso; omega))
      refine G_call (L2 := [_, _]) rfl rfl rfl rfl rfl rfl Tryd.call12 (fl_live) [] [] rfl rfl ?_
      rintro v post ⟨rfl, rfl⟩
      show G _ _ _ [_, _] _
      refine G_val rfl rfl rfl rfl (V_pickT rfl rfl rfl) ?_
      refine G_val rfl rfl rfl rfl (V_assign rfl rfl) ?_
      refine G_done ?_
      refine G_ret (post := []) Tryd.func3 rfl (RVs_cons (RV_tmp rfl) RVs_nil) [] rfl ?_
      dsimp only [packed]
      exact ⟨rfl, rfl⟩
  refine G_off rfl rfl rfl rfl ?_
  refine G_off rfl rfl rfl rfl ?_
  refine G_val rfl rfl rfl rfl (V_pickF rfl rfl rfl) ?_
  refine G_val rfl rfl rfl rfl (V_pickF rfl rfl rfl) ?_
  refine G_val rfl rfl rfl rfl (V_move rfl rfl) ?_
  refine G_val rfl rfl rfl rfl (V_move rfl rfl) ?_
  refine G_val rfl rfl rfl rfl (V_move rfl rfl) ?_
  refine G_val rfl rfl rfl rfl (V_slen rfl rfl Tryd.underlying9 rfl) ?_
  first
    | refine G_val rfl rfl rfl rfl ((V_mul rfl rfl rfl).int (wrap_i64 (by omega))) ?_
    | refine G_val rfl rfl rfl rfl (V_mul rfl rfl rfl) ?_
  first
    | refine G_val rfl rfl rfl rfl ((V_sub rfl rfl rfl).int (wrap_i64 (by omega))) ?_
    | refine G_val rfl rfl rfl rfl (V_sub rfl rfl rfl) ?_
  refine G_val rfl rfl rfl rfl (V_gtr rfl rfl rfl) ?_
  refine G_val rfl rfl rfl rfl (V_pickF rfl rfl rfl) ?_
  refine G_done ?_
  refine G_ifD rfl (fun hc6 => ?_) (fun hc6 => ?_)
  · (first | (exact absurd rfl hc6) | (exfalso; omega))
  refine G_skip ?_
  refine G_seq ?_
  have haz : z = 16 ∨ 48 ≤ z := by omega
  obtain ⟨a, rfl⟩ : ∃ a : Nat, z = (a : Int) := ⟨z.toNat, by omega⟩
  obtain ⟨t, rfl⟩ : ∃ t : Nat, y = (t : Int) := ⟨y.toNat, by omega⟩
  refine G_region (l := [0, 1, 2]) rfl ?_
  refine G_val rfl rfl rfl rfl (V_move rfl rfl) ?_
  refine G_bytesOf rfl rfl rfl rfl rfl Tryd.underlying9 Tryd.underlying27 Tryd.underlying5 rfl (by first | omega | (simp; done) | (simp; omega) | (simp at *; omega)) ?_
  intro b64 csb64 hsb64 hmb64 hbb64
  refine G_val rfl rfl rfl rfl (V_assign rfl rfl) ?_
  refine G_done ?_
  refine G_seq ?_
  refine G_seq ?_
  refine G_region (l := [0]) rfl ?_
  refine G_val rfl rfl rfl rfl (V_assign rfl rfl) ?_
  refine G_done ?_
  refine G_block ?_
  refine G_sub ?he13 [0, 0] ?hl13 (G_loop (X := Nat × Array Value) (fun x => match x with | ⟨i, cs⟩ => i ≤ 32 ∧ cs.size = csb64.size ∧ cs.toList.take (burst (padF s) a t i).length = bcells (burst (padF s) a t i)) (fun x => match x with | ⟨i, cs⟩ => 32 - i) (fun x => match x with | ⟨i, cs⟩ => [(1, .int .i64 (a : Int)), (2, .int .u32 (t : Int)), (7, .slice (some ⟨b9, 0, none⟩) (manyN s.length) cap), (11, .slice (some ⟨b64, 0, none⟩) (padF s).length csb64.size), (12, .int .i64 (i : Int))]) (fun x => match x with | ⟨i, cs⟩ => [(some b64, .cells cs 5 (csb64.size, csb64.size + 1)), (some b9, .cells cs9 9 fz)]) ?round13 (0, csb64) ?h013)
  case he13 => exact (And.intro rfl (And.intro rfl (And.intro rfl (And.intro rfl (And.intro rfl trivial)))))
  case hl13 => exact ⟨_, rfl⟩
  case h013 => exact ⟨Nat.zero_le _, rfl, hbb64⟩
  case round13 =>
   intro x hJ ih
   try dsimp only at hJ ih
   obtain ⟨i, cs⟩ := x
   try dsimp only at hJ ih
   obtain ⟨hi, hcz, hcb⟩ := hJ
   show G _ _ [(1, .int .i64 (a : Int)), (2, .int .u32 (t : Int)), (7, .slice (some ⟨b9, 0, none⟩) (manyN s.length) cap), (11, .slice (some ⟨b64, 0, none⟩) (padF s).length csb64.size), (12, .int .i64 (i : Int))] [(some b64, .cells cs 5 (csb64.size, csb64.size + 1)), (some b9, .cells cs9 9 fz)] _
   refine G_seq ?_
   refine G_seq ?_
   refine G_region (l := [0, 1]) rfl ?_
   refine G_val rfl rfl rfl rfl (V_move rfl rfl) ?_
   refine G_val rfl rfl rfl rfl (V_lss rfl rfl rfl) ?_
   refine G_done ?_
   refine G_ifD rfl (fun hc7 => ?_) (fun hc7 => ?_)
   · skip
     refine G_skip ?_
     refine G_seq ?_
     refine G_block ?_
     refine G_seq ?_
     by_cases hbit : t / 2 ^ i % 2 = 1
     · skip
       refine G_region (l := [0, 1, 2, 3, 4, 5]) rfl ?_
       refine G_val rfl rfl rfl rfl (V_move rfl rfl) ?_
       refine G_val rfl rfl rfl rfl (V_move rfl rfl) ?_
       first
         | refine G_val rfl rfl rfl rfl ((V_conv rfl rfl Tryd.underlying3 Tryd.underlying28).int (wrap_u64 (by omega))) ?_
         | refine G_val rfl rfl rfl rfl (V_conv rfl rfl Tryd.underlying3 Tryd.underlying28) ?_
       refine G_val rfl rfl rfl rfl (Val.int (e' := ((t / 2 ^ i : Nat) : Int)) (V_shr rfl rfl rfl (by omega)) (shr_nat t i (by omega))) ?_
       generalize hqq : t / 2 ^ i = qq at hbit ⊢
       refine G_val rfl rfl rfl rfl (V_rem rfl rfl rfl (by omega) (by omega)) ?_
       refine G_val rfl rfl rfl rfl (V_eql rfl rfl rfl) ?_
       refine G_done ?_
       refine G_ifD rfl (fun hc8 => ?_) (fun hc8 => ?_)
       rotate_left
       · (first | (exact absurd rfl hc8) | (exfalso; omega))
       refine G_seq ?_
       refine G_region (l := [0, 1, 2, 3]) rfl ?_
       refine G_val rfl rfl rfl rfl (V_move rfl rfl) ?_
       refine G_val rfl rfl rfl rfl (V_move rfl rfl) ?_
       refine G_val rfl rfl rfl rfl (Val.int (e' := ((a + i : Nat) : Int)) (V_add rfl rfl rfl) (by rw [wrap_i64 (by omega)]; omega)) ?_
       refine G_val rfl rfl rfl rfl (V_assign rfl rfl) ?_
       refine G_done ?_
       obtain ⟨v, hv⟩ := getI (show (a + i) / 8 < (burst (padF s) a t i).length by rw [burst_length]; omega)
       have hbl := burst_length (padF s) a t i
       have hq8 : (a + i) % 8 < 8 := by omega
       refine G_region (l := [0, 1, 2, 3, 4, 5, 6, 7, 8, 9, 10, 11, 12, 13, 14, 15]) rfl ?_
       refine G_val rfl rfl rfl rfl (V_move rfl rfl) ?_
       refine G_val rfl rfl rfl rfl (V_move rfl rfl) ?_
       refine G_val rfl rfl rfl rfl (Val.int (e' := (((a + i) / 8 : Nat) : Int)) (V_quo rfl rfl rfl (by omega) (by omega) (wrap_i64 (by omega))) (by omega)) ?_
       refine G_val rfl rfl rfl rfl (V_move rfl rfl) ?_
       refine G_val rfl rfl rfl rfl (V_move rfl rfl) ?_
       refine G_val rfl rfl rfl rfl (Val.int (e' := (((a + i) / 8 : Nat) : Int)) (V_quo rfl rfl rfl (by omega) (by omega) (wrap_i64 (by omega))) (by omega)) ?_
       first
         | refine G_val rfl rfl rfl rfl (V_indexAddrN (s := 1) rfl Tryd.underlying27 infFrameBW_5 rfl rfl rfl rfl (by omega)) ?_
         | refine G_val rfl rfl rfl rfl (V_indexAddr (s := 1) rfl Tryd.underlying27 infFrameBW_5 rfl rfl rfl (by omega) (by first | omega | (simp; done) | (simp; omega) | (simp at *; omega))) ?_
       refine G_val rfl rfl rfl rfl (V_load1 rfl rfl (mem_at 0 rfl) (nth_of (by have := bytes_at hcb hv; rwa [show (a + i) / 8 = 0 + (a + i) / 8 * 1 by omega] at this)) Tryd.underlying5 rfl) ?_
       refine G_val rfl rfl rfl rfl (V_move rfl rfl) ?_
       refine G_val rfl rfl rfl rfl (Val.int (e' := (((a + i) % 8 : Nat) : Int)) (V_rem rfl rfl rfl (by omega) (by omega)) (by omega)) ?_
       refine G_val rfl rfl rfl rfl (Val.int (e' := ((7 - (a + i) % 8 : Nat) : Int)) (V_sub rfl rfl rfl) (by rw [wrap_i64 (by omega)]; omega)) ?_
       first
         | refine G_val rfl rfl rfl rfl ((V_conv rfl rfl Tryd.underlying3 Tryd.underlying28).int (wrap_u64 (by omega))) ?_
         | refine G_val rfl rfl rfl rfl (V_conv rfl rfl Tryd.underlying3 Tryd.underlying28) ?_
       refine G_val rfl rfl rfl rfl (Val.int (e' := ((2 ^ (7 - (a + i) % 8) : Nat) : Int)) (V_shl rfl rfl rfl (by omega)) (shl_byte _ hq8)) ?_
       refine G_val rfl rfl rfl rfl (Val.int (e' := ((v ^^^ (1 <<< UInt8.ofNat (7 - (a + i) % 8))).toNat : Int)) (V_bits .xor rfl rfl rfl rfl) (xor_byte v _ hq8)) ?_
       first
         | refine G_val rfl rfl rfl rfl (V_indexAddrN (s := 1) rfl Tryd.underlying27 infFrameBW_5 rfl rfl rfl rfl (by omega)) ?_
         | refine G_val rfl rfl rfl rfl (V_indexAddr (s := 1) rfl Tryd.underlying27 infFrameBW_5 rfl rfl rfl (by omega) (by first | omega | (simp; done) | (simp; omega) | (simp at *; omega))) ?_
       refine G_put (l1 := []) (L' := [_, _]) rfl rfl rfl rfl (P_store1F rfl rfl rfl (mem_at 0 rfl) (by first | omega | (simp; done) | (simp; omega) | (simp at *; omega)) (by first | omega | (simp; done) | (simp; omega) | (simp at *; omega)) infFrameBW_5 rfl rfl) rfl ?_
       refine G_done ?_
       refine G_inBlock ?_
       refine G_region (l := [0, 1, 2]) rfl ?_
       refine G_val rfl rfl rfl rfl (V_move rfl rfl) ?_
       first
         | refine G_val rfl rfl rfl rfl ((V_add rfl rfl rfl).int (wrap_i64 (by omega))) ?_
         | refine G_val rfl rfl rfl rfl (V_add rfl rfl rfl) ?_
       refine G_val rfl rfl rfl rfl (V_assign rfl rfl) ?_
       refine G_done ?_
       refine G_sub ?_ [0, 0] ?_ (ih (i + 1, cs.setIfInBounds (0 + (a + i) / 8 * 1) (.int .u8 ((v ^^^ (1 <<< UInt8.ofNat (7 - (a + i) % 8))).toNat : Int))) ?_ ?_)
       · (refine (And.intro ?_ (And.intro ?_ (And.intro ?_ (And.intro ?_ (And.intro ?_ trivial))))) <;> first | rfl | exact slot_int (by omega) | exact slot_int (by simp))
       · exact ⟨_, rfl⟩
       · first | exact ⟨by omega, by simpa using hcz, by rw [burst, if_pos (by rw [hqq]; exact hbit), modify_set _ hv, Nat.zero_add, Nat.mul_one]; exact bytes_set hcb (by rw [burst_length]; omega) (by omega) _⟩ | exact ⟨by omega, hcz, by rw [burst, if_neg (by rw [hqq]; exact hbit)]; exact hcb⟩
       · (first | omega | (dsimp only; omega))
     · skip
       refine G_region (l := [0, 1, 2, 3, 4, 5]) rfl ?_
       refine G_val rfl rfl rfl rfl (V_move rfl rfl) ?_
       refine G_val rfl rfl rfl rfl (V_move rfl rfl) ?_
       first
         | refine G_val rfl rfl rfl rfl ((V_conv rfl rfl Tryd.underlying3 Tryd.underlying28).int (wrap_u64 (by omega))) ?_
         | refine G_val rfl rfl rfl rfl (V_conv rfl rfl Tryd.underlying3 Tryd.underlying28) ?_
       refine G_val rfl rfl rfl rfl (Val.int (e' := ((t / 2 ^ i : Nat) : Int)) (V_shr rfl rfl rfl (by omega)) (shr_nat t i (by omega))) ?_
       generalize hqq : t / 2 ^ i = qq at hbit ⊢
       refine G_val rfl rfl rfl rfl (V_rem rfl rfl rfl (by omega) (by omega)) ?_
       refine G_val rfl rfl rfl rfl (V_eql rfl rfl rfl) ?_
       refine G_done ?_
       refine G_ifD rfl (fun hc8 => ?_) (fun hc8 => ?_)
       · (first | (exact absurd rfl hc8) | (exfalso; omega))
       refine G_skip ?_
       refine G_inBlock ?_
       refine G_region (l := [0, 1, 2]) rfl ?_
       refine G_val rfl rfl rfl rfl (V_move rfl rfl) ?_
       first
         | refine G_val rfl rfl rfl rfl ((V_add rfl rfl rfl).int (wrap_i64 (by omega))) ?_
         | refine G_val rfl rfl rfl rfl (V_add rfl rfl rfl) ?_
       refine G_val rfl rfl rfl rfl (V_assign rfl rfl) ?_
       refine G_done ?_
       refine G_sub ?_ [0, 0] ?_ (ih (i + 1, cs) ?_ ?_)
       · (refine (And.intro ?_ (And.intro ?_ (And.intro ?_ (And.intro ?_ (And.intro ?_ trivial))))) <;> first | rfl | exact slot_int (by omega) | exact slot_int (by simp))
       · exact ⟨_, rfl⟩
       · first | exact ⟨by omega, by simpa using hcz, by rw [burst, if_pos (by rw [hqq]; exact hbit), modify_set _ hv, Nat.zero_add, Nat.mul_one]; exact bytes_set hcb (by rw [burst_length]; omega) (by omega) _⟩ | exact ⟨by omega, hcz, by rw [burst, if_neg (by rw [hqq]; exact hbit)]; exact hcb⟩
       · (first | omega | (dsimp only; omega))
   refine G_exit rfl ?_
   refine G_seq ?_
   obtain rfl : i = 32 := by omega
   have hbl := burst_length (padF s) a t 32
   obtain ⟨d1, d2, d3⟩ := dec_burst (s := s) (a := a) (t := t) hle (by omega) (by omega) (by omega) (by omega)
   refine G_region (l := [0, 1]) rfl ?_
   refine G_new rfl rfl rfl rfl (N_build0 rfl Tryd.underlying24 infFrameBW_9) (fun b93 => ?_)
   refine G_val rfl rfl rfl rfl (V_assign rfl rfl) ?_
   refine G_done ?_
   refine G_seq ?_
   refine G_seq ?_
   refine G_region (l := [0]) rfl ?_
   refine G_val rfl rfl rfl rfl (V_assign rfl rfl) ?_
   refine G_done ?_
   refine G_block ?_
   refine G_sub ?he20 [0, 0] ?hl20 (G_loop (X := Nat × Sl) (fun x => match x with | ⟨i, u2⟩ => i ≤ manyN s.length ∧ Own 1 u2 ((chunks i (burst (padF s) a t 32)).map strC) i) (fun x => match x with | ⟨i, u2⟩ => manyN s.length - i) (fun x => match x with | ⟨i, u2⟩ => [(7, .slice (some ⟨b9, 0, none⟩) (manyN s.length) cap), (11, .slice (some ⟨b64, 0, none⟩) (padF s).length csb64.size), (14, u2.v i), (15, .int .i64 (i : Int))]) (fun x => match x with | ⟨i, u2⟩ => [(u2.ob, .cells u2.cs 9 u2.fz), (some b64, .cells cs 5 (csb64.size, csb64.size + 1))]) ?round20 (0, ⟨some b93, #[], (0, 0), 0⟩) ?h020)
   case he20 => exact (And.intro rfl (And.intro rfl (And.intro rfl (And.intro rfl trivial))))
   case hl20 => exact ⟨_, rfl⟩
   case h020 => exact ⟨Nat.zero_le _, by rw [chunks_zero]; exact own_empty 1 b93⟩
   case round20 =>
    intro x hJ ih
    try dsimp only at hJ ih
    obtain ⟨i, u2⟩ := x
    try dsimp only at hJ ih
    obtain ⟨hi, hux⟩ := hJ
    show G _ _ [(7, .slice (some ⟨b9, 0, none⟩) (manyN s.length) cap), (11, .slice (some ⟨b64, 0, none⟩) (padF s).length csb64.size), (14, u2.v i), (15, .int .i64 (i : Int))] [(u2.ob, .cells u2.cs 9 u2.fz), (some b64, .cells cs 5 (csb64.size, csb64.size + 1))] _
    refine G_seq ?_
    refine G_seq ?_
    refine G_region (l := [0, 1, 2, 3]) rfl ?_
    refine G_val rfl rfl rfl rfl (V_move rfl rfl) ?_
    refine G_val rfl rfl rfl rfl (V_move rfl rfl) ?_
    refine G_val rfl rfl rfl rfl (V_len rfl rfl Tryd.underlying24 rfl) ?_
    refine G_val rfl rfl rfl rfl (V_lss rfl rfl rfl) ?_
    refine G_done ?_
    refine G_ifD rfl (fun hc8 => ?_) (fun hc8 => ?_)
    · skip
      refine G_skip ?_
      refine G_seq ?_
      refine G_block ?_
      have hi2 : i < manyN s.length := by omega
      refine G_region (l := [0, 1, 2, 3, 4, 5, 6, 7, 8, 9, 10, 11]) rfl ?_
      refine G_val rfl rfl rfl rfl (V_move rfl rfl) ?_
      refine G_val rfl rfl rfl rfl (V_move rfl rfl) ?_
      refine G_val rfl rfl rfl rfl (V_move rfl rfl) ?_
      refine G_val rfl rfl rfl rfl (Val.int (e' := ((48 * i : Nat) : Int)) (V_mul rfl rfl rfl) (mul48 _ (by omega))) ?_
      refine G_val rfl rfl rfl rfl (V_move rfl rfl) ?_
      refine G_val rfl rfl rfl rfl (Val.int (e' := ((48 * i : Nat) : Int)) (V_mul rfl rfl rfl) (mul48 _ (by omega))) ?_
      refine G_val rfl rfl rfl rfl (Val.int (e' := ((48 * i + 48 : Nat) : Int)) (V_add rfl rfl rfl) (add48 _ (by omega))) ?_
      refine G_val rfl rfl rfl rfl (V_sliceLH rfl Tryd.underlying27 infFrameBW_5 rfl rfl rfl rfl rfl rfl (by first | omega | (simp; done) | (simp; omega) | (simp at *; omega)) (by first | omega | (simp; done) | (simp; omega) | (simp at *; omega))) ?_
      refine G_val rfl rfl rfl rfl (V_bytesS (l := ((burst (padF s) a t 32).drop (48 * i)).take 48) rfl rfl Tryd.underlying27 Tryd.underlying5 Tryd.underlying9 (mem_at 1 rfl) (by rw [List.length_take, List.length_drop]; omega) (burst_cells hcb (by omega) (by omega) hcz hi2)) ?_
      refine G_new rfl rfl rfl rfl (N_buildAll (s := 1) (cs := [_]) rfl Tryd.underlying24 infFrameBW_9 rfl rfl rfl rfl rfl rfl rfl rfl rfl) (fun b109 => ?_)
      refine G_append (l1 := [_]) (s := u2) (nn := i) (m := 1) (news := [strC (((burst (padF s) a t 32).drop (48 * i)).take 48)]) (bt := 16) rfl rfl rfl rfl Tryd.underlying24 Tryd.underlying24 (by first | exact .inl rfl | exact .inr ⟨_, rfl⟩) infFrameBW_9 rfl rfl rfl rfl rfl rfl hux rfl (src_mem (mem_at 0 rfl) rfl rfl (by simp [strC, Value.oneCell'])) (by omega) (by omega) ?_
      intro u1 hu1 _
      show G _ _ _ [_, _, _] _
      refine G_val rfl rfl rfl rfl (V_assign rfl rfl) ?_
      refine G_done ?_
      refine G_inBlock ?_
      refine G_region (l := [0, 1, 2]) rfl ?_
      refine G_val rfl rfl rfl rfl (V_move rfl rfl) ?_
      first
        | refine G_val rfl rfl rfl rfl ((V_add rfl rfl rfl).int (wrap_i64 (by omega))) ?_
        | refine G_val rfl rfl rfl rfl (V_add rfl rfl rfl) ?_
      refine G_val rfl rfl rfl rfl (V_assign rfl rfl) ?_
      refine G_done ?_
      refine G_sub ?_ [1, 1] ?_ (ih (i + 1, u1) ?_ ?_)
      · (refine (And.intro ?_ (And.intro ?_ (And.intro ?_ (And.intro ?_ trivial)))) <;> first | rfl | exact slot_int (by omega) | exact slot_int (by simp))
      · exact ⟨_, rfl⟩
      · exact ⟨by omega, by rw [chunks_next, List.map_append]; exact hu1⟩
      · (first | omega | (dsimp only; omega))
    refine G_exit rfl ?_
    refine G_seq ?_
    obtain rfl : i = manyN s.length := by omega
    refine G_region (l := [0, 1, 2, 3, 4, 5, 6, 7, 8]) rfl ?_
    refine G_val rfl rfl rfl rfl (V_move rfl rfl) ?_
    refine G_call (L2 := [_, _]) rfl rfl rfl rfl rfl rfl Tryd.call14 (dec_chunks u2 (manyN s.length) (burst (padF s) a t 32) (by rw [burst_length]; exact hpl) hux) [] [0] rfl rfl ?_
    rintro v post ⟨rfl, rfl⟩
    show G _ _ _ [_, _] _
    refine G_val rfl rfl rfl rfl (V_move rfl rfl) ?_
    refine G_val rfl rfl rfl rfl (V_extract rfl rfl rfl) ?_
    refine G_val rfl rfl rfl rfl (V_extract rfl rfl rfl) ?_
    refine G_val rfl rfl rfl rfl (V_extract rfl rfl rfl) ?_
    refine G_val rfl rfl rfl rfl (V_assign rfl rfl) ?_
    refine G_val rfl rfl rfl rfl (V_assign rfl rfl) ?_
    refine G_val rfl rfl rfl rfl (V_assign rfl rfl) ?_
    refine G_done ?_
    refine G_seq ?_
    rw [d1, d2, d3]
    refine G_region (l := [0, 1, 2, 3, 4, 5, 6, 7, 8, 9, 10, 11, 12, 13, 14]) rfl ?_
    refine G_val rfl rfl rfl rfl (V_move rfl rfl) ?_
    refine G_val rfl rfl rfl rfl (V_seql rfl rfl rfl) ?_
    refine G_val rfl rfl rfl rfl (V_move rfl rfl) ?_
    refine G_splitD 119 rfl (fun hc9 => ?_) (fun hc9 => ?_)
    rotate_left
    · (first | (exact absurd rfl hc9) | (exfalso; omega))
    refine G_val rfl rfl rfl rfl (V_move rfl rfl) ?_
    refine G_val rfl rfl rfl rfl (V_eql rfl rfl rfl) ?_
    refine G_val rfl rfl rfl rfl (V_pickT rfl rfl rfl) ?_
    refine G_val rfl rfl rfl rfl (V_move rfl rfl) ?_
    refine G_splitD 123 rfl (fun hc10 => ?_) (fun hc10 => ?_)
    rotate_left
    · (first | (exact absurd rfl hc10) | (exfalso; omega))
    refine G_val rfl rfl rfl rfl (V_move rfl rfl) ?_
    refine G_call (L2 := [_, _]) rfl rfl rfl rfl rfl rfl Tryd.call15 (fl_num _) [] [] rfl rfl ?_
    rintro v post ⟨rfl, rfl⟩
    show G _ _ _ [_, _] _
    refine G_val rfl rfl rfl rfl (V_eql rfl rfl rfl) ?_
    refine G_val rfl rfl rfl rfl (V_pickT rfl rfl rfl) ?_
    refine G_val rfl rfl rfl rfl (V_move rfl rfl) ?_
    refine G_splitD 128 rfl (fun hc11 => ?_) (fun hc11 => ?_)
    rotate_left
    · (first | (exact absurd rfl hc11) | (exfalso; omega))
    refine G_call (L2 := [_, _]) rfl rfl rfl rfl rfl rfl Tryd.call12 (fl_live) [] [] rfl rfl ?_
    rintro v post ⟨rfl, rfl⟩
    show G _ _ _ [_, _] _
    refine G_val rfl rfl rfl rfl (V_pickT rfl rfl rfl) ?_
    refine G_val rfl rfl rfl rfl (V_assign rfl rfl) ?_
    refine G_done ?_
    refine G_ret (post := []) Tryd.func3 rfl (RVs_cons (RV_tmp rfl) RVs_nil) [] rfl ?_
    dsimp only [packed]
    exact ⟨rfl, rfl⟩

end
end Go.Proofs.YtbblkgdejgoncaaDoor
