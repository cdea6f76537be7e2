/- strings.Repeat of a byte 0, and what it calls. -/
import Derived.Test.YtkekkalgebgokaaDoorBld
import Derived.Test.YtkekkalgebgokaaDoorG12
set_option linter.unusedSimpArgs false
set_option linter.unusedVariables false
namespace Go.Proofs.YtkekkalgebgokaaDoor
open Go Go.RowKit

section
theorem infRep_5 : Tryd.prog.info? 5 = some Tryd.t5 := by kernel_rfl
theorem infRep_55 : Tryd.prog.info? 55 = some Tryd.t55 := by kernel_rfl


theorem and_mask (n : Nat) (h : n < 4294967296) : bitsOp .and .u64 (n : Int) 4294967295 = (n : Int) := by
  have e1 : BitVec.ofInt 64 (n : Int) = BitVec.ofNat 64 n := by apply BitVec.eq_of_toNat_eq; simp [BitVec.toNat_ofInt]
  show IntKind.u64.wrap ((BitVec.ofInt 64 (n : Int) &&& BitVec.ofInt 64 (4294967295 : Int)).toNat : Int) = _
  have e2 : BitVec.ofInt 64 (4294967295 : Int) = BitVec.ofNat 64 4294967295 := rfl
  rw [e1, e2, BitVec.toNat_and]
  have e3 : (BitVec.ofNat 64 n).toNat = n := by simp; omega
  have e4 : (BitVec.ofNat 64 4294967295).toNat = 4294967295 := rfl
  rw [e3, e4]
  have e5 : n &&& 4294967295 = n := by
    have := Nat.and_two_pow_sub_one_of_lt_two_pow (n := 32) (x := n) (by omega)
    simpa using this
  rw [e5]
  exact wrap_u64 (by omega)
theorem shr32 (n : Nat) (h : n < 4294967296) : (n : Int) / (2 : Int) ^ min (32 : Int).toNat IntKind.u64.bits = 0 := by
  have e : (2 : Int) ^ min (32 : Int).toNat IntKind.u64.bits = 4294967296 := by decide
  rw [e]
  omega
theorem wmul1 (n : Nat) (h : n < 4294967296) : IntKind.u64.wrap ((1 : Int) * (n : Int)) = (n : Int) := by rw [wrap_u64 (by omega)]; omega
theorem wmul0 (n : Nat) : IntKind.u64.wrap ((0 : Int) * (n : Int)) = 0 := by rw [Int.zero_mul]; rfl


theorem txt_room (g : Nat) (cs : Array Value) (n : Nat) (h1 : 1 ≤ n) (h2 : n ≤ cs.size) (h3 : cs.size ≤ 9223372036854775807) : Txt ⟨some g, cs, (0, 0), cs.size⟩ [] :=
  ⟨⟨rfl, Nat.zero_le _, h3, by simp, by simp [bcells], by simp, fun h => by cases h⟩, fun _ => by show 0 < cs.size; omega⟩

set_option maxRecDepth 100000 in
set_option maxHeartbeats 1000000 in
theorem bld_grow1 (b n : Nat) (h1 : 1 ≤ n) (h8 : n ≤ 8192) :
    Ct Tryd.prog 61 [.pointer (some ⟨b, 0, none⟩), .int .i64 (n : Int)] [] [(some b, .cells #[.pointer (some ⟨b, 0, none⟩), .slice none 0 0] 57 (0, 0))] fun v post => v = .tuple #[] ∧ ∃ u1, Txt u1 [] ∧ post = [(some b, .cells #[.pointer (some ⟨b, 0, none⟩), u1.v 0] 57 (0, 0)), (u1.ob, .cells u1.cs 5 u1.fz)] := by
 refine ct_of Tryd.func61 rfl rfl (fun w0 => ?_)
 show G _ _ [(0, _), (1, _)] _ _
 refine G_seq ?_
 refine GH_start (Lq := [_]) (isq := [0]) (m := 16) mixedK rfl rfl ?_
 refine GH_take 0 rfl rfl rfl rfl (by kernel_rfl) (by kernel_rfl) (by kernel_rfl) (fun _ _ => (V_move rfl rfl)) ?_
 first
   | refine GH_take 1 rfl rfl rfl rfl (by kernel_rfl) (by kernel_rfl) (by kernel_rfl) (fun _ _ => (V_nilCheck rfl rfl)) ?_
   | refine GH_take 1 rfl rfl rfl rfl (by kernel_rfl) (by kernel_rfl) (by kernel_rfl) (fun _ _ => (V_nilCheckF rfl rfl)) ?_
 refine GH_take 2 rfl rfl rfl rfl (by kernel_rfl) (by kernel_rfl) (by kernel_rfl) (fun _ _ => (V_fieldAddr (fo := 1) rfl Tryd.underlying57 rfl infRep_55 rfl rfl rfl)) ?_
 refine GH_take 3 rfl rfl rfl rfl (by kernel_rfl) (by kernel_rfl) (by kernel_rfl) (fun _ _ => (V_load1 rfl rfl (mem_at 0 rfl) rfl Tryd.underlying55 rfl)) ?_
 refine GH_take 4 rfl rfl rfl rfl (by kernel_rfl) (by kernel_rfl) (by kernel_rfl) (fun _ _ => (V_cap rfl rfl Tryd.underlying55 rfl)) ?_
 refine GH_take 5 rfl rfl rfl rfl (by kernel_rfl) (by kernel_rfl) (by kernel_rfl) (fun _ _ => (Val.int (e' := 0) (V_mul rfl rfl rfl) (rfl))) ?_
 refine GH_take 6 rfl rfl rfl rfl (by kernel_rfl) (by kernel_rfl) (by kernel_rfl) (fun _ _ => (V_move rfl rfl)) ?_
 refine GH_take 7 rfl rfl rfl rfl (by kernel_rfl) (by kernel_rfl) (by kernel_rfl) (fun _ _ => (Val.int (e' := (n : Int)) (V_add rfl rfl rfl) (show IntKind.i64.wrap ((0 : Int) + (n : Int)) = (n : Int) by rw [wrap_i64 (by omega)]; omega))) ?_
 refine GH_take 9 rfl rfl rfl rfl (by kernel_rfl) (by kernel_rfl) (by kernel_rfl) (fun _ _ => (V_move rfl rfl)) ?_
 first
   | refine GH_take 10 rfl rfl rfl rfl (by kernel_rfl) (by kernel_rfl) (by kernel_rfl) (fun _ _ => (V_nilCheck rfl rfl)) ?_
   | refine GH_take 10 rfl rfl rfl rfl (by kernel_rfl) (by kernel_rfl) (by kernel_rfl) (fun _ _ => (V_nilCheckF rfl rfl)) ?_
 refine GH_take 11 rfl rfl rfl rfl (by kernel_rfl) (by kernel_rfl) (by kernel_rfl) (fun _ _ => (V_fieldAddr (fo := 1) rfl Tryd.underlying57 rfl infRep_55 rfl rfl rfl)) ?_
 refine GH_take 12 rfl rfl rfl rfl (by kernel_rfl) (by kernel_rfl) (by kernel_rfl) (fun _ _ => (V_load1 rfl rfl (mem_at 0 rfl) rfl Tryd.underlying55 rfl)) ?_
 refine GH_take 13 rfl rfl rfl rfl (by kernel_rfl) (by kernel_rfl) (by kernel_rfl) (fun _ _ => (V_len rfl rfl Tryd.underlying55 rfl)) ?_
 refine GH_all [8] (by kernel_rfl) (by decide) ?_
 refine (And.intro ?_ trivial)
 · skip
   refine GHop_mnz (m := n) (ps := #[3]) rfl rfl rfl rfl rfl rfl Tryd.func69 (by kernel_rfl) (by kernel_rfl) (by kernel_rfl) (by kernel_rfl) Tryd.underlying55 (by omega) [1] (fun _ _ => ⟨_, rfl⟩) (fun b13 csb13 h1b13 h2b13 => ?_)
   refine GH_take 14 rfl rfl rfl rfl (by kernel_rfl) (by kernel_rfl) (by kernel_rfl) (fun _ _ => (V_sliceH rfl Tryd.underlying55 infRep_5 rfl rfl rfl (by first | omega | (simp; done) | (simp; omega) | (simp at *; omega)))) ?_
   refine GH_take 15 rfl rfl rfl rfl (by kernel_rfl) (by kernel_rfl) (by kernel_rfl) (fun _ _ => (V_assign rfl rfl)) ?_
   refine GH_done (by kernel_rfl) ?_
   refine G_seq ?_
   refine G_region (l := [0, 1, 2, 3, 4, 5]) rfl ?_
   refine G_val rfl rfl rfl rfl (V_move rfl rfl) ?_
   refine G_val rfl rfl rfl rfl (V_move rfl rfl) ?_
   first
     | refine G_val rfl rfl rfl rfl (V_nilCheck rfl rfl) ?_
     | refine G_val rfl rfl rfl rfl (V_nilCheckF rfl rfl) ?_
   refine G_val rfl rfl rfl rfl (V_fieldAddr (fo := 1) rfl Tryd.underlying57 rfl infRep_55 rfl rfl rfl) ?_
   refine G_val rfl rfl rfl rfl (V_load1 rfl rfl (mem_at 1 rfl) rfl Tryd.underlying55 rfl) ?_
   refine G_val rfl rfl rfl rfl (V_copy0 rfl rfl Tryd.underlying55 infRep_5 rfl rfl) ?_
   refine G_done ?_
   refine G_region (l := [0, 1, 2, 3, 4]) rfl ?_
   refine G_val rfl rfl rfl rfl (V_move rfl rfl) ?_
   refine G_val rfl rfl rfl rfl (V_move rfl rfl) ?_
   first
     | refine G_val rfl rfl rfl rfl (V_nilCheck rfl rfl) ?_
     | refine G_val rfl rfl rfl rfl (V_nilCheckF rfl rfl) ?_
   refine G_val rfl rfl rfl rfl (V_fieldAddr (fo := 1) rfl Tryd.underlying57 rfl infRep_55 rfl rfl rfl) ?_
   refine G_put (l1 := [_]) (L' := [_, _]) rfl rfl rfl rfl (P_store1 rfl rfl rfl (mem_at 1 rfl) (by first | exact of_decide_eq_true rfl | omega | (simp; done) | (simp; omega) | (simp at *; omega)) infRep_55 rfl rfl) rfl ?_
   refine G_done ?_
   refine G_end (post := [_, _]) Tryd.func61 rfl RVs_nil [1, 0] rfl ?_
   dsimp only [packed]
   exact ⟨rfl, ⟨some b13, csb13, (0, 0), csb13.size⟩, txt_room b13 csb13 n h1 h1b13 h2b13, rfl⟩

set_option maxRecDepth 100000 in
set_option maxHeartbeats 1000000 in
theorem bld_grow (b n : Nat) (h1 : 1 ≤ n) (h8 : n ≤ 8192) :
    Ct Tryd.prog 53 [.pointer (some ⟨b, 0, none⟩), .int .i64 (n : Int)] [] [(some b, .cells #[.pointer none, .slice none 0 0] 57 (0, 0))] fun v post => v = .tuple #[] ∧ ∃ u1, Txt u1 [] ∧ post = [(some b, .cells #[.pointer (some ⟨b, 0, none⟩), u1.v 0] 57 (0, 0)), (u1.ob, .cells u1.cs 5 u1.fz)] := by
 refine ct_of Tryd.func53 rfl rfl (fun w0 => ?_)
 show G _ _ [(0, _), (1, _)] _ _
 refine G_seq ?_
 refine G_region (l := [0, 1]) rfl ?_
 refine G_val rfl rfl rfl rfl (V_move rfl rfl) ?_
 refine G_call (L2 := []) rfl rfl rfl rfl rfl rfl Tryd.call49 (copy_fresh b _ rfl) [0] [] rfl rfl ?_
 rintro v post ⟨rfl, rfl⟩
 show G _ _ _ [_] _
 refine G_done ?_
 refine G_seq ?_
 refine G_seq ?_
 refine G_region (l := [0, 1]) rfl ?_
 refine G_val rfl rfl rfl rfl (V_move rfl rfl) ?_
 refine G_val rfl rfl rfl rfl (V_lss rfl rfl rfl) ?_
 refine G_done ?_
 refine G_ifD rfl (fun hc1 => ?_) (fun hc1 => ?_)
 · (exfalso; omega)
 refine G_skip ?_
 refine G_seq ?_
 refine GH_start (Lq := [_]) (isq := [0]) (m := 13) mixedK rfl rfl ?_
 refine GH_take 0 rfl rfl rfl rfl (by kernel_rfl) (by kernel_rfl) (by kernel_rfl) (fun _ _ => (V_move rfl rfl)) ?_
 first
   | refine GH_take 1 rfl rfl rfl rfl (by kernel_rfl) (by kernel_rfl) (by kernel_rfl) (fun _ _ => (V_nilCheck rfl rfl)) ?_
   | refine GH_take 1 rfl rfl rfl rfl (by kernel_rfl) (by kernel_rfl) (by kernel_rfl) (fun _ _ => (V_nilCheckF rfl rfl)) ?_
 refine GH_take 2 rfl rfl rfl rfl (by kernel_rfl) (by kernel_rfl) (by kernel_rfl) (fun _ _ => (V_fieldAddr (fo := 1) rfl Tryd.underlying57 rfl infRep_55 rfl rfl rfl)) ?_
 refine GH_take 3 rfl rfl rfl rfl (by kernel_rfl) (by kernel_rfl) (by kernel_rfl) (fun _ _ => (V_load1 rfl rfl (mem_at 0 rfl) rfl Tryd.underlying55 rfl)) ?_
 refine GH_take 4 rfl rfl rfl rfl (by kernel_rfl) (by kernel_rfl) (by kernel_rfl) (fun _ _ => (V_cap rfl rfl Tryd.underlying55 rfl)) ?_
 refine GH_take 5 rfl rfl rfl rfl (by kernel_rfl) (by kernel_rfl) (by kernel_rfl) (fun _ _ => (V_move rfl rfl)) ?_
 first
   | refine GH_take 6 rfl rfl rfl rfl (by kernel_rfl) (by kernel_rfl) (by kernel_rfl) (fun _ _ => (V_nilCheck rfl rfl)) ?_
   | refine GH_take 6 rfl rfl rfl rfl (by kernel_rfl) (by kernel_rfl) (by kernel_rfl) (fun _ _ => (V_nilCheckF rfl rfl)) ?_
 refine GH_take 7 rfl rfl rfl rfl (by kernel_rfl) (by kernel_rfl) (by kernel_rfl) (fun _ _ => (V_fieldAddr (fo := 1) rfl Tryd.underlying57 rfl infRep_55 rfl rfl rfl)) ?_
 refine GH_take 8 rfl rfl rfl rfl (by kernel_rfl) (by kernel_rfl) (by kernel_rfl) (fun _ _ => (V_load1 rfl rfl (mem_at 0 rfl) rfl Tryd.underlying55 rfl)) ?_
 refine GH_take 9 rfl rfl rfl rfl (by kernel_rfl) (by kernel_rfl) (by kernel_rfl) (fun _ _ => (V_len rfl rfl Tryd.underlying55 rfl)) ?_
 first
   | refine GH_take 10 rfl rfl rfl rfl (by kernel_rfl) (by kernel_rfl) (by kernel_rfl) (fun _ _ => ((V_sub rfl rfl rfl).int (wrap_i64 (by omega)))) ?_
   | refine GH_take 10 rfl rfl rfl rfl (by kernel_rfl) (by kernel_rfl) (by kernel_rfl) (fun _ _ => (V_sub rfl rfl rfl)) ?_
 refine GH_take 11 rfl rfl rfl rfl (by kernel_rfl) (by kernel_rfl) (by kernel_rfl) (fun _ _ => (V_move rfl rfl)) ?_
 refine GH_take 12 rfl rfl rfl rfl (by kernel_rfl) (by kernel_rfl) (by kernel_rfl) (fun _ _ => (V_lss rfl rfl rfl)) ?_
 refine GH_done (by kernel_rfl) ?_
 refine G_ifD rfl (fun hc2 => ?_) (fun hc2 => ?_)
 rotate_left
 · (exfalso; omega)
 refine G_region (l := [0, 1, 2]) rfl ?_
 refine G_val rfl rfl rfl rfl (V_move rfl rfl) ?_
 refine G_val rfl rfl rfl rfl (V_move rfl rfl) ?_
 refine G_call (L2 := []) rfl rfl rfl rfl rfl rfl Tryd.call61 (bld_grow1 _ n (by omega) (by omega)) [0] [] rfl rfl ?_
 rintro v post ⟨rfl, u1, hu1, rfl⟩
 show G _ _ _ [_, _] _
 refine G_done ?_
 refine G_end (post := [_, _]) Tryd.func53 rfl RVs_nil [0, 0] rfl ?_
 dsimp only [packed]
 exact ⟨rfl, u1, hu1, rfl⟩


theorem rep_step (m k : Nat) (h : k ≤ m) : List.replicate m (0 : UInt8) ++ (List.replicate m (0 : UInt8)).take k = List.replicate (m + k) 0 := by
  rw [List.take_replicate, Nat.min_eq_left h, List.replicate_append_replicate]

end
end Go.Proofs.YtkekkalgebgokaaDoor
