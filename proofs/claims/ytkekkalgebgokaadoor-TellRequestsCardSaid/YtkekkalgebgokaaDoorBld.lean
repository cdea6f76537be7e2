/- strings.Builder: what is written, one behind the other. -/
import Derived.Test.YtkekkalgebgokaaDoorGK
import Derived.Test.YtkekkalgebgokaaDoorG8
import Derived.Test.YtkekkalgebgokaaDoorG10
set_option linter.unusedSimpArgs false
set_option linter.unusedVariables false
namespace Go.Proofs.YtkekkalgebgokaaDoor
open Go Go.RowKit

section
theorem infBld_5 : Tryd.prog.info? 5 = some Tryd.t5 := by kernel_rfl
theorem infBld_54 : Tryd.prog.info? 54 = some Tryd.t54 := by kernel_rfl
theorem infBld_55 : Tryd.prog.info? 55 = some Tryd.t55 := by kernel_rfl
theorem infBld_57 : Tryd.prog.info? 57 = some Tryd.t57 := by kernel_rfl

set_option maxRecDepth 100000 in
set_option maxHeartbeats 1000000 in
theorem copy_fresh (b : Nat) (s : Value) (hs : s.oneCell' = true) :
    Ct Tryd.prog 49 [.pointer (some ⟨b, 0, none⟩)] [] [(some b, .cells #[.pointer none, s] 57 (0, 0))] fun v post => v = .tuple #[] ∧ post = [(some b, .cells #[.pointer (some ⟨b, 0, none⟩), s] 57 (0, 0))] := by
 refine ct_of Tryd.func49 rfl rfl (fun w0 => ?_)
 show G _ _ [(0, _)] _ _
 refine G_seq ?_
 refine G_region (l := [0, 1, 2, 3, 4]) rfl ?_
 refine G_val rfl rfl rfl rfl (V_move rfl rfl) ?_
 first
   | refine G_val rfl rfl rfl rfl (V_nilCheck rfl rfl) ?_
   | refine G_val rfl rfl rfl rfl (V_nilCheckF rfl rfl) ?_
 refine G_val rfl rfl rfl rfl (V_fieldAddr (fo := 0) rfl Tryd.underlying57 rfl infBld_54 rfl rfl rfl) ?_
 refine G_val rfl rfl rfl rfl (V_load1 rfl rfl (mem_at 0 rfl) rfl Tryd.underlying54 rfl) ?_
 refine G_val rfl rfl rfl rfl (V_peqlN rfl Tryd.underlying54 rfl rfl) ?_
 refine G_done ?_
 refine G_then rfl ?_
 refine G_region (l := [0, 1, 2, 3, 4, 5, 6, 7]) rfl ?_
 refine G_val rfl rfl rfl rfl (V_move rfl rfl) ?_
 refine G_val rfl rfl rfl rfl (V_move rfl rfl) ?_
 refine G_val rfl rfl rfl rfl (V_toUnsafe rfl rfl Tryd.underlying54 Tryd.underlying125 infBld_57 rfl (mem_at 0 rfl) (by simp)) ?_
 refine G_val rfl rfl rfl rfl (V_extern (ev := Extern.AbiNoEscape.same) rfl rfl Tryd.func58 (by kernel_rfl) (by kernel_rfl) (by kernel_rfl) (by kernel_rfl) (fun w => rfl)) ?_
 refine G_val rfl rfl rfl rfl (V_fromUnsafe rfl rfl Tryd.underlying54 Tryd.underlying125 infBld_57 (mem_at 0 rfl) (by kernel_rfl)) ?_
 first
   | refine G_val rfl rfl rfl rfl (V_nilCheck rfl rfl) ?_
   | refine G_val rfl rfl rfl rfl (V_nilCheckF rfl rfl) ?_
 refine G_val rfl rfl rfl rfl (V_fieldAddr (fo := 0) rfl Tryd.underlying57 rfl infBld_54 rfl rfl rfl) ?_
 refine G_put (l1 := []) (L' := [_]) rfl rfl rfl rfl (P_store1 rfl rfl rfl (mem_at 0 rfl) (by first | exact of_decide_eq_true rfl | omega | (simp; done) | (simp; omega) | (simp at *; omega)) infBld_54 rfl rfl) rfl ?_
 refine G_done ?_
 refine G_end (post := [_]) Tryd.func49 rfl RVs_nil [0] rfl ?_
 dsimp only [packed]
 exact ⟨rfl, rfl⟩

set_option maxRecDepth 100000 in
set_option maxHeartbeats 1000000 in
theorem copy_used (b : Nat) (s : Value) :
    Ct Tryd.prog 49 [.pointer (some ⟨b, 0, none⟩)] [] [(some b, .cells #[.pointer (some ⟨b, 0, none⟩), s] 57 (0, 0))] fun v post => v = .tuple #[] ∧ post = [(some b, .cells #[.pointer (some ⟨b, 0, none⟩), s] 57 (0, 0))] := by
 refine ct_of Tryd.func49 rfl rfl (fun w0 => ?_)
 show G _ _ [(0, _)] _ _
 refine G_seq ?_
 refine G_region (l := [0, 1, 2, 3, 4]) rfl ?_
 refine G_val rfl rfl rfl rfl (V_move rfl rfl) ?_
 first
   | refine G_val rfl rfl rfl rfl (V_nilCheck rfl rfl) ?_
   | refine G_val rfl rfl rfl rfl (V_nilCheckF rfl rfl) ?_
 refine G_val rfl rfl rfl rfl (V_fieldAddr (fo := 0) rfl Tryd.underlying57 rfl infBld_54 rfl rfl rfl) ?_
 refine G_val rfl rfl rfl rfl (V_load1 rfl rfl (mem_at 0 rfl) rfl Tryd.underlying54 rfl) ?_
 refine G_val rfl rfl rfl rfl (V_peqlN rfl Tryd.underlying54 rfl rfl) ?_
 refine G_done ?_
 refine G_else rfl ?_
 refine G_seq ?_
 refine G_region (l := [0, 1, 2, 3, 4, 5]) rfl ?_
 refine G_val rfl rfl rfl rfl (V_move rfl rfl) ?_
 first
   | refine G_val rfl rfl rfl rfl (V_nilCheck rfl rfl) ?_
   | refine G_val rfl rfl rfl rfl (V_nilCheckF rfl rfl) ?_
 refine G_val rfl rfl rfl rfl (V_fieldAddr (fo := 0) rfl Tryd.underlying57 rfl infBld_54 rfl rfl rfl) ?_
 refine G_val rfl rfl rfl rfl (V_load1 rfl rfl (mem_at 0 rfl) rfl Tryd.underlying54 rfl) ?_
 refine G_val rfl rfl rfl rfl (V_move rfl rfl) ?_
 refine G_val rfl rfl rfl rfl (V_pneqSame rfl Tryd.underlying54 infBld_57 rfl rfl) ?_
 refine G_done ?_
 refine G_else rfl ?_
 refine G_skip ?_
 refine G_end (post := [_]) Tryd.func49 rfl RVs_nil [0] rfl ?_
 dsimp only [packed]
 exact ⟨rfl, rfl⟩


def UsedOr (b : Nat) (p : Value) : Prop := p = .pointer none ∨ p = .pointer (some ⟨b, 0, none⟩)
theorem UsedOr.self (b : Nat) : UsedOr b (.pointer (some ⟨b, 0, none⟩)) := .inr rfl
theorem copy_any (b : Nat) (p s : Value) (hs : s.oneCell' = true) (hp : UsedOr b p) : Ct Tryd.prog 49 [.pointer (some ⟨b, 0, none⟩)] [] [(some b, .cells #[p, s] 57 (0, 0))] (fun v post => v = .tuple #[] ∧ post = [(some b, .cells #[.pointer (some ⟨b, 0, none⟩), s] 57 (0, 0))]) := by
  rcases hp with rfl | rfl
  · exact copy_fresh b s hs
  · exact copy_used b s
/-- A text in a buffer. -/
structure Txt (u : Sl) (tx : List UInt8) : Prop where
  own : Own 1 u (bcells tx) tx.length
  pos : u.ob ≠ none → 0 < u.cap
theorem txt_nil : Txt slNil [] := ⟨own_nil 1, fun h => absurd rfl h⟩
theorem Txt.more {u s' : Sl} {tx s : List UInt8} (h : Txt u tx) (h1 : Own 1 s' (bcells tx ++ bcells s) (tx.length + s.length)) (h2 : (u.ob ≠ none → 0 < u.cap) → s'.ob ≠ none → 0 < s'.cap) : Txt s' (tx ++ s) :=
  ⟨by rw [bcells_append, List.length_append]; exact h1, h2 h.pos⟩

set_option maxRecDepth 100000 in
set_option maxHeartbeats 1000000 in
theorem bld_write (b : Nat) (p : Value) (u : Sl) (tx s : List UInt8) (hp : UsedOr b p) (hu : Txt u tx) (hs : tx.length + s.length ≤ 140737488355328) :
    Ct Tryd.prog 22 [.pointer (some ⟨b, 0, none⟩), .string (bs s)] [] [(some b, .cells #[p, u.v tx.length] 57 (0, 0)), (u.ob, .cells u.cs 5 u.fz)] fun v post => v = .tuple #[.int .i64 (s.length : Int), .nilIface] ∧ ∃ u1, Txt u1 (tx ++ s) ∧ post = [(some b, .cells #[.pointer (some ⟨b, 0, none⟩), u1.v (tx ++ s).length] 57 (0, 0)), (u1.ob, .cells u1.cs 5 u1.fz)] := by
 refine ct_of Tryd.func22 rfl rfl (fun w0 => ?_)
 show G _ _ [(0, _), (1, _)] _ _
 refine G_seq ?_
 refine G_region (l := [0, 1]) rfl ?_
 refine G_val rfl rfl rfl rfl (V_assign rfl rfl) ?_
 refine G_val rfl rfl rfl rfl (V_assign rfl rfl) ?_
 refine G_done ?_
 refine G_seq ?_
 refine G_region (l := [0, 1]) rfl ?_
 refine G_val rfl rfl rfl rfl (V_move rfl rfl) ?_
 refine G_call (L2 := [_]) rfl rfl rfl rfl rfl rfl Tryd.call49 (copy_any _ _ _ rfl hp) [0] [] rfl rfl ?_
 rintro v post ⟨rfl, rfl⟩
 show G _ _ _ [_, _] _
 refine G_done ?_
 refine G_seq ?_
 refine G_region (l := [0, 1, 2, 3, 4, 5, 6, 7, 8, 9]) rfl ?_
 refine G_val rfl rfl rfl rfl (V_move rfl rfl) ?_
 refine G_val rfl rfl rfl rfl (V_move rfl rfl) ?_
 first
   | refine G_val rfl rfl rfl rfl (V_nilCheck rfl rfl) ?_
   | refine G_val rfl rfl rfl rfl (V_nilCheckF rfl rfl) ?_
 refine G_val rfl rfl rfl rfl (V_fieldAddr (fo := 1) rfl Tryd.underlying57 rfl infBld_55 rfl rfl rfl) ?_
 refine G_val rfl rfl rfl rfl (V_load1 rfl rfl (mem_at 0 rfl) rfl Tryd.underlying55 rfl) ?_
 refine G_val rfl rfl rfl rfl (V_move rfl rfl) ?_
 refine G_append (l1 := [_]) (s := u) (nn := tx.length) (m := s.length) (news := bcells s) (bt := 1) rfl rfl rfl rfl Tryd.underlying55 Tryd.underlying9 (by first | exact .inl rfl | exact .inr ⟨_, rfl⟩) infBld_5 rfl rfl rfl rfl rfl rfl hu.own rfl (fun w _ => src_string _) (by omega) (by omega) ?_
 intro u1 hu1 hq1
 show G _ _ _ [_, _] _
 first
   | refine G_val rfl rfl rfl rfl (V_nilCheck rfl rfl) ?_
   | refine G_val rfl rfl rfl rfl (V_nilCheckF rfl rfl) ?_
 refine G_val rfl rfl rfl rfl (V_fieldAddr (fo := 1) rfl Tryd.underlying57 rfl infBld_55 rfl rfl rfl) ?_
 refine G_put (l1 := []) (L' := [_, _]) rfl rfl rfl rfl (P_store1 rfl rfl rfl (mem_at 0 rfl) (by first | exact of_decide_eq_true rfl | omega | (simp; done) | (simp; omega) | (simp at *; omega)) infBld_55 rfl rfl) rfl ?_
 refine G_done ?_
 refine G_seq ?_
 refine G_region (l := [0, 1, 2, 3]) rfl ?_
 refine G_val rfl rfl rfl rfl (V_move rfl rfl) ?_
 refine G_val rfl rfl rfl rfl (V_slen rfl rfl Tryd.underlying9 rfl) ?_
 refine G_val rfl rfl rfl rfl (V_assign rfl rfl) ?_
 refine G_val rfl rfl rfl rfl (V_assign rfl rfl) ?_
 refine G_done ?_
 refine G_ret (post := [_, _]) Tryd.func22 rfl (RVs_cons (RV_tmp rfl) (RVs_cons (RV_tmp rfl) RVs_nil)) [0, 0] rfl ?_
 dsimp only [packed]
 exact ⟨rfl, u1, hu.more hu1 hq1.pos, by rw [List.length_append]; rfl⟩


theorem bld_write0 (b : Nat) (s : List UInt8) (hs : s.length ≤ 140737488355328) : Ct Tryd.prog 22 [.pointer (some ⟨b, 0, none⟩), .string (bs s)] [] [(some b, .cells #[.pointer none, .slice none 0 0] 57 (0, 0)), (none, .cells #[] 5 (0, 0))]
    (fun v post => v = .tuple #[.int .i64 (s.length : Int), .nilIface] ∧ ∃ u1, Txt u1 s ∧ post = [(some b, .cells #[.pointer (some ⟨b, 0, none⟩), u1.v s.length] 57 (0, 0)), (u1.ob, .cells u1.cs 5 u1.fz)]) :=
  bld_write b (.pointer none) slNil [] s (.inl rfl) txt_nil (by simpa using hs)

set_option maxRecDepth 100000 in
set_option maxHeartbeats 1000000 in
theorem bld_string1 (b g cap : Nat) (p : Value) (cs : Array Value) (fz : Nat × Nat) (tx : List UInt8) (hu : Txt ⟨some g, cs, fz, cap⟩ tx) (h0 : tx ≠ []) (hs : tx.length ≤ 140737488355328) :
    Ct Tryd.prog 23 [.pointer (some ⟨b, 0, none⟩)] [] [(some b, .cells #[p, .slice (some ⟨g, 0, none⟩) tx.length cap] 57 (0, 0)), (some g, .cells cs 5 fz)] fun v post => v = .string (bs tx) ∧ post = [(some b, .cells #[p, .slice (some ⟨g, 0, none⟩) tx.length cap] 57 (0, 0)), (some g, .cells cs 5 (frz fz tx.length))] := by
 have hcap := hu.pos (by simp)
 simp only at hcap
 have hsz := hu.own.size
 have hle := hu.own.le
 have hpre := hu.own.pre
 simp only [Nat.mul_one] at hsz hle hpre
 refine ct_of Tryd.func23 rfl rfl (fun w0 => ?_)
 show G _ _ [(0, _)] _ _
 refine G_seq ?_
 refine G_region (l := [0]) rfl ?_
 refine G_val rfl rfl rfl rfl (V_assign rfl rfl) ?_
 refine G_done ?_
 refine G_seq ?_
 refine GH_start (Lq := [_]) (isq := [0]) (m := 12) mixedK rfl rfl ?_
 refine GH_take 0 rfl rfl rfl rfl (by kernel_rfl) (by kernel_rfl) (by kernel_rfl) (fun _ _ => (V_move rfl rfl)) ?_
 first
   | refine GH_take 1 rfl rfl rfl rfl (by kernel_rfl) (by kernel_rfl) (by kernel_rfl) (fun _ _ => (V_nilCheck rfl rfl)) ?_
   | refine GH_take 1 rfl rfl rfl rfl (by kernel_rfl) (by kernel_rfl) (by kernel_rfl) (fun _ _ => (V_nilCheckF rfl rfl)) ?_
 refine GH_take 2 rfl rfl rfl rfl (by kernel_rfl) (by kernel_rfl) (by kernel_rfl) (fun _ _ => (V_fieldAddr (fo := 1) rfl Tryd.underlying57 rfl infBld_55 rfl rfl rfl)) ?_
 refine GH_take 3 rfl rfl rfl rfl (by kernel_rfl) (by kernel_rfl) (by kernel_rfl) (fun _ _ => (V_load1 rfl rfl (mem_at 0 rfl) rfl Tryd.underlying55 rfl)) ?_
 first
   | refine GH_take 4 rfl rfl rfl rfl (by kernel_rfl) (by kernel_rfl) (by kernel_rfl) (fun _ _ => (V_sliceDataN rfl rfl)) ?_
   | refine GH_take 4 rfl rfl rfl rfl (by kernel_rfl) (by kernel_rfl) (by kernel_rfl) (fun _ _ => (V_sliceDataS rfl rfl (by first | omega | (simp; done) | (simp; omega) | (simp at *; omega)))) ?_
 refine GH_take 5 rfl rfl rfl rfl (by kernel_rfl) (by kernel_rfl) (by kernel_rfl) (fun _ _ => (V_move rfl rfl)) ?_
 first
   | refine GH_take 6 rfl rfl rfl rfl (by kernel_rfl) (by kernel_rfl) (by kernel_rfl) (fun _ _ => (V_nilCheck rfl rfl)) ?_
   | refine GH_take 6 rfl rfl rfl rfl (by kernel_rfl) (by kernel_rfl) (by kernel_rfl) (fun _ _ => (V_nilCheckF rfl rfl)) ?_
 refine GH_take 7 rfl rfl rfl rfl (by kernel_rfl) (by kernel_rfl) (by kernel_rfl) (fun _ _ => (V_fieldAddr (fo := 1) rfl Tryd.underlying57 rfl infBld_55 rfl rfl rfl)) ?_
 refine GH_take 8 rfl rfl rfl rfl (by kernel_rfl) (by kernel_rfl) (by kernel_rfl) (fun _ _ => (V_load1 rfl rfl (mem_at 0 rfl) rfl Tryd.underlying55 rfl)) ?_
 refine GH_take 9 rfl rfl rfl rfl (by kernel_rfl) (by kernel_rfl) (by kernel_rfl) (fun _ _ => (V_len rfl rfl Tryd.underlying55 rfl)) ?_
 refine GH_all [10] (by kernel_rfl) (by decide) ?_
 refine (And.intro ?_ trivial)
 · skip
   refine GHop_putV (l1 := [_]) (L' := [_, _]) rfl rfl rfl rfl rfl (P_unsafeString (l := tx) rfl Tryd.underlying103 (by kernel_rfl) rfl rfl rfl (mem_at 1 rfl) h0 (by omega) (by omega) hpre) rfl [0] rfl ?_
   refine GH_take 11 rfl rfl rfl rfl (by kernel_rfl) (by kernel_rfl) (by kernel_rfl) (fun _ _ => (V_assign rfl rfl)) ?_
   refine GH_done (by kernel_rfl) ?_
   refine G_ret (post := [_, _]) Tryd.func23 rfl (RVs_cons (RV_tmp rfl) RVs_nil) [0, 0] rfl ?_
   dsimp only [packed]
   exact ⟨rfl, rfl⟩

set_option maxRecDepth 100000 in
set_option maxHeartbeats 1000000 in
theorem bld_string0 (b : Nat) (p : Value) (u : Sl) (cap : Nat) :
    Ct Tryd.prog 23 [.pointer (some ⟨b, 0, none⟩)] [] [(some b, .cells #[p, .slice none 0 cap] 57 (0, 0)), (none, .cells u.cs 5 u.fz)] fun v post => v = .string (bs []) ∧ post = [(some b, .cells #[p, .slice none 0 cap] 57 (0, 0)), (none, .cells u.cs 5 u.fz)] := by
 refine ct_of Tryd.func23 rfl rfl (fun w0 => ?_)
 show G _ _ [(0, _)] _ _
 refine G_seq ?_
 refine G_region (l := [0]) rfl ?_
 refine G_val rfl rfl rfl rfl (V_assign rfl rfl) ?_
 refine G_done ?_
 refine G_seq ?_
 refine GH_start (Lq := [_]) (isq := [0]) (m := 12) mixedK rfl rfl ?_
 refine GH_take 0 rfl rfl rfl rfl (by kernel_rfl) (by kernel_rfl) (by kernel_rfl) (fun _ _ => (V_move rfl rfl)) ?_
 first
   | refine GH_take 1 rfl rfl rfl rfl (by kernel_rfl) (by kernel_rfl) (by kernel_rfl) (fun _ _ => (V_nilCheck rfl rfl)) ?_
   | refine GH_take 1 rfl rfl rfl rfl (by kernel_rfl) (by kernel_rfl) (by kernel_rfl) (fun _ _ => (V_nilCheckF rfl rfl)) ?_
 refine GH_take 2 rfl rfl rfl rfl (by kernel_rfl) (by kernel_rfl) (by kernel_rfl) (fun _ _ => (V_fieldAddr (fo := 1) rfl Tryd.underlying57 rfl infBld_55 rfl rfl rfl)) ?_
 refine GH_take 3 rfl rfl rfl rfl (by kernel_rfl) (by kernel_rfl) (by kernel_rfl) (fun _ _ => (V_load1 rfl rfl (mem_at 0 rfl) rfl Tryd.underlying55 rfl)) ?_
 first
   | refine GH_take 4 rfl rfl rfl rfl (by kernel_rfl) (by kernel_rfl) (by kernel_rfl) (fun _ _ => (V_sliceDataN rfl rfl)) ?_
   | refine GH_take 4 rfl rfl rfl rfl (by kernel_rfl) (by kernel_rfl) (by kernel_rfl) (fun _ _ => (V_sliceDataS rfl rfl (by first | omega | (simp; done) | (simp; omega) | (simp at *; omega)))) ?_
 refine GH_take 5 rfl rfl rfl rfl (by kernel_rfl) (by kernel_rfl) (by kernel_rfl) (fun _ _ => (V_move rfl rfl)) ?_
 first
   | refine GH_take 6 rfl rfl rfl rfl (by kernel_rfl) (by kernel_rfl) (by kernel_rfl) (fun _ _ => (V_nilCheck rfl rfl)) ?_
   | refine GH_take 6 rfl rfl rfl rfl (by kernel_rfl) (by kernel_rfl) (by kernel_rfl) (fun _ _ => (V_nilCheckF rfl rfl)) ?_
 refine GH_take 7 rfl rfl rfl rfl (by kernel_rfl) (by kernel_rfl) (by kernel_rfl) (fun _ _ => (V_fieldAddr (fo := 1) rfl Tryd.underlying57 rfl infBld_55 rfl rfl rfl)) ?_
 refine GH_take 8 rfl rfl rfl rfl (by kernel_rfl) (by kernel_rfl) (by kernel_rfl) (fun _ _ => (V_load1 rfl rfl (mem_at 0 rfl) rfl Tryd.underlying55 rfl)) ?_
 refine GH_take 9 rfl rfl rfl rfl (by kernel_rfl) (by kernel_rfl) (by kernel_rfl) (fun _ _ => (V_len rfl rfl Tryd.underlying55 rfl)) ?_
 refine GH_take 10 rfl rfl rfl rfl (by kernel_rfl) (by kernel_rfl) (by kernel_rfl) (fun _ _ => (V_unsafeString0 rfl rfl rfl (by first | omega | (simp; done) | (simp; omega) | (simp at *; omega)))) ?_
 refine GH_take 11 rfl rfl rfl rfl (by kernel_rfl) (by kernel_rfl) (by kernel_rfl) (fun _ _ => (V_assign rfl rfl)) ?_
 refine GH_done (by kernel_rfl) ?_
 refine G_ret (post := [_, _]) Tryd.func23 rfl (RVs_cons (RV_tmp rfl) RVs_nil) [0, 0] rfl ?_
 dsimp only [packed]
 exact ⟨rfl, rfl⟩

set_option maxRecDepth 100000 in
set_option maxHeartbeats 1000000 in
theorem bld_string2 (b g : Nat) (p : Value) (u : Sl) (cap : Nat) (hc : 0 < cap) :
    Ct Tryd.prog 23 [.pointer (some ⟨b, 0, none⟩)] [] [(some b, .cells #[p, .slice (some ⟨g, 0, none⟩) 0 cap] 57 (0, 0)), (some g, .cells u.cs 5 u.fz)] fun v post => v = .string (bs []) ∧ post = [(some b, .cells #[p, .slice (some ⟨g, 0, none⟩) 0 cap] 57 (0, 0)), (some g, .cells u.cs 5 u.fz)] := by
 refine ct_of Tryd.func23 rfl rfl (fun w0 => ?_)
 show G _ _ [(0, _)] _ _
 refine G_seq ?_
 refine G_region (l := [0]) rfl ?_
 refine G_val rfl rfl rfl rfl (V_assign rfl rfl) ?_
 refine G_done ?_
 refine G_seq ?_
 refine GH_start (Lq := [_]) (isq := [0]) (m := 12) mixedK rfl rfl ?_
 refine GH_take 0 rfl rfl rfl rfl (by kernel_rfl) (by kernel_rfl) (by kernel_rfl) (fun _ _ => (V_move rfl rfl)) ?_
 first
   | refine GH_take 1 rfl rfl rfl rfl (by kernel_rfl) (by kernel_rfl) (by kernel_rfl) (fun _ _ => (V_nilCheck rfl rfl)) ?_
   | refine GH_take 1 rfl rfl rfl rfl (by kernel_rfl) (by kernel_rfl) (by kernel_rfl) (fun _ _ => (V_nilCheckF rfl rfl)) ?_
 refine GH_take 2 rfl rfl rfl rfl (by kernel_rfl) (by kernel_rfl) (by kernel_rfl) (fun _ _ => (V_fieldAddr (fo := 1) rfl Tryd.underlying57 rfl infBld_55 rfl rfl rfl)) ?_
 refine GH_take 3 rfl rfl rfl rfl (by kernel_rfl) (by kernel_rfl) (by kernel_rfl) (fun _ _ => (V_load1 rfl rfl (mem_at 0 rfl) rfl Tryd.underlying55 rfl)) ?_
 first
   | refine GH_take 4 rfl rfl rfl rfl (by kernel_rfl) (by kernel_rfl) (by kernel_rfl) (fun _ _ => (V_sliceDataN rfl rfl)) ?_
   | refine GH_take 4 rfl rfl rfl rfl (by kernel_rfl) (by kernel_rfl) (by kernel_rfl) (fun _ _ => (V_sliceDataS rfl rfl (by first | omega | (simp; done) | (simp; omega) | (simp at *; omega)))) ?_
 refine GH_take 5 rfl rfl rfl rfl (by kernel_rfl) (by kernel_rfl) (by kernel_rfl) (fun _ _ => (V_move rfl rfl)) ?_
 first
   | refine GH_take 6 rfl rfl rfl rfl (by kernel_rfl) (by kernel_rfl) (by kernel_rfl) (fun _ _ => (V_nilCheck rfl rfl)) ?_
   | refine GH_take 6 rfl rfl rfl rfl (by kernel_rfl) (by kernel_rfl) (by kernel_rfl) (fun _ _ => (V_nilCheckF rfl rfl)) ?_
 refine GH_take 7 rfl rfl rfl rfl (by kernel_rfl) (by kernel_rfl) (by kernel_rfl) (fun _ _ => (V_fieldAddr (fo := 1) rfl Tryd.underlying57 rfl infBld_55 rfl rfl rfl)) ?_
 refine GH_take 8 rfl rfl rfl rfl (by kernel_rfl) (by kernel_rfl) (by kernel_rfl) (fun _ _ => (V_load1 rfl rfl (mem_at 0 rfl) rfl Tryd.underlying55 rfl)) ?_
 refine GH_take 9 rfl rfl rfl rfl (by kernel_rfl) (by kernel_rfl) (by kernel_rfl) (fun _ _ => (V_len rfl rfl Tryd.underlying55 rfl)) ?_
 refine GH_take 10 rfl rfl rfl rfl (by kernel_rfl) (by kernel_rfl) (by kernel_rfl) (fun _ _ => (V_unsafeString0 rfl rfl rfl (by first | omega | (simp; done) | (simp; omega) | (simp at *; omega)))) ?_
 refine GH_take 11 rfl rfl rfl rfl (by kernel_rfl) (by kernel_rfl) (by kernel_rfl) (fun _ _ => (V_assign rfl rfl)) ?_
 refine GH_done (by kernel_rfl) ?_
 refine G_ret (post := [_, _]) Tryd.func23 rfl (RVs_cons (RV_tmp rfl) RVs_nil) [0, 0] rfl ?_
 dsimp only [packed]
 exact ⟨rfl, rfl⟩


theorem Ct.weak {P : Program} {f : FuncId} {args : List Value} {A L : List (Option Nat × Obj)} {R R' : Value → List (Option Nat × Obj) → Prop} (h : Ct P f args A L R) (hR : ∀ v post, R v post → R' v post) : Ct P f args A L R' :=
  fun w hw => (h w hw).mono fun e w' ⟨v, post, he, hr, hm⟩ => ⟨v, post, he, hR v post hr, hm⟩
theorem bld_string (b : Nat) (p : Value) (u : Sl) (tx : List UInt8) (hu : Txt u tx) (hs : tx.length ≤ 140737488355328) :
    Ct Tryd.prog 23 [.pointer (some ⟨b, 0, none⟩)] [] [(some b, .cells #[p, u.v tx.length] 57 (0, 0)), (u.ob, .cells u.cs 5 u.fz)] (fun v post => v = .string (bs tx) ∧ ∃ u1, Txt u1 tx ∧ post = [(some b, .cells #[p, u1.v tx.length] 57 (0, 0)), (u1.ob, .cells u1.cs 5 u1.fz)]) := by
  obtain ⟨ob, cs, fz, cap⟩ := u
  cases tx with
  | nil =>
    cases ob with
    | none => exact (bld_string0 b p ⟨none, cs, fz, cap⟩ cap).weak fun v post ⟨h1, h2⟩ => ⟨h1, _, hu, h2⟩
    | some g => exact (bld_string2 b g p ⟨some g, cs, fz, cap⟩ cap (hu.pos (by simp))).weak fun v post ⟨h1, h2⟩ => ⟨h1, _, hu, h2⟩
  | cons c t =>
    obtain ⟨g, hg⟩ := hu.own.isSome (by simp)
    simp only at hg
    subst hg
    exact (bld_string1 b g cap p cs fz (c :: t) hu (by simp) hs).weak fun v post ⟨h1, h2⟩ => ⟨h1, Sl.froze ⟨some g, cs, fz, cap⟩ (c :: t).length, ⟨hu.own.froze (by omega), hu.pos⟩, h2⟩

end
end Go.Proofs.YtkekkalgebgokaaDoor
