/- What the law LogAppends needs, part 2. -/
import Derived.Test.YtbblkgdejgoncaaDoorPkLogAppends1
import Derived.Test.YtbblkgdejgoncaaDoorRows
import Derived.WalkKit
import Derived.WalkSpells
import Derived.WalkLawsBesides
import Derived.Lib.Hide

/- strings.Builder: what is written, one behind the other. -/
set_option linter.unusedSimpArgs false
set_option linter.unusedVariables false
namespace Go.Proofs.YtbblkgdejgoncaaDoor
open Go Go.RowKit

section
theorem infBld_5 : Tryd.prog.info? 5 = some Tryd.t5 := by kernel_rfl
theorem infBld_27 : Tryd.prog.info? 27 = some Tryd.t27 := by kernel_rfl
theorem infBld_118 : Tryd.prog.info? 118 = some Tryd.t118 := by kernel_rfl
theorem infBld_120 : Tryd.prog.info? 120 = some Tryd.t120 := by kernel_rfl

set_option maxRecDepth 100000 in
set_option maxHeartbeats 1000000 in
theorem copy_fresh (b : Nat) (s : Value) (hs : s.oneCell' = true) :
    Ct Tryd.prog 101 [.pointer (some ⟨b, 0, none⟩)] [] [(some b, .cells #[.pointer none, s] 120 (0, 0))] fun v post => v = .tuple #[] ∧ post = [(some b, .cells #[.pointer (some ⟨b, 0, none⟩), s] 120 (0, 0))] := by
 refine ct_of Tryd.func101 rfl rfl (fun w0 => ?_)
 show G _ _ [(0, _)] _ _
 refine G_seq ?_
 refine G_region (l := [0, 1, 2, 3, 4]) rfl ?_
 refine G_val rfl rfl rfl rfl (V_move rfl rfl) ?_
 first
   | refine G_val rfl rfl rfl rfl (V_nilCheck rfl rfl) ?_
   | refine G_val rfl rfl rfl rfl (V_nilCheckF rfl rfl) ?_
 refine G_val rfl rfl rfl rfl (V_fieldAddr (fo := 0) rfl Tryd.underlying120 rfl infBld_118 rfl rfl rfl) ?_
 refine G_val rfl rfl rfl rfl (V_load1 rfl rfl (mem_at 0 rfl) rfl Tryd.underlying118 rfl) ?_
 refine G_val rfl rfl rfl rfl (V_peqlN rfl Tryd.underlying118 rfl rfl) ?_
 refine G_done ?_
 refine G_then rfl ?_
 refine G_region (l := [0, 1, 2, 3, 4, 5, 6, 7]) rfl ?_
 refine G_val rfl rfl rfl rfl (V_move rfl rfl) ?_
 refine G_val rfl rfl rfl rfl (V_move rfl rfl) ?_
 refine G_val rfl rfl rfl rfl (V_toUnsafe rfl rfl Tryd.underlying118 Tryd.underlying185 infBld_120 rfl (mem_at 0 rfl) (by simp)) ?_
 refine G_val rfl rfl rfl rfl (V_extern (ev := Extern.AbiNoEscape.same) rfl rfl Tryd.func114 (by kernel_rfl) (by kernel_rfl) (by kernel_rfl) (by kernel_rfl) (fun w => rfl)) ?_
 refine G_val rfl rfl rfl rfl (V_fromUnsafe rfl rfl Tryd.underlying118 Tryd.underlying185 infBld_120 (mem_at 0 rfl) (by kernel_rfl)) ?_
 first
   | refine G_val rfl rfl rfl rfl (V_nilCheck rfl rfl) ?_
   | refine G_val rfl rfl rfl rfl (V_nilCheckF rfl rfl) ?_
 refine G_val rfl rfl rfl rfl (V_fieldAddr (fo := 0) rfl Tryd.underlying120 rfl infBld_118 rfl rfl rfl) ?_
 refine G_put (l1 := []) (L' := [_]) rfl rfl rfl rfl (P_store1 rfl rfl rfl (mem_at 0 rfl) (by first | exact of_decide_eq_true rfl | omega | (simp; done) | (simp; omega) | (simp at *; omega)) infBld_118 rfl rfl) rfl ?_
 refine G_done ?_
 refine G_end (post := [_]) Tryd.func101 rfl RVs_nil [0] rfl ?_
 dsimp only [packed]
 exact ⟨rfl, rfl⟩

set_option maxRecDepth 100000 in
set_option maxHeartbeats 1000000 in
theorem copy_used (b : Nat) (s : Value) :
    Ct Tryd.prog 101 [.pointer (some ⟨b, 0, none⟩)] [] [(some b, .cells #[.pointer (some ⟨b, 0, none⟩), s] 120 (0, 0))] fun v post => v = .tuple #[] ∧ post = [(some b, .cells #[.pointer (some ⟨b, 0, none⟩), s] 120 (0, 0))] := by
 refine ct_of Tryd.func101 rfl rfl (fun w0 => ?_)
 show G _ _ [(0, _)] _ _
 refine G_seq ?_
 refine G_region (l := [0, 1, 2, 3, 4]) rfl ?_
 refine G_val rfl rfl rfl rfl (V_move rfl rfl) ?_
 first
   | refine G_val rfl rfl rfl rfl (V_nilCheck rfl rfl) ?_
   | refine G_val rfl rfl rfl rfl (V_nilCheckF rfl rfl) ?_
 refine G_val rfl rfl rfl rfl (V_fieldAddr (fo := 0) rfl Tryd.underlying120 rfl infBld_118 rfl rfl rfl) ?_
 refine G_val rfl rfl rfl rfl (V_load1 rfl rfl (mem_at 0 rfl) rfl Tryd.underlying118 rfl) ?_
 refine G_val rfl rfl rfl rfl (V_peqlN rfl Tryd.underlying118 rfl rfl) ?_
 refine G_done ?_
 refine G_else rfl ?_
 refine G_seq ?_
 refine G_region (l := [0, 1, 2, 3, 4, 5]) rfl ?_
 refine G_val rfl rfl rfl rfl (V_move rfl rfl) ?_
 first
   | refine G_val rfl rfl rfl rfl (V_nilCheck rfl rfl) ?_
   | refine G_val rfl rfl rfl rfl (V_nilCheckF rfl rfl) ?_
 refine G_val rfl rfl rfl rfl (V_fieldAddr (fo := 0) rfl Tryd.underlying120 rfl infBld_118 rfl rfl rfl) ?_
 refine G_val rfl rfl rfl rfl (V_load1 rfl rfl (mem_at 0 rfl) rfl Tryd.underlying118 rfl) ?_
 refine G_val rfl rfl rfl rfl (V_move rfl rfl) ?_
 refine G_val rfl rfl rfl rfl (V_pneqSame rfl Tryd.underlying118 infBld_120 rfl rfl) ?_
 refine G_done ?_
 refine G_else rfl ?_
 refine G_skip ?_
 refine G_end (post := [_]) Tryd.func101 rfl RVs_nil [0] rfl ?_
 dsimp only [packed]
 exact ⟨rfl, rfl⟩


def UsedOr (b : Nat) (p : Value) : Prop := p = .pointer none ∨ p = .pointer (some ⟨b, 0, none⟩)
theorem UsedOr.self (b : Nat) : UsedOr b (.pointer (some ⟨b, 0, none⟩)) := .inr rfl
theorem copy_any (b : Nat) (p s : Value) (hs : s.oneCell' = true) (hp : UsedOr b p) : Ct Tryd.prog 101 [.pointer (some ⟨b, 0, none⟩)] [] [(some b, .cells #[p, s] 120 (0, 0))] (fun v post => v = .tuple #[] ∧ post = [(some b, .cells #[.pointer (some ⟨b, 0, none⟩), s] 120 (0, 0))]) := by
  rcases hp with rfl | rfl
  · exact copy_fresh b s hs
  · exact copy_used b s
/-- A text in a buffer. -/
structure Txt (u : Sl) (tx : List UInt8) : Prop where
  own : Own 1 u (bcells tx) tx.length
  pos : u.ob ≠ none → 0 < u.cap
theorem txt_nil : Txt slNil [] := ⟨own_nil 1, fun h => absurd rfl h⟩
theorem Txt.more {u s' : Sl} {tx s : List UInt8} (h : Txt u tx) (h1 : Own 1 s' (bcells tx ++ bcells s) (tx.length + s.length)) (h2 : (u.ob ≠ none → 0 < u.cap) → s'.ob ≠ none → 0 < s'.cap) : Txt s' (tx ++ s) :=
  ⟨by rw [bcells_append, List.length_append]; exact h1, h2 h.pos⟩

set_option maxRecDepth 100000 in
set_option maxHeartbeats 1000000 in
theorem bld_write (b : Nat) (p : Value) (u : Sl) (tx s : List UInt8) (hp : UsedOr b p) (hu : Txt u tx) (hs : tx.length + s.length ≤ 140737488355328) :
    Ct Tryd.prog 69 [.pointer (some ⟨b, 0, none⟩), .string (bs s)] [] [(some b, .cells #[p, u.v tx.length] 120 (0, 0)), (u.ob, .cells u.cs 5 u.fz)] fun v post => v = .tuple #[.int .i64 (s.length : Int), .nilIface] ∧ ∃ u1, Txt u1 (tx ++ s) ∧ post = [(some b, .cells #[.pointer (some ⟨b, 0, none⟩), u1.v (tx ++ s).length] 120 (0, 0)), (u1.ob, .cells u1.cs 5 u1.fz)] := by
 refine ct_of Tryd.func69 rfl rfl (fun w0 => ?_)
 show G _ _ [(0, _), (1, _)] _ _
 refine G_seq ?_
 refine G_region (l := [0, 1]) rfl ?_
 refine G_val rfl rfl rfl rfl (V_assign rfl rfl) ?_
 refine G_val rfl rfl rfl rfl (V_assign rfl rfl) ?_
 refine G_done ?_
 refine G_seq ?_
 refine G_region (l := [0, 1]) rfl ?_
 refine G_val rfl rfl rfl rfl (V_move rfl rfl) ?_
 refine G_call (L2 := [_]) rfl rfl rfl rfl rfl rfl Tryd.call101 (copy_any _ _ _ rfl hp) [0] [] rfl rfl ?_
 rintro v post ⟨rfl, rfl⟩
 show G _ _ _ [_, _] _
 refine G_done ?_
 refine G_seq ?_
 refine G_region (l := [0, 1, 2, 3, 4, 5, 6, 7, 8, 9]) rfl ?_
 refine G_val rfl rfl rfl rfl (V_move rfl rfl) ?_
 refine G_val rfl rfl rfl rfl (V_move rfl rfl) ?_
 first
   | refine G_val rfl rfl rfl rfl (V_nilCheck rfl rfl) ?_
   | refine G_val rfl rfl rfl rfl (V_nilCheckF rfl rfl) ?_
 refine G_val rfl rfl rfl rfl (V_fieldAddr (fo := 1) rfl Tryd.underlying120 rfl infBld_27 rfl rfl rfl) ?_
 refine G_val rfl rfl rfl rfl (V_load1 rfl rfl (mem_at 0 rfl) rfl Tryd.underlying27 rfl) ?_
 refine G_val rfl rfl rfl rfl (V_move rfl rfl) ?_
 refine G_append (l1 := [_]) (s := u) (nn := tx.length) (m := s.length) (news := bcells s) (bt := 1) rfl rfl rfl rfl Tryd.underlying27 Tryd.underlying9 (by first | exact .inl rfl | exact .inr ⟨_, rfl⟩) infBld_5 rfl rfl rfl rfl rfl rfl hu.own rfl (fun w _ => src_string _) (by omega) (by omega) ?_
 intro u1 hu1 hq1
 show G _ _ _ [_, _] _
 first
   | refine G_val rfl rfl rfl rfl (V_nilCheck rfl rfl) ?_
   | refine G_val rfl rfl rfl rfl (V_nilCheckF rfl rfl) ?_
 refine G_val rfl rfl rfl rfl (V_fieldAddr (fo := 1) rfl Tryd.underlying120 rfl infBld_27 rfl rfl rfl) ?_
 refine G_put (l1 := []) (L' := [_, _]) rfl rfl rfl rfl (P_store1 rfl rfl rfl (mem_at 0 rfl) (by first | exact of_decide_eq_true rfl | omega | (simp; done) | (simp; omega) | (simp at *; omega)) infBld_27 rfl rfl) rfl ?_
 refine G_done ?_
 refine G_seq ?_
 refine G_region (l := [0, 1, 2, 3]) rfl ?_
 refine G_val rfl rfl rfl rfl (V_move rfl rfl) ?_
 refine G_val rfl rfl rfl rfl (V_slen rfl rfl Tryd.underlying9 rfl) ?_
 refine G_val rfl rfl rfl rfl (V_assign rfl rfl) ?_
 refine G_val rfl rfl rfl rfl (V_assign rfl rfl) ?_
 refine G_done ?_
 refine G_ret (post := [_, _]) Tryd.func69 rfl (RVs_cons (RV_tmp rfl) (RVs_cons (RV_tmp rfl) RVs_nil)) [0, 0] rfl ?_
 dsimp only [packed]
 exact ⟨rfl, u1, hu.more hu1 hq1.pos, by rw [List.length_append]; rfl⟩


theorem bld_write0 (b : Nat) (s : List UInt8) (hs : s.length ≤ 140737488355328) : Ct Tryd.prog 69 [.pointer (some ⟨b, 0, none⟩), .string (bs s)] [] [(some b, .cells #[.pointer none, .slice none 0 0] 120 (0, 0)), (none, .cells #[] 5 (0, 0))]
    (fun v post => v = .tuple #[.int .i64 (s.length : Int), .nilIface] ∧ ∃ u1, Txt u1 s ∧ post = [(some b, .cells #[.pointer (some ⟨b, 0, none⟩), u1.v s.length] 120 (0, 0)), (u1.ob, .cells u1.cs 5 u1.fz)]) :=
  bld_write b (.pointer none) slNil [] s (.inl rfl) txt_nil (by simpa using hs)

set_option maxRecDepth 100000 in
set_option maxHeartbeats 1000000 in
theorem bld_string1 (b g cap : Nat) (p : Value) (cs : Array Value) (fz : Nat × Nat) (tx : List UInt8) (hu : Txt ⟨some g, cs, fz, cap⟩ tx) (h0 : tx ≠ []) (hs : tx.length ≤ 140737488355328) :
    Ct Tryd.prog 70 [.pointer (some ⟨b, 0, none⟩)] [] [(some b, .cells #[p, .slice (some ⟨g, 0, none⟩) tx.length cap] 120 (0, 0)), (some g, .cells cs 5 fz)] fun v post => v = .string (bs tx) ∧ post = [(some b, .cells #[p, .slice (some ⟨g, 0, none⟩) tx.length cap] 120 (0, 0)), (some g, .cells cs 5 (frz fz tx.length))] := by
 have hcap := hu.pos (by simp)
 simp only at hcap
 have hsz := hu.own.size
 have hle := hu.own.le
 have hpre := hu.own.pre
 simp only [Nat.mul_one] at hsz hle hpre
 refine ct_of Tryd.func70 rfl rfl (fun w0 => ?_)
 show G _ _ [(0, _)] _ _
 refine G_seq ?_
 refine G_region (l := [0]) rfl ?_
 refine G_val rfl rfl rfl rfl (V_assign rfl rfl) ?_
 refine G_done ?_
 refine G_seq ?_
 refine GH_start (Lq := [_]) (isq := [0]) (m := 12) mixedK rfl rfl ?_
 refine GH_take 0 rfl rfl rfl rfl (by kernel_rfl) (by kernel_rfl) (by kernel_rfl) (fun _ _ => (V_move rfl rfl)) ?_
 first
   | refine GH_take 1 rfl rfl rfl rfl (by kernel_rfl) (by kernel_rfl) (by kernel_rfl) (fun _ _ => (V_nilCheck rfl rfl)) ?_
   | refine GH_take 1 rfl rfl rfl rfl (by kernel_rfl) (by kernel_rfl) (by kernel_rfl) (fun _ _ => (V_nilCheckF rfl rfl)) ?_
 refine GH_take 2 rfl rfl rfl rfl (by kernel_rfl) (by kernel_rfl) (by kernel_rfl) (fun _ _ => (V_fieldAddr (fo := 1) rfl Tryd.underlying120 rfl infBld_27 rfl rfl rfl)) ?_
 refine GH_take 3 rfl rfl rfl rfl (by kernel_rfl) (by kernel_rfl) (by kernel_rfl) (fun _ _ => (V_load1 rfl rfl (mem_at 0 rfl) rfl Tryd.underlying27 rfl)) ?_
 first
   | refine GH_take 4 rfl rfl rfl rfl (by kernel_rfl) (by kernel_rfl) (by kernel_rfl) (fun _ _ => (V_sliceDataN rfl rfl)) ?_
   | refine GH_take 4 rfl rfl rfl rfl (by kernel_rfl) (by kernel_rfl) (by kernel_rfl) (fun _ _ => (V_sliceDataS rfl rfl (by first | omega | (simp; done) | (simp; omega) | (simp at *; omega)))) ?_
 refine GH_take 5 rfl rfl rfl rfl (by kernel_rfl) (by kernel_rfl) (by kernel_rfl) (fun _ _ => (V_move rfl rfl)) ?_
 first
   | refine GH_take 6 rfl rfl rfl rfl (by kernel_rfl) (by kernel_rfl) (by kernel_rfl) (fun _ _ => (V_nilCheck rfl rfl)) ?_
   | refine GH_take 6 rfl rfl rfl rfl (by kernel_rfl) (by kernel_rfl) (by kernel_rfl) (fun _ _ => (V_nilCheckF rfl rfl)) ?_
 refine GH_take 7 rfl rfl rfl rfl (by kernel_rfl) (by kernel_rfl) (by kernel_rfl) (fun _ _ => (V_fieldAddr (fo := 1) rfl Tryd.underlying120 rfl infBld_27 rfl rfl rfl)) ?_
 refine GH_take 8 rfl rfl rfl rfl (by kernel_rfl) (by kernel_rfl) (by kernel_rfl) (fun _ _ => (V_load1 rfl rfl (mem_at 0 rfl) rfl Tryd.underlying27 rfl)) ?_
 refine GH_take 9 rfl rfl rfl rfl (by kernel_rfl) (by kernel_rfl) (by kernel_rfl) (fun _ _ => (V_len rfl rfl Tryd.underlying27 rfl)) ?_
 refine GH_all [10] (by kernel_rfl) (by decide) ?_
 refine (And.intro ?_ trivial)
 · skip
   refine GHop_putV (l1 := [_]) (L' := [_, _]) rfl rfl rfl rfl rfl (P_unsafeString (l := tx) rfl Tryd.underlying172 (by kernel_rfl) rfl rfl rfl (mem_at 1 rfl) h0 (by omega) (by omega) hpre) rfl [0] rfl ?_
   refine GH_take 11 rfl rfl rfl rfl (by kernel_rfl) (by kernel_rfl) (by kernel_rfl) (fun _ _ => (V_assign rfl rfl)) ?_
   refine GH_done (by kernel_rfl) ?_
   refine G_ret (post := [_, _]) Tryd.func70 rfl (RVs_cons (RV_tmp rfl) RVs_nil) [0, 0] rfl ?_
   dsimp only [packed]
   exact ⟨rfl, rfl⟩

set_option maxRecDepth 100000 in
set_option maxHeartbeats 1000000 in
theorem bld_string0 (b : Nat) (p : Value) (u : Sl) (cap : Nat) :
    Ct Tryd.prog 70 [.pointer (some ⟨b, 0, none⟩)] [] [(some b, .cells #[p, .slice none 0 cap] 120 (0, 0)), (none, .cells u.cs 5 u.fz)] fun v post => v = .string (bs []) ∧ post = [(some b, .cells #[p, .slice none 0 cap] 120 (0, 0)), (none, .cells u.cs 5 u.fz)] := by
 refine ct_of Tryd.func70 rfl rfl (fun w0 => ?_)
 show G _ _ [(0, _)] _ _
 refine G_seq ?_
 refine G_region (l := [0]) rfl ?_
 refine G_val rfl rfl rfl rfl (V_assign rfl rfl) ?_
 refine G_done ?_
 refine G_seq ?_
 refine GH_start (Lq := [_]) (isq := [0]) (m := 12) mixedK rfl rfl ?_
 refine GH_take 0 rfl rfl rfl rfl (by kernel_rfl) (by kernel_rfl) (by kernel_rfl) (fun _ _ => (V_move rfl rfl)) ?_
 first
   | refine GH_take 1 rfl rfl rfl rfl (by kernel_rfl) (by kernel_rfl) (by kernel_rfl) (fun _ _ => (V_nilCheck rfl rfl)) ?_
   | refine GH_take 1 rfl rfl rfl rfl (by kernel_rfl) (by kernel_rfl) (by kernel_rfl) (fun _ _ => (V_nilCheckF rfl rfl)) ?_
 refine GH_take 2 rfl rfl rfl rfl (by kernel_rfl) (by kernel_rfl) (by kernel_rfl) (fun _ _ => (V_fieldAddr (fo := 1) rfl Tryd.underlying120 rfl infBld_27 rfl rfl rfl)) ?_
 refine GH_take 3 rfl rfl rfl rfl (by kernel_rfl) (by kernel_rfl) (by kernel_rfl) (fun _ _ => (V_load1 rfl rfl (mem_at 0 rfl) rfl Tryd.underlying27 rfl)) ?_
 first
   | refine GH_take 4 rfl rfl rfl rfl (by kernel_rfl) (by kernel_rfl) (by kernel_rfl) (fun _ _ => (V_sliceDataN rfl rfl)) ?_
   | refine GH_take 4 rfl rfl rfl rfl (by kernel_rfl) (by kernel_rfl) (by kernel_rfl) (fun _ _ => (V_sliceDataS rfl rfl (by first | omega | (simp; done) | (simp; omega) | (simp at *; omega)))) ?_
 refine GH_take 5 rfl rfl rfl rfl (by kernel_rfl) (by kernel_rfl) (by kernel_rfl) (fun _ _ => (V_move rfl rfl)) ?_
 first
   | refine GH_take 6 rfl rfl rfl rfl (by kernel_rfl) (by kernel_rfl) (by kernel_rfl) (fun _ _ => (V_nilCheck rfl rfl)) ?_
   | refine GH_take 6 rfl rfl rfl rfl (by kernel_rfl) (by kernel_rfl) (by kernel_rfl) (fun _ _ => (V_nilCheckF rfl rfl)) ?_
 refine GH_take 7 rfl rfl rfl rfl (by kernel_rfl) (by kernel_rfl) (by kernel_rfl) (fun _ _ => (V_fieldAddr (fo := 1) rfl Tryd.underlying120 rfl infBld_27 rfl rfl rfl)) ?_
 refine GH_take 8 rfl rfl rfl rfl (by kernel_rfl) (by kernel_rfl) (by kernel_rfl) (fun _ _ => (V_load1 rfl rfl (mem_at 0 rfl) rfl Tryd.underlying27 rfl)) ?_
 refine GH_take 9 rfl rfl rfl rfl (by kernel_rfl) (by kernel_rfl) (by kernel_rfl) (fun _ _ => (V_len rfl rfl Tryd.underlying27 rfl)) ?_
 refine GH_take 10 rfl rfl rfl rfl (by kernel_rfl) (by kernel_rfl) (by kernel_rfl) (fun _ _ => (V_unsafeString0 rfl rfl rfl (by first | omega | (simp; done) | (simp; omega) | (simp at *; omega)))) ?_
 refine GH_take 11 rfl rfl rfl rfl (by kernel_rfl) (by kernel_rfl) (by kernel_rfl) (fun _ _ => (V_assign rfl rfl)) ?_
 refine GH_done (by kernel_rfl) ?_
 refine G_ret (post := [_, _]) Tryd.func70 rfl (RVs_cons (RV_tmp rfl) RVs_nil) [0, 0] rfl ?_
 dsimp only [packed]
 exact ⟨rfl, rfl⟩

set_option maxRecDepth 100000 in
set_option maxHeartbeats 1000000 in
theorem bld_string2 (b g : Nat) (p : Value) (u : Sl) (cap : Nat) (hc : 0 < cap) :
    Ct Tryd.prog 70 [.pointer (some ⟨b, 0, none⟩)] [] [(some b, .cells #[p, .slice (some ⟨g, 0, none⟩) 0 cap] 120 (0, 0)), (some g, .cells u.cs 5 u.fz)] fun v post => v = .string (bs []) ∧ post = [(some b, .cells #[p, .slice (some ⟨g, 0, none⟩) 0 cap] 120 (0, 0)), (some g, .cells u.cs 5 u.fz)] := by
 refine ct_of Tryd.func70 rfl rfl (fun w0 => ?_)
 show G _ _ [(0, _)] _ _
 refine G_seq ?_
 refine G_region (l := [0]) rfl ?_
 refine G_val rfl rfl rfl rfl (V_assign rfl rfl) ?_
 refine G_done ?_
 refine G_seq ?_
 refine GH_start (Lq := [_]) (isq := [0]) (m := 12) mixedK rfl rfl ?_
 refine GH_take 0 rfl rfl rfl rfl (by kernel_rfl) (by kernel_rfl) (by kernel_rfl) (fun _ _ => (V_move rfl rfl)) ?_
 first
   | refine GH_take 1 rfl rfl rfl rfl (by kernel_rfl) (by kernel_rfl) (by kernel_rfl) (fun _ _ => (V_nilCheck rfl rfl)) ?_
   | refine GH_take 1 rfl rfl rfl rfl (by kernel_rfl) (by kernel_rfl) (by kernel_rfl) (fun _ _ => (V_nilCheckF rfl rfl)) ?_
 refine GH_take 2 rfl rfl rfl rfl (by kernel_rfl) (by kernel_rfl) (by kernel_rfl) (fun _ _ => (V_fieldAddr (fo := 1) rfl Tryd.underlying120 rfl infBld_27 rfl rfl rfl)) ?_
 refine GH_take 3 rfl rfl rfl rfl (by kernel_rfl) (by kernel_rfl) (by kernel_rfl) (fun _ _ => (V_load1 rfl rfl (mem_at 0 rfl) rfl Tryd.underlying27 rfl)) ?_
 first
   | refine GH_take 4 rfl rfl rfl rfl (by kernel_rfl) (by kernel_rfl) (by kernel_rfl) (fun _ _ => (V_sliceDataN rfl rfl)) ?_
   | refine GH_take 4 rfl rfl rfl rfl (by kernel_rfl) (by kernel_rfl) (by kernel_rfl) (fun _ _ => (V_sliceDataS rfl rfl (by first | omega | (simp; done) | (simp; omega) | (simp at *; omega)))) ?_
 refine GH_take 5 rfl rfl rfl rfl (by kernel_rfl) (by kernel_rfl) (by kernel_rfl) (fun _ _ => (V_move rfl rfl)) ?_
 first
   | refine GH_take 6 rfl rfl rfl rfl (by kernel_rfl) (by kernel_rfl) (by kernel_rfl) (fun _ _ => (V_nilCheck rfl rfl)) ?_
   | refine GH_take 6 rfl rfl rfl rfl (by kernel_rfl) (by kernel_rfl) (by kernel_rfl) (fun _ _ => (V_nilCheckF rfl rfl)) ?_
 refine GH_take 7 rfl rfl rfl rfl (by kernel_rfl) (by kernel_rfl) (by kernel_rfl) (fun _ _ => (V_fieldAddr (fo := 1) rfl Tryd.underlying120 rfl infBld_27 rfl rfl rfl)) ?_
 refine GH_take 8 rfl rfl rfl rfl (by kernel_rfl) (by kernel_rfl) (by kernel_rfl) (fun _ _ => (V_load1 rfl rfl (mem_at 0 rfl) rfl Tryd.underlying27 rfl)) ?_
 refine GH_take 9 rfl rfl rfl rfl (by kernel_rfl) (by kernel_rfl) (by kernel_rfl) (fun _ _ => (V_len rfl rfl Tryd.underlying27 rfl)) ?_
 refine GH_take 10 rfl rfl rfl rfl (by kernel_rfl) (by kernel_rfl) (by kernel_rfl) (fun _ _ => (V_unsafeString0 rfl rfl rfl (by first | omega | (simp; done) | (simp; omega) | (simp at *; omega)))) ?_
 refine GH_take 11 rfl rfl rfl rfl (by kernel_rfl) (by kernel_rfl) (by kernel_rfl) (fun _ _ => (V_assign rfl rfl)) ?_
 refine GH_done (by kernel_rfl) ?_
 refine G_ret (post := [_, _]) Tryd.func70 rfl (RVs_cons (RV_tmp rfl) RVs_nil) [0, 0] rfl ?_
 dsimp only [packed]
 exact ⟨rfl, rfl⟩


theorem Ct.weak {P : Program} {f : FuncId} {args : List Value} {A L : List (Option Nat × Obj)} {R R' : Value → List (Option Nat × Obj) → Prop} (h : Ct P f args A L R) (hR : ∀ v post, R v post → R' v post) : Ct P f args A L R' :=
  fun w hw => (h w hw).mono fun e w' ⟨v, post, he, hr, hm⟩ => ⟨v, post, he, hR v post hr, hm⟩
theorem bld_string (b : Nat) (p : Value) (u : Sl) (tx : List UInt8) (hu : Txt u tx) (hs : tx.length ≤ 140737488355328) :
    Ct Tryd.prog 70 [.pointer (some ⟨b, 0, none⟩)] [] [(some b, .cells #[p, u.v tx.length] 120 (0, 0)), (u.ob, .cells u.cs 5 u.fz)] (fun v post => v = .string (bs tx) ∧ ∃ u1, Txt u1 tx ∧ post = [(some b, .cells #[p, u1.v tx.length] 120 (0, 0)), (u1.ob, .cells u1.cs 5 u1.fz)]) := by
  obtain ⟨ob, cs, fz, cap⟩ := u
  cases tx with
  | nil =>
    cases ob with
    | none => exact (bld_string0 b p ⟨none, cs, fz, cap⟩ cap).weak fun v post ⟨h1, h2⟩ => ⟨h1, _, hu, h2⟩
    | some g => exact (bld_string2 b g p ⟨some g, cs, fz, cap⟩ cap (hu.pos (by simp))).weak fun v post ⟨h1, h2⟩ => ⟨h1, _, hu, h2⟩
  | cons c t =>
    obtain ⟨g, hg⟩ := hu.own.isSome (by simp)
    simp only at hg
    subst hg
    exact (bld_string1 b g cap p cs fz (c :: t) hu (by simp) hs).weak fun v post ⟨h1, h2⟩ => ⟨h1, Sl.froze ⟨some g, cs, fz, cap⟩ (c :: t).length, ⟨hu.own.froze (by omega), hu.pos⟩, h2⟩

set_option maxRecDepth 100000 in
set_option maxHeartbeats 1000000 in
theorem bld_len (b : Nat) (p : Value) (u : Sl) (k : Nat) :
    Ct Tryd.prog 96 [.pointer (some ⟨b, 0, none⟩)] [(some b, .cells #[p, u.v k] 120 (0, 0))] [] fun v post => v = .int .i64 (k : Int) ∧ post = [] := by
 refine ct_of Tryd.func96 rfl rfl (fun w0 => ?_)
 show G _ _ [(0, _)] _ _
 refine G_seq ?_
 refine G_region (l := [0]) rfl ?_
 refine G_val rfl rfl rfl rfl (V_assign rfl rfl) ?_
 refine G_done ?_
 refine G_seq ?_
 refine G_region (l := [0, 1, 2, 3, 4, 5]) rfl ?_
 refine G_val rfl rfl rfl rfl (V_move rfl rfl) ?_
 first
   | refine G_val rfl rfl rfl rfl (V_nilCheck rfl rfl) ?_
   | refine G_val rfl rfl rfl rfl (V_nilCheckF rfl rfl) ?_
 refine G_val rfl rfl rfl rfl (V_fieldAddr (fo := 1) rfl Tryd.underlying120 rfl infBld_27 rfl rfl rfl) ?_
 refine G_val rfl rfl rfl rfl (V_load1 rfl rfl (mem_at 0 rfl) rfl Tryd.underlying27 rfl) ?_
 refine G_val rfl rfl rfl rfl (V_len rfl rfl Tryd.underlying27 rfl) ?_
 refine G_val rfl rfl rfl rfl (V_assign rfl rfl) ?_
 refine G_done ?_
 refine G_ret (post := []) Tryd.func96 rfl (RVs_cons (RV_tmp rfl) RVs_nil) [] rfl ?_
 dsimp only [packed]
 exact ⟨rfl, rfl⟩

end
end Go.Proofs.YtbblkgdejgoncaaDoor

/- strings.Repeat of a byte 0, and what it calls. -/
set_option linter.unusedSimpArgs false
set_option linter.unusedVariables false
namespace Go.Proofs.YtbblkgdejgoncaaDoor
open Go Go.RowKit

section
theorem infRep_5 : Tryd.prog.info? 5 = some Tryd.t5 := by kernel_rfl
theorem infRep_27 : Tryd.prog.info? 27 = some Tryd.t27 := by kernel_rfl
theorem infRep_120 : Tryd.prog.info? 120 = some Tryd.t120 := by kernel_rfl


theorem and_mask (n : Nat) (h : n < 4294967296) : bitsOp .and .u64 (n : Int) 4294967295 = (n : Int) := by
  have e1 : BitVec.ofInt 64 (n : Int) = BitVec.ofNat 64 n := by apply BitVec.eq_of_toNat_eq; simp [BitVec.toNat_ofInt]
  show IntKind.u64.wrap ((BitVec.ofInt 64 (n : Int) &&& BitVec.ofInt 64 (4294967295 : Int)).toNat : Int) = _
  have e2 : BitVec.ofInt 64 (4294967295 : Int) = BitVec.ofNat 64 4294967295 := rfl
  rw [e1, e2, BitVec.toNat_and]
  have e3 : (BitVec.ofNat 64 n).toNat = n := by simp; omega
  have e4 : (BitVec.ofNat 64 4294967295).toNat = 4294967295 := rfl
  rw [e3, e4]
  have e5 : n &&& 4294967295 = n := by
    have := Nat.and_two_pow_sub_one_of_lt_two_pow (n := 32) (x := n) (by omega)
    simpa using this
  rw [e5]
  exact wrap_u64 (by omega)
theorem shr32 (n : Nat) (h : n < 4294967296) : (n : Int) / (2 : Int) ^ min (32 : Int).toNat IntKind.u64.bits = 0 := by
  have e : (2 : Int) ^ min (32 : Int).toNat IntKind.u64.bits = 4294967296 := by decide
  rw [e]
  omega
theorem wmul1 (n : Nat) (h : n < 4294967296) : IntKind.u64.wrap ((1 : Int) * (n : Int)) = (n : Int) := by rw [wrap_u64 (by omega)]; omega
theorem wmul0 (n : Nat) : IntKind.u64.wrap ((0 : Int) * (n : Int)) = 0 := by rw [Int.zero_mul]; rfl

set_option maxRecDepth 100000 in
set_option maxHeartbeats 1000000 in
theorem mul64_one (n : Nat) (h : n ≤ 8192) :
    Ct Tryd.prog 112 [.int .u64 1, .int .u64 (n : Int)] [] [] fun v post => v = .tuple #[.int .u64 0, .int .u64 (n : Int)] ∧ post = [] := by
 refine ct_of Tryd.func112 rfl rfl (fun w0 => ?_)
 show G _ _ [(0, _), (1, _)] _ _
 refine G_seq ?_
 refine G_region (l := [0, 1]) rfl ?_
 refine G_val rfl rfl rfl rfl (V_assign rfl rfl) ?_
 refine G_val rfl rfl rfl rfl (V_assign rfl rfl) ?_
 refine G_done ?_
 refine G_seq ?_
 refine G_region (l := [0, 1, 2]) rfl ?_
 refine G_val rfl rfl rfl rfl (V_move rfl rfl) ?_
 refine G_val rfl rfl rfl rfl (Val.int (e' := 1) (V_bits .and rfl rfl rfl rfl) (by decide)) ?_
 refine G_val rfl rfl rfl rfl (V_assign rfl rfl) ?_
 refine G_done ?_
 refine G_seq ?_
 refine G_region (l := [0, 1, 2]) rfl ?_
 refine G_val rfl rfl rfl rfl (V_move rfl rfl) ?_
 refine G_val rfl rfl rfl rfl (Val.int (e' := 0) (V_shr rfl rfl rfl (by omega)) (by decide)) ?_
 refine G_val rfl rfl rfl rfl (V_assign rfl rfl) ?_
 refine G_done ?_
 refine G_seq ?_
 refine G_region (l := [0, 1, 2]) rfl ?_
 refine G_val rfl rfl rfl rfl (V_move rfl rfl) ?_
 refine G_val rfl rfl rfl rfl (Val.int (e' := (n : Int)) (V_bits .and rfl rfl rfl rfl) (and_mask n (by omega))) ?_
 refine G_val rfl rfl rfl rfl (V_assign rfl rfl) ?_
 refine G_done ?_
 refine G_seq ?_
 refine G_region (l := [0, 1, 2]) rfl ?_
 refine G_val rfl rfl rfl rfl (V_move rfl rfl) ?_
 refine G_val rfl rfl rfl rfl (Val.int (e' := 0) (V_shr rfl rfl rfl (by omega)) (shr32 n (by omega))) ?_
 refine G_val rfl rfl rfl rfl (V_assign rfl rfl) ?_
 refine G_done ?_
 refine G_seq ?_
 refine G_region (l := [0, 1, 2, 3]) rfl ?_
 refine G_val rfl rfl rfl rfl (V_move rfl rfl) ?_
 refine G_val rfl rfl rfl rfl (V_move rfl rfl) ?_
 refine G_val rfl rfl rfl rfl (Val.int (e' := (n : Int)) (V_mul rfl rfl rfl) (wmul1 n (by omega))) ?_
 refine G_val rfl rfl rfl rfl (V_assign rfl rfl) ?_
 refine G_done ?_
 refine G_seq ?_
 refine G_region (l := [0, 1, 2, 3, 4, 5, 6]) rfl ?_
 refine G_val rfl rfl rfl rfl (V_move rfl rfl) ?_
 refine G_val rfl rfl rfl rfl (V_move rfl rfl) ?_
 refine G_val rfl rfl rfl rfl (Val.int (e' := 0) (V_mul rfl rfl rfl) (wmul0 n)) ?_
 refine G_val rfl rfl rfl rfl (V_move rfl rfl) ?_
 refine G_val rfl rfl rfl rfl (Val.int (e' := 0) (V_shr rfl rfl rfl (by omega)) (shr32 n (by omega))) ?_
 refine G_val rfl rfl rfl rfl (Val.int (e' := 0) (V_add rfl rfl rfl) (by decide)) ?_
 refine G_val rfl rfl rfl rfl (V_assign rfl rfl) ?_
 refine G_done ?_
 refine G_seq ?_
 refine G_region (l := [0, 1, 2]) rfl ?_
 refine G_val rfl rfl rfl rfl (V_move rfl rfl) ?_
 refine G_val rfl rfl rfl rfl (Val.int (e' := 0) (V_bits .and rfl rfl rfl rfl) (by decide)) ?_
 refine G_val rfl rfl rfl rfl (V_assign rfl rfl) ?_
 refine G_done ?_
 refine G_seq ?_
 refine G_region (l := [0, 1, 2]) rfl ?_
 refine G_val rfl rfl rfl rfl (V_move rfl rfl) ?_
 refine G_val rfl rfl rfl rfl (Val.int (e' := 0) (V_shr rfl rfl rfl (by omega)) (by decide)) ?_
 refine G_val rfl rfl rfl rfl (V_assign rfl rfl) ?_
 refine G_done ?_
 refine G_seq ?_
 refine G_region (l := [0, 1, 2, 3, 4, 5]) rfl ?_
 refine G_val rfl rfl rfl rfl (V_move rfl rfl) ?_
 refine G_val rfl rfl rfl rfl (V_move rfl rfl) ?_
 refine G_val rfl rfl rfl rfl (V_move rfl rfl) ?_
 refine G_val rfl rfl rfl rfl (Val.int (e' := 0) (V_mul rfl rfl rfl) (by decide)) ?_
 refine G_val rfl rfl rfl rfl (Val.int (e' := 0) (V_add rfl rfl rfl) (by decide)) ?_
 refine G_val rfl rfl rfl rfl (V_assign rfl rfl) ?_
 refine G_done ?_
 refine G_seq ?_
 refine G_region (l := [0, 1, 2, 3, 4, 5, 6, 7, 8]) rfl ?_
 refine G_val rfl rfl rfl rfl (V_move rfl rfl) ?_
 refine G_val rfl rfl rfl rfl (V_move rfl rfl) ?_
 refine G_val rfl rfl rfl rfl (Val.int (e' := 0) (V_mul rfl rfl rfl) (by decide)) ?_
 refine G_val rfl rfl rfl rfl (V_move rfl rfl) ?_
 refine G_val rfl rfl rfl rfl (Val.int (e' := 0) (V_add rfl rfl rfl) (by decide)) ?_
 refine G_val rfl rfl rfl rfl (V_move rfl rfl) ?_
 refine G_val rfl rfl rfl rfl (Val.int (e' := 0) (V_shr rfl rfl rfl (by omega)) (by decide)) ?_
 refine G_val rfl rfl rfl rfl (Val.int (e' := 0) (V_add rfl rfl rfl) (by decide)) ?_
 refine G_val rfl rfl rfl rfl (V_assign rfl rfl) ?_
 refine G_done ?_
 refine G_seq ?_
 refine G_region (l := [0, 1, 2, 3]) rfl ?_
 refine G_val rfl rfl rfl rfl (V_move rfl rfl) ?_
 refine G_val rfl rfl rfl rfl (V_move rfl rfl) ?_
 refine G_val rfl rfl rfl rfl (Val.int (e' := (n : Int)) (V_mul rfl rfl rfl) (wmul1 n (by omega))) ?_
 refine G_val rfl rfl rfl rfl (V_assign rfl rfl) ?_
 refine G_done ?_
 refine G_ret (post := []) Tryd.func112 rfl (RVs_cons (RV_tmp rfl) (RVs_cons (RV_tmp rfl) RVs_nil)) [] rfl ?_
 dsimp only [packed]
 exact ⟨rfl, rfl⟩

set_option maxRecDepth 100000 in
set_option maxHeartbeats 1000000 in
theorem mul_one (n : Nat) (h : n ≤ 8192) :
    Ct Tryd.prog 94 [.int .u64 1, .int .u64 (n : Int)] [] [] fun v post => v = .tuple #[.int .u64 0, .int .u64 (n : Int)] ∧ post = [] := by
 refine ct_of Tryd.func94 rfl rfl (fun w0 => ?_)
 show G _ _ [(0, _), (1, _)] _ _
 refine G_seq ?_
 refine G_region (l := [0, 1]) rfl ?_
 refine G_val rfl rfl rfl rfl (V_assign rfl rfl) ?_
 refine G_val rfl rfl rfl rfl (V_assign rfl rfl) ?_
 refine G_done ?_
 refine G_seq ?_
 refine G_else rfl ?_
 refine G_skip ?_
 refine G_seq ?_
 refine G_region (l := [0, 1, 2, 3, 4, 5, 6, 7]) rfl ?_
 refine G_val rfl rfl rfl rfl (V_move rfl rfl) ?_
 refine G_val rfl rfl rfl rfl (V_move rfl rfl) ?_
 refine G_call (L2 := []) rfl rfl rfl rfl rfl rfl Tryd.call112 (mul64_one _ (by omega)) [] [] rfl rfl ?_
 rintro v post ⟨rfl, rfl⟩
 refine G_val rfl rfl rfl rfl (V_move rfl rfl) ?_
 refine G_val rfl rfl rfl rfl (V_extract rfl rfl rfl) ?_
 refine G_val rfl rfl rfl rfl (V_extract rfl rfl rfl) ?_
 refine G_val rfl rfl rfl rfl (V_assign rfl rfl) ?_
 refine G_val rfl rfl rfl rfl (V_assign rfl rfl) ?_
 refine G_done ?_
 refine G_seq ?_
 refine G_region (l := [0, 1, 2, 3]) rfl ?_
 refine G_val rfl rfl rfl rfl (V_move rfl rfl) ?_
 refine G_val rfl rfl rfl rfl (V_move rfl rfl) ?_
 refine G_val rfl rfl rfl rfl (V_assign rfl rfl) ?_
 refine G_val rfl rfl rfl rfl (V_assign rfl rfl) ?_
 refine G_done ?_
 refine G_ret (post := []) Tryd.func94 rfl (RVs_cons (RV_tmp rfl) (RVs_cons (RV_tmp rfl) RVs_nil)) [] rfl ?_
 dsimp only [packed]
 exact ⟨rfl, rfl⟩


theorem txt_room (g : Nat) (cs : Array Value) (n : Nat) (h1 : 1 ≤ n) (h2 : n ≤ cs.size) (h3 : cs.size ≤ 9223372036854775807) : Txt ⟨some g, cs, (0, 0), cs.size⟩ [] :=
  ⟨⟨rfl, Nat.zero_le _, h3, by simp, by simp [bcells], by simp, fun h => by cases h⟩, fun _ => by show 0 < cs.size; omega⟩

set_option maxRecDepth 100000 in
set_option maxHeartbeats 1000000 in
theorem bld_grow1 (b n : Nat) (h1 : 1 ≤ n) (h8 : n ≤ 8192) :
    Ct Tryd.prog 106 [.pointer (some ⟨b, 0, none⟩), .int .i64 (n : Int)] [] [(some b, .cells #[.pointer (some ⟨b, 0, none⟩), .slice none 0 0] 120 (0, 0))] fun v post => v = .tuple #[] ∧ ∃ u1, Txt u1 [] ∧ post = [(some b, .cells #[.pointer (some ⟨b, 0, none⟩), u1.v 0] 120 (0, 0)), (u1.ob, .cells u1.cs 5 u1.fz)] := by
 refine ct_of Tryd.func106 rfl rfl (fun w0 => ?_)
 show G _ _ [(0, _), (1, _)] _ _
 refine G_seq ?_
 refine GH_start (Lq := [_]) (isq := [0]) (m := 16) mixedK rfl rfl ?_
 refine GH_take 0 rfl rfl rfl rfl (by kernel_rfl) (by kernel_rfl) (by kernel_rfl) (fun _ _ => (V_move rfl rfl)) ?_
 first
   | refine GH_take 1 rfl rfl rfl rfl (by kernel_rfl) (by kernel_rfl) (by kernel_rfl) (fun _ _ => (V_nilCheck rfl rfl)) ?_
   | refine GH_take 1 rfl rfl rfl rfl (by kernel_rfl) (by kernel_rfl) (by kernel_rfl) (fun _ _ => (V_nilCheckF rfl rfl)) ?_
 refine GH_take 2 rfl rfl rfl rfl (by kernel_rfl) (by kernel_rfl) (by kernel_rfl) (fun _ _ => (V_fieldAddr (fo := 1) rfl Tryd.underlying120 rfl infRep_27 rfl rfl rfl)) ?_
 refine GH_take 3 rfl rfl rfl rfl (by kernel_rfl) (by kernel_rfl) (by kernel_rfl) (fun _ _ => (V_load1 rfl rfl (mem_at 0 rfl) rfl Tryd.underlying27 rfl)) ?_
 refine GH_take 4 rfl rfl rfl rfl (by kernel_rfl) (by kernel_rfl) (by kernel_rfl) (fun _ _ => (V_cap rfl rfl Tryd.underlying27 rfl)) ?_
 refine GH_take 5 rfl rfl rfl rfl (by kernel_rfl) (by kernel_rfl) (by kernel_rfl) (fun _ _ => (Val.int (e' := 0) (V_mul rfl rfl rfl) (rfl))) ?_
 refine GH_take 6 rfl rfl rfl rfl (by kernel_rfl) (by kernel_rfl) (by kernel_rfl) (fun _ _ => (V_move rfl rfl)) ?_
 refine GH_take 7 rfl rfl rfl rfl (by kernel_rfl) (by kernel_rfl) (by kernel_rfl) (fun _ _ => (Val.int (e' := (n : Int)) (V_add rfl rfl rfl) (show IntKind.i64.wrap ((0 : Int) + (n : Int)) = (n : Int) by rw [wrap_i64 (by omega)]; omega))) ?_
 refine GH_take 9 rfl rfl rfl rfl (by kernel_rfl) (by kernel_rfl) (by kernel_rfl) (fun _ _ => (V_move rfl rfl)) ?_
 first
   | refine GH_take 10 rfl rfl rfl rfl (by kernel_rfl) (by kernel_rfl) (by kernel_rfl) (fun _ _ => (V_nilCheck rfl rfl)) ?_
   | refine GH_take 10 rfl rfl rfl rfl (by kernel_rfl) (by kernel_rfl) (by kernel_rfl) (fun _ _ => (V_nilCheckF rfl rfl)) ?_
 refine GH_take 11 rfl rfl rfl rfl (by kernel_rfl) (by kernel_rfl) (by kernel_rfl) (fun _ _ => (V_fieldAddr (fo := 1) rfl Tryd.underlying120 rfl infRep_27 rfl rfl rfl)) ?_
 refine GH_take 12 rfl rfl rfl rfl (by kernel_rfl) (by kernel_rfl) (by kernel_rfl) (fun _ _ => (V_load1 rfl rfl (mem_at 0 rfl) rfl Tryd.underlying27 rfl)) ?_
 refine GH_take 13 rfl rfl rfl rfl (by kernel_rfl) (by kernel_rfl) (by kernel_rfl) (fun _ _ => (V_len rfl rfl Tryd.underlying27 rfl)) ?_
 refine GH_all [8] (by kernel_rfl) (by decide) ?_
 refine (And.intro ?_ trivial)
 · skip
   refine GHop_mnz (m := n) (ps := #[3]) rfl rfl rfl rfl rfl rfl Tryd.func117 (by kernel_rfl) (by kernel_rfl) (by kernel_rfl) (by kernel_rfl) Tryd.underlying27 (by omega) [1] (fun _ _ => ⟨_, rfl⟩) (fun b13 csb13 h1b13 h2b13 => ?_)
   refine GH_take 14 rfl rfl rfl rfl (by kernel_rfl) (by kernel_rfl) (by kernel_rfl) (fun _ _ => (V_sliceH rfl Tryd.underlying27 infRep_5 rfl rfl rfl (by first | omega | (simp; done) | (simp; omega) | (simp at *; omega)))) ?_
   refine GH_take 15 rfl rfl rfl rfl (by kernel_rfl) (by kernel_rfl) (by kernel_rfl) (fun _ _ => (V_assign rfl rfl)) ?_
   refine GH_done (by kernel_rfl) ?_
   refine G_seq ?_
   refine G_region (l := [0, 1, 2, 3, 4, 5]) rfl ?_
   refine G_val rfl rfl rfl rfl (V_move rfl rfl) ?_
   refine G_val rfl rfl rfl rfl (V_move rfl rfl) ?_
   first
     | refine G_val rfl rfl rfl rfl (V_nilCheck rfl rfl) ?_
     | refine G_val rfl rfl rfl rfl (V_nilCheckF rfl rfl) ?_
   refine G_val rfl rfl rfl rfl (V_fieldAddr (fo := 1) rfl Tryd.underlying120 rfl infRep_27 rfl rfl rfl) ?_
   refine G_val rfl rfl rfl rfl (V_load1 rfl rfl (mem_at 1 rfl) rfl Tryd.underlying27 rfl) ?_
   refine G_val rfl rfl rfl rfl (V_copy0 rfl rfl Tryd.underlying27 infRep_5 rfl rfl) ?_
   refine G_done ?_
   refine G_region (l := [0, 1, 2, 3, 4]) rfl ?_
   refine G_val rfl rfl rfl rfl (V_move rfl rfl) ?_
   refine G_val rfl rfl rfl rfl (V_move rfl rfl) ?_
   first
     | refine G_val rfl rfl rfl rfl (V_nilCheck rfl rfl) ?_
     | refine G_val rfl rfl rfl rfl (V_nilCheckF rfl rfl) ?_
   refine G_val rfl rfl rfl rfl (V_fieldAddr (fo := 1) rfl Tryd.underlying120 rfl infRep_27 rfl rfl rfl) ?_
   refine G_put (l1 := [_]) (L' := [_, _]) rfl rfl rfl rfl (P_store1 rfl rfl rfl (mem_at 1 rfl) (by first | exact of_decide_eq_true rfl | omega | (simp; done) | (simp; omega) | (simp at *; omega)) infRep_27 rfl rfl) rfl ?_
   refine G_done ?_
   refine G_end (post := [_, _]) Tryd.func106 rfl RVs_nil [1, 0] rfl ?_
   dsimp only [packed]
   exact ⟨rfl, ⟨some b13, csb13, (0, 0), csb13.size⟩, txt_room b13 csb13 n h1 h1b13 h2b13, rfl⟩

set_option maxRecDepth 100000 in
set_option maxHeartbeats 1000000 in
theorem bld_grow (b n : Nat) (h1 : 1 ≤ n) (h8 : n ≤ 8192) :
    Ct Tryd.prog 85 [.pointer (some ⟨b, 0, none⟩), .int .i64 (n : Int)] [] [(some b, .cells #[.pointer none, .slice none 0 0] 120 (0, 0))] fun v post => v = .tuple #[] ∧ ∃ u1, Txt u1 [] ∧ post = [(some b, .cells #[.pointer (some ⟨b, 0, none⟩), u1.v 0] 120 (0, 0)), (u1.ob, .cells u1.cs 5 u1.fz)] := by
 refine ct_of Tryd.func85 rfl rfl (fun w0 => ?_)
 show G _ _ [(0, _), (1, _)] _ _
 refine G_seq ?_
 refine G_region (l := [0, 1]) rfl ?_
 refine G_val rfl rfl rfl rfl (V_move rfl rfl) ?_
 refine G_call (L2 := []) rfl rfl rfl rfl rfl rfl Tryd.call101 (copy_fresh b _ rfl) [0] [] rfl rfl ?_
 rintro v post ⟨rfl, rfl⟩
 show G _ _ _ [_] _
 refine G_done ?_
 refine G_seq ?_
 refine G_seq ?_
 refine G_region (l := [0, 1]) rfl ?_
 refine G_val rfl rfl rfl rfl (V_move rfl rfl) ?_
 refine G_val rfl rfl rfl rfl (V_lss rfl rfl rfl) ?_
 refine G_done ?_
 refine G_ifD rfl (fun hc1 => ?_) (fun hc1 => ?_)
 · (exfalso; omega)
 refine G_skip ?_
 refine G_seq ?_
 refine GH_start (Lq := [_]) (isq := [0]) (m := 13) mixedK rfl rfl ?_
 refine GH_take 0 rfl rfl rfl rfl (by kernel_rfl) (by kernel_rfl) (by kernel_rfl) (fun _ _ => (V_move rfl rfl)) ?_
 first
   | refine GH_take 1 rfl rfl rfl rfl (by kernel_rfl) (by kernel_rfl) (by kernel_rfl) (fun _ _ => (V_nilCheck rfl rfl)) ?_
   | refine GH_take 1 rfl rfl rfl rfl (by kernel_rfl) (by kernel_rfl) (by kernel_rfl) (fun _ _ => (V_nilCheckF rfl rfl)) ?_
 refine GH_take 2 rfl rfl rfl rfl (by kernel_rfl) (by kernel_rfl) (by kernel_rfl) (fun _ _ => (V_fieldAddr (fo := 1) rfl Tryd.underlying120 rfl infRep_27 rfl rfl rfl)) ?_
 refine GH_take 3 rfl rfl rfl rfl (by kernel_rfl) (by kernel_rfl) (by kernel_rfl) (fun _ _ => (V_load1 rfl rfl (mem_at 0 rfl) rfl Tryd.underlying27 rfl)) ?_
 refine GH_take 4 rfl rfl rfl rfl (by kernel_rfl) (by kernel_rfl) (by kernel_rfl) (fun _ _ => (V_cap rfl rfl Tryd.underlying27 rfl)) ?_
 refine GH_take 5 rfl rfl rfl rfl (by kernel_rfl) (by kernel_rfl) (by kernel_rfl) (fun _ _ => (V_move rfl rfl)) ?_
 first
   | refine GH_take 6 rfl rfl rfl rfl (by kernel_rfl) (by kernel_rfl) (by kernel_rfl) (fun _ _ => (V_nilCheck rfl rfl)) ?_
   | refine GH_take 6 rfl rfl rfl rfl (by kernel_rfl) (by kernel_rfl) (by kernel_rfl) (fun _ _ => (V_nilCheckF rfl rfl)) ?_
 refine GH_take 7 rfl rfl rfl rfl (by kernel_rfl) (by kernel_rfl) (by kernel_rfl) (fun _ _ => (V_fieldAddr (fo := 1) rfl Tryd.underlying120 rfl infRep_27 rfl rfl rfl)) ?_
 refine GH_take 8 rfl rfl rfl rfl (by kernel_rfl) (by kernel_rfl) (by kernel_rfl) (fun _ _ => (V_load1 rfl rfl (mem_at 0 rfl) rfl Tryd.underlying27 rfl)) ?_
 refine GH_take 9 rfl rfl rfl rfl (by kernel_rfl) (by kernel_rfl) (by kernel_rfl) (fun _ _ => (V_len rfl rfl Tryd.underlying27 rfl)) ?_
 first
   | refine GH_take 10 rfl rfl rfl rfl (by kernel_rfl) (by kernel_rfl) (by kernel_rfl) (fun _ _ => ((V_sub rfl rfl rfl).int (wrap_i64 (by omega)))) ?_
   | refine GH_take 10 rfl rfl rfl rfl (by kernel_rfl) (by kernel_rfl) (by kernel_rfl) (fun _ _ => (V_sub rfl rfl rfl)) ?_
 refine GH_take 11 rfl rfl rfl rfl (by kernel_rfl) (by kernel_rfl) (by kernel_rfl) (fun _ _ => (V_move rfl rfl)) ?_
 refine GH_take 12 rfl rfl rfl rfl (by kernel_rfl) (by kernel_rfl) (by kernel_rfl) (fun _ _ => (V_lss rfl rfl rfl)) ?_
 refine GH_done (by kernel_rfl) ?_
 refine G_ifD rfl (fun hc2 => ?_) (fun hc2 => ?_)
 rotate_left
 · (exfalso; omega)
 refine G_region (l := [0, 1, 2]) rfl ?_
 refine G_val rfl rfl rfl rfl (V_move rfl rfl) ?_
 refine G_val rfl rfl rfl rfl (V_move rfl rfl) ?_
 refine G_call (L2 := []) rfl rfl rfl rfl rfl rfl Tryd.call106 (bld_grow1 _ n (by omega) (by omega)) [0] [] rfl rfl ?_
 rintro v post ⟨rfl, u1, hu1, rfl⟩
 show G _ _ _ [_, _] _
 refine G_done ?_
 refine G_end (post := [_, _]) Tryd.func85 rfl RVs_nil [0, 0] rfl ?_
 dsimp only [packed]
 exact ⟨rfl, u1, hu1, rfl⟩


theorem rep_step (m k : Nat) (h : k ≤ m) : List.replicate m (0 : UInt8) ++ (List.replicate m (0 : UInt8)).take k = List.replicate (m + k) 0 := by
  rw [List.take_replicate, Nat.min_eq_left h, List.replicate_append_replicate]

set_option maxRecDepth 100000 in
set_option maxHeartbeats 1000000 in
theorem repeat0 (n : Nat) (h2 : 2 ≤ n) (h8 : n ≤ 8192) :
    Ct Tryd.prog 61 [.string (bs [0]), .int .i64 (n : Int)] [] [] fun v post => v = .string (bs (List.replicate n 0)) ∧ post = [] := by
 refine ct_of Tryd.func61 rfl rfl (fun w0 => ?_)
 show G _ _ [(0, _), (1, _)] _ _
 refine G_seq ?_
 refine G_region (l := [0]) rfl ?_
 refine G_val rfl rfl rfl rfl (V_assign rfl rfl) ?_
 refine G_done ?_
 refine G_seq ?_
 refine G_seq ?_
 refine G_region (l := [0]) rfl ?_
 refine G_val rfl rfl rfl rfl (V_move rfl rfl) ?_
 refine G_done ?_
 refine G_block ?_
 refine G_seq ?_
 refine G_region (l := [0, 1]) rfl ?_
 refine G_val rfl rfl rfl rfl (V_eql rfl rfl rfl) ?_
 refine G_val rfl rfl rfl rfl (V_assign rfl rfl) ?_
 refine G_done ?_
 refine G_ifD rfl (fun hc1 => ?_) (fun hc1 => ?_)
 · (exfalso; omega)
 refine G_seq ?_
 refine G_region (l := [0, 1]) rfl ?_
 refine G_val rfl rfl rfl rfl (V_eql rfl rfl rfl) ?_
 refine G_val rfl rfl rfl rfl (V_assign rfl rfl) ?_
 refine G_done ?_
 refine G_ifD rfl (fun hc2 => ?_) (fun hc2 => ?_)
 · (exfalso; omega)
 refine G_skip ?_
 refine G_inBlock ?_
 refine G_seq ?_
 refine G_seq ?_
 refine G_region (l := [0, 1]) rfl ?_
 refine G_val rfl rfl rfl rfl (V_move rfl rfl) ?_
 refine G_val rfl rfl rfl rfl (V_lss rfl rfl rfl) ?_
 refine G_done ?_
 refine G_ifD rfl (fun hc3 => ?_) (fun hc3 => ?_)
 · (exfalso; omega)
 refine G_skip ?_
 refine G_seq ?_
 refine G_region (l := [0, 1, 2, 3, 4, 5, 6, 7, 8, 9, 10]) rfl ?_
 refine G_val rfl rfl rfl rfl (V_move rfl rfl) ?_
 refine G_val rfl rfl rfl rfl (Val.int (e' := 1) (V_slen rfl rfl Tryd.underlying9 rfl) (rfl)) ?_
 first
   | refine G_val rfl rfl rfl rfl ((V_conv rfl rfl Tryd.underlying3 Tryd.underlying28).int (wrap_u64 (by omega))) ?_
   | refine G_val rfl rfl rfl rfl (V_conv rfl rfl Tryd.underlying3 Tryd.underlying28) ?_
 refine G_val rfl rfl rfl rfl (V_move rfl rfl) ?_
 first
   | refine G_val rfl rfl rfl rfl ((V_conv rfl rfl Tryd.underlying3 Tryd.underlying28).int (wrap_u64 (by omega))) ?_
   | refine G_val rfl rfl rfl rfl (V_conv rfl rfl Tryd.underlying3 Tryd.underlying28) ?_
 refine G_call (L2 := []) rfl rfl rfl rfl rfl rfl Tryd.call94 (mul_one _ (by omega)) [] [] rfl rfl ?_
 rintro v post ⟨rfl, rfl⟩
 refine G_val rfl rfl rfl rfl (V_move rfl rfl) ?_
 refine G_val rfl rfl rfl rfl (V_extract rfl rfl rfl) ?_
 refine G_val rfl rfl rfl rfl (V_extract rfl rfl rfl) ?_
 refine G_val rfl rfl rfl rfl (V_assign rfl rfl) ?_
 refine G_val rfl rfl rfl rfl (V_assign rfl rfl) ?_
 refine G_done ?_
 refine G_seq ?_
 refine G_seq ?_
 refine G_region (l := [0, 1, 2, 3, 4, 5]) rfl ?_
 refine G_val rfl rfl rfl rfl (V_move rfl rfl) ?_
 refine G_val rfl rfl rfl rfl (V_gtr rfl rfl rfl) ?_
 refine G_val rfl rfl rfl rfl (V_move rfl rfl) ?_
 refine G_splitD 31 rfl (fun hc4 => ?_) (fun hc4 => ?_)
 · (exfalso; omega)
 refine G_val rfl rfl rfl rfl (V_move rfl rfl) ?_
 refine G_val rfl rfl rfl rfl (V_gtr rfl rfl rfl) ?_
 refine G_val rfl rfl rfl rfl (V_pickF rfl rfl rfl) ?_
 refine G_done ?_
 refine G_ifD rfl (fun hc5 => ?_) (fun hc5 => ?_)
 · (exfalso; omega)
 refine G_skip ?_
 refine G_seq ?_
 refine G_region (l := [0, 1, 2]) rfl ?_
 refine G_val rfl rfl rfl rfl (V_move rfl rfl) ?_
 first
   | refine G_val rfl rfl rfl rfl ((V_conv rfl rfl Tryd.underlying28 Tryd.underlying3).int (wrap_i64 (by omega))) ?_
   | refine G_val rfl rfl rfl rfl (V_conv rfl rfl Tryd.underlying28 Tryd.underlying3) ?_
 refine G_val rfl rfl rfl rfl (V_assign rfl rfl) ?_
 refine G_done ?_
 refine G_seq ?_
 refine G_seq ?_
 refine G_region (l := [0, 1, 2]) rfl ?_
 refine G_val rfl rfl rfl rfl (V_move rfl rfl) ?_
 refine G_val rfl rfl rfl rfl (Val.int (e' := 1) (V_slen rfl rfl Tryd.underlying9 rfl) (rfl)) ?_
 refine G_val rfl rfl rfl rfl (V_eql rfl rfl rfl) ?_
 refine G_done ?_
 refine G_ifD rfl (fun hc6 => ?_) (fun hc6 => ?_)
 · (exfalso; omega)
 refine G_skip ?_
 refine G_seq ?_
 refine G_seq ?_
 refine G_region (l := [0, 1]) rfl ?_
 refine G_val rfl rfl rfl rfl (V_move rfl rfl) ?_
 refine G_val rfl rfl rfl rfl (Val.int (e' := 0) (V_sindexN (j := 0) rfl Tryd.underlying9 rfl rfl rfl (by decide)) (rfl)) ?_
 refine G_done ?_
 refine G_block ?_
 refine G_seq ?_
 refine G_seq ?_
 refine G_region (l := [0, 1]) rfl ?_
 refine G_val rfl rfl rfl rfl (V_eql rfl rfl rfl) ?_
 refine G_val rfl rfl rfl rfl (V_assign rfl rfl) ?_
 refine G_done ?_
 refine G_ifD rfl (fun hc7 => ?_) (fun hc7 => ?_)
 · (exfalso; omega)
 refine G_seq ?_
 refine G_region (l := [0, 1]) rfl ?_
 refine G_val rfl rfl rfl rfl (V_eql rfl rfl rfl) ?_
 refine G_val rfl rfl rfl rfl (V_assign rfl rfl) ?_
 refine G_done ?_
 refine G_ifD rfl (fun hc8 => ?_) (fun hc8 => ?_)
 · (exfalso; omega)
 refine G_seq ?_
 refine G_region (l := [0, 1]) rfl ?_
 refine G_val rfl rfl rfl rfl (V_eql rfl rfl rfl) ?_
 refine G_val rfl rfl rfl rfl (V_assign rfl rfl) ?_
 refine G_done ?_
 refine G_ifD rfl (fun hc9 => ?_) (fun hc9 => ?_)
 · (exfalso; omega)
 refine G_seq ?_
 refine G_region (l := [0, 1]) rfl ?_
 refine G_val rfl rfl rfl rfl (V_eql rfl rfl rfl) ?_
 refine G_val rfl rfl rfl rfl (V_assign rfl rfl) ?_
 refine G_done ?_
 refine G_ifD rfl (fun hc10 => ?_) (fun hc10 => ?_)
 · (exfalso; omega)
 refine G_region (l := [0, 1]) rfl ?_
 refine G_val rfl rfl rfl rfl (V_eql rfl rfl rfl) ?_
 refine G_val rfl rfl rfl rfl (V_assign rfl rfl) ?_
 refine G_done ?_
 refine G_ifD rfl (fun hc11 => ?_) (fun hc11 => ?_)
 · (exfalso; omega)
 refine G_skip ?_
 refine G_inBlock ?_
 refine G_seq ?_
 refine G_region (l := [0, 1]) rfl ?_
 refine G_val rfl rfl rfl rfl (V_move rfl rfl) ?_
 refine G_val rfl rfl rfl rfl (V_assign rfl rfl) ?_
 refine G_done ?_
 refine G_seq ?_
 refine G_seq ?_
 refine G_region (l := [0, 1]) rfl ?_
 refine G_val rfl rfl rfl rfl (V_move rfl rfl) ?_
 refine G_val rfl rfl rfl rfl (V_gtr rfl rfl rfl) ?_
 refine G_done ?_
 refine G_ifD rfl (fun hc12 => ?_) (fun hc12 => ?_)
 · (exfalso; omega)
 refine G_skip ?_
 refine G_seq ?_
 refine G_region (l := [0]) rfl ?_
 refine G_new rfl rfl rfl rfl (N_allocA rfl infRep_120 rfl) (fun b9 => ?_)
 refine G_done ?_
 refine G_seq ?_
 refine G_region (l := [0, 1]) rfl ?_
 refine G_val rfl rfl rfl rfl (V_move rfl rfl) ?_
 refine G_call (L2 := []) rfl rfl rfl rfl rfl rfl Tryd.call85 (bld_grow _ _ (by omega) (by omega)) [0] [] rfl rfl ?_
 rintro v post ⟨rfl, u1, hu1, rfl⟩
 show G _ _ _ [_, _] _
 refine G_done ?_
 refine G_seq ?_
 refine G_region (l := [0, 1]) rfl ?_
 refine G_val rfl rfl rfl rfl (V_move rfl rfl) ?_
 refine G_call (L2 := []) rfl rfl rfl rfl rfl rfl Tryd.call69 (bld_write _ _ _ [] [0] (.inr rfl) hu1 (by simp)) [0, 0] [] rfl rfl ?_
 rintro v post ⟨rfl, u1, hu1, rfl⟩
 show G _ _ _ [_, _] _
 refine G_done ?_
 refine G_seq ?_
 refine G_block ?_
 refine G_sub ?he38 [0, 0] ?hl38 (G_loop (X := Nat × Sl) (fun x => match x with | ⟨m, u⟩ => 1 ≤ m ∧ m ≤ n ∧ Txt u (List.replicate m (0 : UInt8))) (fun x => match x with | ⟨m, u⟩ => n - m) (fun x => match x with | ⟨m, u⟩ => [(7, .int .i64 (n : Int)), (8, .int .i64 (n : Int)), (9, .pointer (some ⟨b9, 0, none⟩))]) (fun x => match x with | ⟨m, u⟩ => [(some b9, .cells #[.pointer (some ⟨b9, 0, none⟩), u.v (List.replicate m (0 : UInt8)).length] 120 (0, 0)), (u.ob, .cells u.cs 5 u.fz)]) ?round38 (1, u1) ?h038)
 case he38 => exact (And.intro rfl (And.intro rfl (And.intro rfl trivial)))
 case hl38 => exact ⟨_, rfl⟩
 case h038 => exact ⟨by omega, by omega, hu1⟩
 case round38 =>
  intro x hJ ih
  try dsimp only at hJ ih
  obtain ⟨m, u⟩ := x
  try dsimp only at hJ ih
  obtain ⟨hm1, hm2, hux⟩ := hJ
  show G _ _ [(7, .int .i64 (n : Int)), (8, .int .i64 (n : Int)), (9, .pointer (some ⟨b9, 0, none⟩))] [(some b9, .cells #[.pointer (some ⟨b9, 0, none⟩), u.v (List.replicate m (0 : UInt8)).length] 120 (0, 0)), (u.ob, .cells u.cs 5 u.fz)] _
  refine G_seq ?_
  refine G_seq ?_
  refine G_region (l := [0, 1, 2]) rfl ?_
  refine G_call (L2 := [_, _]) rfl rfl rfl rfl rfl rfl Tryd.call96 ((bld_len _ _ _ _).weaken (fun v post h => by rw [List.length_replicate] at h; exact h)) [] [0] rfl rfl ?_
  rintro v post ⟨rfl, rfl⟩
  show G _ _ _ [_, _] _
  refine G_val rfl rfl rfl rfl (V_move rfl rfl) ?_
  refine G_val rfl rfl rfl rfl (V_lss rfl rfl rfl) ?_
  refine G_done ?_
  refine G_ifD rfl (fun hc13 => ?_) (fun hc13 => ?_)
  · skip
    refine G_skip ?_
    refine G_block ?_
    refine G_seq ?_
    refine G_region (l := [0, 1, 2, 3, 4, 5, 6]) rfl ?_
    refine G_val rfl rfl rfl rfl (V_move rfl rfl) ?_
    refine G_call (L2 := [_, _]) rfl rfl rfl rfl rfl rfl Tryd.call96 ((bld_len _ _ _ _).weaken (fun v post h => by rw [List.length_replicate] at h; exact h)) [] [0] rfl rfl ?_
    rintro v post ⟨rfl, rfl⟩
    show G _ _ _ [_, _] _
    first
      | refine G_val rfl rfl rfl rfl ((V_sub rfl rfl rfl).int (wrap_i64 (by omega))) ?_
      | refine G_val rfl rfl rfl rfl (V_sub rfl rfl rfl) ?_
    refine G_call (L2 := [_, _]) rfl rfl rfl rfl rfl rfl Tryd.call96 ((bld_len _ _ _ _).weaken (fun v post h => by rw [List.length_replicate] at h; exact h)) [] [0] rfl rfl ?_
    rintro v post ⟨rfl, rfl⟩
    show G _ _ _ [_, _] _
    refine G_val rfl rfl rfl rfl (V_move rfl rfl) ?_
    refine G_val rfl rfl rfl rfl (V_min3 rfl rfl rfl rfl) ?_
    refine G_val rfl rfl rfl rfl (V_assign rfl rfl) ?_
    refine G_done ?_
    obtain ⟨k, hk⟩ : ∃ k : Nat, min (min ((n : Int) - (m : Int)) (m : Int)) (n : Int) = (k : Int) := ⟨_, (Int.toNat_of_nonneg (by omega)).symm⟩
    rw [hk]
    refine G_region (l := [0, 1, 2, 3]) rfl ?_
    refine G_call (L2 := []) rfl rfl rfl rfl rfl rfl Tryd.call70 (bld_string _ _ _ _ hux (by simp; omega)) [0, 0] [] rfl rfl ?_
    rintro v post ⟨rfl, u1, hu1, rfl⟩
    show G _ _ _ [_, _] _
    refine G_val rfl rfl rfl rfl (V_move rfl rfl) ?_
    first
      | refine G_val rfl rfl rfl rfl (V_ssliceHN (hi := _) rfl Tryd.underlying9 rfl rfl rfl (by first | omega | (simp; done) | (simp; omega) | (simp at *; omega))) ?_
      | refine G_val rfl rfl rfl rfl (V_ssliceH rfl Tryd.underlying9 rfl rfl (by first | omega | (simp; done) | (simp; omega) | (simp at *; omega)) (by first | omega | (simp; done) | (simp; omega) | (simp at *; omega))) ?_
    refine G_call (L2 := []) rfl rfl rfl rfl rfl rfl Tryd.call69 (bld_write _ _ _ _ _ (.inr rfl) hu1 (by simp; omega)) [0, 0] [] rfl rfl ?_
    rintro v post ⟨rfl, u1, hu1, rfl⟩
    show G _ _ _ [_, _] _
    rw [rep_step m k (by omega)] at hu1 ⊢
    refine G_done ?_
    refine G_inBlock ?_
    refine G_sub ?_ [0, 0] ?_ (ih (m + k, u1) ?_ ?_)
    · (refine (And.intro ?_ (And.intro ?_ (And.intro ?_ trivial))) <;> first | rfl | exact slot_int (by omega) | exact slot_int (by simp))
    · exact ⟨_, rfl⟩
    · exact ⟨by omega, by omega, hu1⟩
    · (first | omega | (dsimp only; omega))
  refine G_exit rfl ?_
  refine G_seq ?_
  refine G_region (l := [0, 1]) rfl ?_
  refine G_call (L2 := []) rfl rfl rfl rfl rfl rfl Tryd.call70 (bld_string _ _ _ _ hux (by simp; omega)) [0, 0] [] rfl rfl ?_
  rintro v post ⟨rfl, u1, hu1, rfl⟩
  show G _ _ _ [_, _] _
  refine G_val rfl rfl rfl rfl (V_assign rfl rfl) ?_
  refine G_done ?_
  refine G_ret (post := []) Tryd.func61 rfl (RVs_cons (RV_tmp rfl) RVs_nil) [] rfl ?_
  dsimp only [packed]
  obtain rfl : m = n := by omega
  exact ⟨rfl, rfl⟩

end
end Go.Proofs.YtbblkgdejgoncaaDoor

/- The walks of layer 22: disks. -/
set_option linter.unusedSimpArgs false
set_option linter.unusedVariables false
namespace Go.Proofs.YtbblkgdejgoncaaDoor
open Go Go.RowKit

section
theorem infDiskW_3 : Tryd.prog.info? 3 = some Tryd.t3 := by kernel_rfl
theorem infDiskW_4 : Tryd.prog.info? 4 = some Tryd.t4 := by kernel_rfl
theorem infDiskW_9 : Tryd.prog.info? 9 = some Tryd.t9 := by kernel_rfl
theorem infDiskW_24 : Tryd.prog.info? 24 = some Tryd.t24 := by kernel_rfl
theorem infDiskW_108 : Tryd.prog.info? 108 = some Tryd.t108 := by kernel_rfl
theorem infDiskW_116 : Tryd.prog.info? 116 = some Tryd.t116 := by kernel_rfl

set_option maxRecDepth 100000 in
set_option maxHeartbeats 1000000 in
theorem dk_spent (d : Nat) (s1 s2 : Value) (f : Int) (dd : Bool) (hf : -1 ≤ f ∧ f ≤ 9223372036854775807) :
    Ct Tryd.prog 65 [.pointer (some ⟨d, 0, none⟩)] [] [(some d, .cells #[s1, s2, .int .i64 f, .bool dd] 110 (0, 0))] fun v post => v = .bool (spD f dd) ∧ post = [(some d, .cells #[s1, s2, .int .i64 (spF f dd), .bool (spD f dd)] 110 (0, 0))] := by
 obtain ⟨hf0, hf1⟩ := hf
 refine ct_of Tryd.func65 rfl rfl (fun w0 => ?_)
 show G _ _ [(0, _)] _ _
 refine G_seq ?_
 refine G_region (l := [0]) rfl ?_
 refine G_val rfl rfl rfl rfl (V_assign rfl rfl) ?_
 refine G_done ?_
 refine G_seq ?_
 refine G_block ?_
 refine G_seq ?_
 cases dd
 · skip
   refine G_region (l := [0, 1, 2, 3, 4]) rfl ?_
   refine G_val rfl rfl rfl rfl (V_move rfl rfl) ?_
   first
     | refine G_val rfl rfl rfl rfl (V_nilCheck rfl rfl) ?_
     | refine G_val rfl rfl rfl rfl (V_nilCheckF rfl rfl) ?_
   refine G_val rfl rfl rfl rfl (V_fieldAddr (fo := 3) rfl Tryd.underlying110 rfl infDiskW_4 rfl rfl rfl) ?_
   refine G_val rfl rfl rfl rfl (V_load1 rfl rfl (mem_at 0 rfl) rfl Tryd.underlying4 rfl) ?_
   refine G_val rfl rfl rfl rfl (V_assign rfl rfl) ?_
   refine G_done ?_
   refine G_if rfl (fun hc1 => ?_) (fun hc1 => ?_)
   · (first | (exact absurd rfl hc1) | (exact absurd hc1 (by decide)) | (exfalso; omega))
   refine G_seq ?_
   refine G_region (l := [0, 1, 2, 3, 4, 5]) rfl ?_
   refine G_val rfl rfl rfl rfl (V_move rfl rfl) ?_
   first
     | refine G_val rfl rfl rfl rfl (V_nilCheck rfl rfl) ?_
     | refine G_val rfl rfl rfl rfl (V_nilCheckF rfl rfl) ?_
   refine G_val rfl rfl rfl rfl (V_fieldAddr (fo := 2) rfl Tryd.underlying110 rfl infDiskW_3 rfl rfl rfl) ?_
   refine G_val rfl rfl rfl rfl (V_load1 rfl rfl (mem_at 0 rfl) rfl Tryd.underlying3 rfl) ?_
   refine G_val rfl rfl rfl rfl (V_eql rfl rfl rfl) ?_
   refine G_val rfl rfl rfl rfl (V_assign rfl rfl) ?_
   refine G_done ?_
   refine G_ifD rfl (fun hc2 => ?_) (fun hc2 => ?_)
   · skip
     refine G_region (l := [0, 1, 2, 3]) rfl ?_
     refine G_val rfl rfl rfl rfl (V_move rfl rfl) ?_
     first
       | refine G_val rfl rfl rfl rfl (V_nilCheck rfl rfl) ?_
       | refine G_val rfl rfl rfl rfl (V_nilCheckF rfl rfl) ?_
     refine G_val rfl rfl rfl rfl (V_fieldAddr (fo := 3) rfl Tryd.underlying110 rfl infDiskW_4 rfl rfl rfl) ?_
     refine G_put (l1 := []) (L' := [_]) rfl rfl rfl rfl (P_store1 rfl rfl rfl (mem_at 0 rfl) (by first | exact of_decide_eq_true rfl | omega | (simp [wCells, kCells]; done) | (simp [wCells, kCells]; omega) | (simp [wCells, kCells] at *; omega)) infDiskW_4 rfl rfl) rfl ?_
     refine G_done ?_
     refine G_inBlock ?_
     refine G_seq ?_
     refine G_region (l := [0, 1, 2, 3, 4]) rfl ?_
     refine G_val rfl rfl rfl rfl (V_move rfl rfl) ?_
     first
       | refine G_val rfl rfl rfl rfl (V_nilCheck rfl rfl) ?_
       | refine G_val rfl rfl rfl rfl (V_nilCheckF rfl rfl) ?_
     refine G_val rfl rfl rfl rfl (V_fieldAddr (fo := 3) rfl Tryd.underlying110 rfl infDiskW_4 rfl rfl rfl) ?_
     refine G_val rfl rfl rfl rfl (V_load1 rfl rfl (mem_at 0 rfl) rfl Tryd.underlying4 rfl) ?_
     refine G_val rfl rfl rfl rfl (V_assign rfl rfl) ?_
     refine G_done ?_
     refine G_ret (post := [_]) Tryd.func65 rfl (RVs_cons (RV_tmp rfl) RVs_nil) [0] rfl ?_
     dsimp only [packed]
     first
       | (rw [show spD f true = true from rfl, show spF f true = f from rfl]; exact ⟨rfl, rfl⟩)
       | (rw [show spD f false = true by simp [spD, *], show spF f false = f by simp [spF, *]]; exact ⟨rfl, rfl⟩)
       | (rw [show spD f false = false by simp [spD]; omega, show spF f false = f - 1 by simp [spF]; omega]; exact ⟨rfl, rfl⟩)
       | (rw [show spD f false = false by simp [spD]; omega, show spF f false = f by simp [spF]; omega]; exact ⟨rfl, rfl⟩)
   refine G_seq ?_
   refine G_region (l := [0, 1, 2, 3, 4, 5]) rfl ?_
   refine G_val rfl rfl rfl rfl (V_move rfl rfl) ?_
   first
     | refine G_val rfl rfl rfl rfl (V_nilCheck rfl rfl) ?_
     | refine G_val rfl rfl rfl rfl (V_nilCheckF rfl rfl) ?_
   refine G_val rfl rfl rfl rfl (V_fieldAddr (fo := 2) rfl Tryd.underlying110 rfl infDiskW_3 rfl rfl rfl) ?_
   refine G_val rfl rfl rfl rfl (V_load1 rfl rfl (mem_at 0 rfl) rfl Tryd.underlying3 rfl) ?_
   refine G_val rfl rfl rfl rfl (V_gtr rfl rfl rfl) ?_
   refine G_val rfl rfl rfl rfl (V_assign rfl rfl) ?_
   refine G_done ?_
   refine G_ifD rfl (fun hc3 => ?_) (fun hc3 => ?_)
   · skip
     refine G_region (l := [0, 1, 2, 3, 4, 5, 6, 7]) rfl ?_
     refine G_val rfl rfl rfl rfl (V_move rfl rfl) ?_
     first
       | refine G_val rfl rfl rfl rfl (V_nilCheck rfl rfl) ?_
       | refine G_val rfl rfl rfl rfl (V_nilCheckF rfl rfl) ?_
     refine G_val rfl rfl rfl rfl (V_fieldAddr (fo := 2) rfl Tryd.underlying110 rfl infDiskW_3 rfl rfl rfl) ?_
     refine G_val rfl rfl rfl rfl (V_load1 rfl rfl (mem_at 0 rfl) rfl Tryd.underlying3 rfl) ?_
     first
       | refine G_val rfl rfl rfl rfl ((V_sub rfl rfl rfl).int (wrap_i64 (by omega))) ?_
       | refine G_val rfl rfl rfl rfl (V_sub rfl rfl rfl) ?_
     first
       | refine G_val rfl rfl rfl rfl (V_nilCheck rfl rfl) ?_
       | refine G_val rfl rfl rfl rfl (V_nilCheckF rfl rfl) ?_
     refine G_val rfl rfl rfl rfl (V_fieldAddr (fo := 2) rfl Tryd.underlying110 rfl infDiskW_3 rfl rfl rfl) ?_
     refine G_put (l1 := []) (L' := [_]) rfl rfl rfl rfl (P_store1 rfl rfl rfl (mem_at 0 rfl) (by first | exact of_decide_eq_true rfl | omega | (simp [wCells, kCells]; done) | (simp [wCells, kCells]; omega) | (simp [wCells, kCells] at *; omega)) infDiskW_3 rfl rfl) rfl ?_
     refine G_done ?_
     refine G_inBlock ?_
     refine G_seq ?_
     refine G_region (l := [0, 1, 2, 3, 4]) rfl ?_
     refine G_val rfl rfl rfl rfl (V_move rfl rfl) ?_
     first
       | refine G_val rfl rfl rfl rfl (V_nilCheck rfl rfl) ?_
       | refine G_val rfl rfl rfl rfl (V_nilCheckF rfl rfl) ?_
     refine G_val rfl rfl rfl rfl (V_fieldAddr (fo := 3) rfl Tryd.underlying110 rfl infDiskW_4 rfl rfl rfl) ?_
     refine G_val rfl rfl rfl rfl (V_load1 rfl rfl (mem_at 0 rfl) rfl Tryd.underlying4 rfl) ?_
     refine G_val rfl rfl rfl rfl (V_assign rfl rfl) ?_
     refine G_done ?_
     refine G_ret (post := [_]) Tryd.func65 rfl (RVs_cons (RV_tmp rfl) RVs_nil) [0] rfl ?_
     dsimp only [packed]
     first
       | (rw [show spD f true = true from rfl, show spF f true = f from rfl]; exact ⟨rfl, rfl⟩)
       | (rw [show spD f false = true by simp [spD, *], show spF f false = f by simp [spF, *]]; exact ⟨rfl, rfl⟩)
       | (rw [show spD f false = false by simp [spD]; omega, show spF f false = f - 1 by simp [spF]; omega]; exact ⟨rfl, rfl⟩)
       | (rw [show spD f false = false by simp [spD]; omega, show spF f false = f by simp [spF]; omega]; exact ⟨rfl, rfl⟩)
   refine G_skip ?_
   refine G_inBlock ?_
   refine G_seq ?_
   refine G_region (l := [0, 1, 2, 3, 4]) rfl ?_
   refine G_val rfl rfl rfl rfl (V_move rfl rfl) ?_
   first
     | refine G_val rfl rfl rfl rfl (V_nilCheck rfl rfl) ?_
     | refine G_val rfl rfl rfl rfl (V_nilCheckF rfl rfl) ?_
   refine G_val rfl rfl rfl rfl (V_fieldAddr (fo := 3) rfl Tryd.underlying110 rfl infDiskW_4 rfl rfl rfl) ?_
   refine G_val rfl rfl rfl rfl (V_load1 rfl rfl (mem_at 0 rfl) rfl Tryd.underlying4 rfl) ?_
   refine G_val rfl rfl rfl rfl (V_assign rfl rfl) ?_
   refine G_done ?_
   refine G_ret (post := [_]) Tryd.func65 rfl (RVs_cons (RV_tmp rfl) RVs_nil) [0] rfl ?_
   dsimp only [packed]
   first
     | (rw [show spD f true = true from rfl, show spF f true = f from rfl]; exact ⟨rfl, rfl⟩)
     | (rw [show spD f false = true by simp [spD, *], show spF f false = f by simp [spF, *]]; exact ⟨rfl, rfl⟩)
     | (rw [show spD f false = false by simp [spD]; omega, show spF f false = f - 1 by simp [spF]; omega]; exact ⟨rfl, rfl⟩)
     | (rw [show spD f false = false by simp [spD]; omega, show spF f false = f by simp [spF]; omega]; exact ⟨rfl, rfl⟩)
 · skip
   refine G_region (l := [0, 1, 2, 3, 4]) rfl ?_
   refine G_val rfl rfl rfl rfl (V_move rfl rfl) ?_
   first
     | refine G_val rfl rfl rfl rfl (V_nilCheck rfl rfl) ?_
     | refine G_val rfl rfl rfl rfl (V_nilCheckF rfl rfl) ?_
   refine G_val rfl rfl rfl rfl (V_fieldAddr (fo := 3) rfl Tryd.underlying110 rfl infDiskW_4 rfl rfl rfl) ?_
   refine G_val rfl rfl rfl rfl (V_load1 rfl rfl (mem_at 0 rfl) rfl Tryd.underlying4 rfl) ?_
   refine G_val rfl rfl rfl rfl (V_assign rfl rfl) ?_
   refine G_done ?_
   refine G_if rfl (fun hc1 => ?_) (fun hc1 => ?_)
   rotate_left
   · (first | (exact absurd rfl hc1) | (exact absurd hc1 (by decide)) | (exfalso; omega))
   refine G_skip ?_
   refine G_inBlock ?_
   refine G_seq ?_
   refine G_region (l := [0, 1, 2, 3, 4]) rfl ?_
   refine G_val rfl rfl rfl rfl (V_move rfl rfl) ?_
   first
     | refine G_val rfl rfl rfl rfl (V_nilCheck rfl rfl) ?_
     | refine G_val rfl rfl rfl rfl (V_nilCheckF rfl rfl) ?_
   refine G_val rfl rfl rfl rfl (V_fieldAddr (fo := 3) rfl Tryd.underlying110 rfl infDiskW_4 rfl rfl rfl) ?_
   refine G_val rfl rfl rfl rfl (V_load1 rfl rfl (mem_at 0 rfl) rfl Tryd.underlying4 rfl) ?_
   refine G_val rfl rfl rfl rfl (V_assign rfl rfl) ?_
   refine G_done ?_
   refine G_ret (post := [_]) Tryd.func65 rfl (RVs_cons (RV_tmp rfl) RVs_nil) [0] rfl ?_
   dsimp only [packed]
   first
     | (rw [show spD f true = true from rfl, show spF f true = f from rfl]; exact ⟨rfl, rfl⟩)
     | (rw [show spD f false = true by simp [spD, *], show spF f false = f by simp [spF, *]]; exact ⟨rfl, rfl⟩)
     | (rw [show spD f false = false by simp [spD]; omega, show spF f false = f - 1 by simp [spF]; omega]; exact ⟨rfl, rfl⟩)
     | (rw [show spD f false = false by simp [spD]; omega, show spF f false = f by simp [spF]; omega]; exact ⟨rfl, rfl⟩)

set_option maxRecDepth 100000 in
set_option maxHeartbeats 1000000 in
theorem dk_has (d n lb lcap : Nat) (lcs : Array Value) (uw : Sl) (k : Dk) (h : DkAt k n lb lcs lcap uw) (a : Int) :
    Ct Tryd.prog 63 [.pointer (some ⟨d, 0, none⟩), .int .i64 a] [(some d, .cells #[.slice (some ⟨lb, 0, none⟩) n lcap, uw.v k.W.length, .int .i64 k.fuse, .bool k.dead] 110 (0, 0))] [] fun v post => v = .int .i64 (hasE k.L.length a) ∧ post = [] := by
 have hb := h.bd
 have hb1 := hb.n1
 have hb2 := hb.n4
 have hb3 := hb.ncs
 have hb4 := hb.ncap
 have hb5 := hb.cap
 have hb6 := hb.w
 have hb7 := hb.wc
 have hln := h.len
 refine ct_of Tryd.func63 rfl rfl (fun w0 => ?_)
 show G _ _ [(0, _), (1, _)] _ _
 refine G_seq ?_
 refine G_region (l := [0]) rfl ?_
 refine G_val rfl rfl rfl rfl (V_assign rfl rfl) ?_
 refine G_done ?_
 refine G_seq ?_
 refine G_block ?_
 refine G_seq ?_
 refine G_region (l := [0, 1, 2]) rfl ?_
 refine G_val rfl rfl rfl rfl (V_move rfl rfl) ?_
 refine G_val rfl rfl rfl rfl (V_peqlN rfl Tryd.underlying35 rfl rfl) ?_
 refine G_val rfl rfl rfl rfl (V_assign rfl rfl) ?_
 refine G_done ?_
 refine G_else rfl ?_
 refine G_seq ?_
 refine G_region (l := [0, 1, 2, 3, 4, 5, 6, 7, 8, 9, 10, 11]) rfl ?_
 refine G_val rfl rfl rfl rfl (V_move rfl rfl) ?_
 refine G_val rfl rfl rfl rfl (V_lss rfl rfl rfl) ?_
 refine G_val rfl rfl rfl rfl (V_move rfl rfl) ?_
 refine G_splitD 11 rfl (fun hc1 => ?_) (fun hc1 => ?_)
 · skip
   refine G_off rfl rfl rfl rfl ?_
   refine G_off rfl rfl rfl rfl ?_
   refine G_off rfl rfl rfl rfl ?_
   refine G_off rfl rfl rfl rfl ?_
   refine G_off rfl rfl rfl rfl ?_
   refine G_off rfl rfl rfl rfl ?_
   refine G_off rfl rfl rfl rfl ?_
   refine G_val rfl rfl rfl rfl (V_pickT rfl rfl rfl) ?_
   refine G_val rfl rfl rfl rfl (V_assign rfl rfl) ?_
   refine G_done ?_
   refine G_then rfl ?_
   refine G_seq ?_
   refine G_region (l := [0]) rfl ?_
   refine G_val rfl rfl rfl rfl (V_assign rfl rfl) ?_
   refine G_done ?_
   refine G_ret (post := []) Tryd.func63 rfl (RVs_cons (RV_tmp rfl) RVs_nil) [] rfl ?_
   dsimp only [packed]
   refine ⟨int_eq ?_, rfl⟩; unfold hasE; first | (rw [if_pos (by omega)]) | (rw [if_neg (by omega)])
 refine G_val rfl rfl rfl rfl (V_move rfl rfl) ?_
 refine G_val rfl rfl rfl rfl (V_move rfl rfl) ?_
 first
   | refine G_val rfl rfl rfl rfl (V_nilCheck rfl rfl) ?_
   | refine G_val rfl rfl rfl rfl (V_nilCheckF rfl rfl) ?_
 refine G_val rfl rfl rfl rfl (V_fieldAddr (fo := 0) rfl Tryd.underlying110 rfl infDiskW_24 rfl rfl rfl) ?_
 refine G_val rfl rfl rfl rfl (V_load1 rfl rfl (mem_at 0 rfl) rfl Tryd.underlying24 rfl) ?_
 refine G_val rfl rfl rfl rfl (V_len rfl rfl Tryd.underlying24 rfl) ?_
 refine G_val rfl rfl rfl rfl (V_geq rfl rfl rfl) ?_
 refine G_val rfl rfl rfl rfl (V_pickF rfl rfl rfl) ?_
 refine G_val rfl rfl rfl rfl (V_assign rfl rfl) ?_
 refine G_done ?_
 refine G_ifD rfl (fun hc2 => ?_) (fun hc2 => ?_)
 · skip
   refine G_seq ?_
   refine G_region (l := [0]) rfl ?_
   refine G_val rfl rfl rfl rfl (V_assign rfl rfl) ?_
   refine G_done ?_
   refine G_ret (post := []) Tryd.func63 rfl (RVs_cons (RV_tmp rfl) RVs_nil) [] rfl ?_
   dsimp only [packed]
   refine ⟨int_eq ?_, rfl⟩; unfold hasE; first | (rw [if_pos (by omega)]) | (rw [if_neg (by omega)])
 refine G_skip ?_
 refine G_inBlock ?_
 refine G_seq ?_
 refine G_region (l := [0]) rfl ?_
 refine G_val rfl rfl rfl rfl (V_assign rfl rfl) ?_
 refine G_done ?_
 refine G_ret (post := []) Tryd.func63 rfl (RVs_cons (RV_tmp rfl) RVs_nil) [] rfl ?_
 dsimp only [packed]
 refine ⟨int_eq ?_, rfl⟩; unfold hasE; first | (rw [if_pos (by omega)]) | (rw [if_neg (by omega)])

set_option maxRecDepth 100000 in
set_option maxHeartbeats 1000000 in
theorem dk_has_nil (a : Int) :
    Ct Tryd.prog 63 [.pointer none, .int .i64 a] [] [] fun v post => v = .int .i64 19 ∧ post = [] := by
 refine ct_of Tryd.func63 rfl rfl (fun w0 => ?_)
 show G _ _ [(0, _), (1, _)] _ _
 refine G_seq ?_
 refine G_region (l := [0]) rfl ?_
 refine G_val rfl rfl rfl rfl (V_assign rfl rfl) ?_
 refine G_done ?_
 refine G_seq ?_
 refine G_block ?_
 refine G_seq ?_
 refine G_region (l := [0, 1, 2]) rfl ?_
 refine G_val rfl rfl rfl rfl (V_move rfl rfl) ?_
 refine G_val rfl rfl rfl rfl (V_peqlN rfl Tryd.underlying35 rfl rfl) ?_
 refine G_val rfl rfl rfl rfl (V_assign rfl rfl) ?_
 refine G_done ?_
 refine G_then rfl ?_
 refine G_seq ?_
 refine G_region (l := [0]) rfl ?_
 refine G_val rfl rfl rfl rfl (V_assign rfl rfl) ?_
 refine G_done ?_
 refine G_ret (post := []) Tryd.func63 rfl (RVs_cons (RV_tmp rfl) RVs_nil) [] rfl ?_
 dsimp only [packed]
 exact ⟨rfl, rfl⟩

set_option maxRecDepth 100000 in
set_option maxHeartbeats 1000000 in
theorem dk_lies (d n lb lcap : Nat) (lcs : Array Value) (uw : Sl) (k : Dk) (h : DkAt k n lb lcs lcap uw) (a : Int) :
    Ct Tryd.prog 73 [.pointer (some ⟨d, 0, none⟩), .int .i64 a] [(some d, .cells #[.slice (some ⟨lb, 0, none⟩) n lcap, uw.v k.W.length, .int .i64 k.fuse, .bool k.dead] 110 (0, 0)), (some lb, .cells lcs 9 (0, 0))] [] fun v post => v = .tuple #[.string (bs (k.liesS a)), .int .i64 (hasE k.L.length a)] ∧ post = [] := by
 have hb := h.bd
 have hb1 := hb.n1
 have hb2 := hb.n4
 have hb3 := hb.ncs
 have hb4 := hb.ncap
 have hb5 := hb.cap
 have hb6 := hb.w
 have hb7 := hb.wc
 have hln := h.len
 refine ct_of Tryd.func73 rfl rfl (fun w0 => ?_)
 show G _ _ [(0, _), (1, _)] _ _
 refine G_seq ?_
 refine G_region (l := [0, 1]) rfl ?_
 refine G_val rfl rfl rfl rfl (V_assign rfl rfl) ?_
 refine G_val rfl rfl rfl rfl (V_assign rfl rfl) ?_
 refine G_done ?_
 refine G_seq ?_
 refine G_seq ?_
 refine G_region (l := [0, 1, 2, 3]) rfl ?_
 refine G_val rfl rfl rfl rfl (V_move rfl rfl) ?_
 refine G_val rfl rfl rfl rfl (V_move rfl rfl) ?_
 refine G_call (L2 := []) rfl rfl rfl rfl rfl rfl Tryd.call63 (dk_has _ _ _ _ _ _ _ h _) [] [0] rfl rfl ?_
 rintro v post ⟨rfl, rfl⟩
 refine G_val rfl rfl rfl rfl (V_assign rfl rfl) ?_
 refine G_done ?_
 refine G_seq ?_
 refine G_region (l := [0, 1]) rfl ?_
 refine G_val rfl rfl rfl rfl (V_move rfl rfl) ?_
 refine G_val rfl rfl rfl rfl (V_neq rfl rfl rfl) ?_
 refine G_done ?_
 refine G_ifD rfl (fun hc1 => ?_) (fun hc1 => ?_)
 · skip
   refine G_seq ?_
   refine G_region (l := [0, 1, 2]) rfl ?_
   refine G_val rfl rfl rfl rfl (V_move rfl rfl) ?_
   refine G_val rfl rfl rfl rfl (V_assign rfl rfl) ?_
   refine G_val rfl rfl rfl rfl (V_assign rfl rfl) ?_
   refine G_done ?_
   refine G_ret (post := []) Tryd.func73 rfl (RVs_cons (RV_tmp rfl) (RVs_cons (RV_tmp rfl) RVs_nil)) [] rfl ?_
   dsimp only [packed]
   first
     | (rw [lies_no (by assumption)]; exact ⟨rfl, rfl⟩)
     | (rw [lies_yes (Classical.not_not.1 hc1), Classical.not_not.1 hc1]; exact ⟨rfl, rfl⟩)
 refine G_skip ?_
 refine G_seq ?_
 have ha := hasE_ok.1 (Classical.not_not.1 hc1)
 refine G_region (l := [0, 1, 2, 3, 4, 5, 6, 7, 8]) rfl ?_
 refine G_val rfl rfl rfl rfl (V_move rfl rfl) ?_
 first
   | refine G_val rfl rfl rfl rfl (V_nilCheck rfl rfl) ?_
   | refine G_val rfl rfl rfl rfl (V_nilCheckF rfl rfl) ?_
 refine G_val rfl rfl rfl rfl (V_fieldAddr (fo := 0) rfl Tryd.underlying110 rfl infDiskW_24 rfl rfl rfl) ?_
 refine G_val rfl rfl rfl rfl (V_load1 rfl rfl (mem_at 0 rfl) rfl Tryd.underlying24 rfl) ?_
 refine G_val rfl rfl rfl rfl (V_move rfl rfl) ?_
 first
   | refine G_val rfl rfl rfl rfl (V_indexAddrN (s := 1) rfl Tryd.underlying24 infDiskW_9 rfl rfl rfl rfl (by omega)) ?_
   | refine G_val rfl rfl rfl rfl (V_indexAddr (s := 1) rfl Tryd.underlying24 infDiskW_9 rfl rfl rfl (by omega) (by first | omega | (simp [wCells, kCells]; done) | (simp [wCells, kCells]; omega) | (simp [wCells, kCells] at *; omega))) ?_
 refine G_val rfl rfl rfl rfl (V_load1 rfl rfl (mem_at 1 rfl) (nth_of (own_str h.l a.toNat (by omega))) Tryd.underlying9 rfl) ?_
 refine G_val rfl rfl rfl rfl (V_assign rfl rfl) ?_
 refine G_val rfl rfl rfl rfl (V_assign rfl rfl) ?_
 refine G_done ?_
 refine G_ret (post := []) Tryd.func73 rfl (RVs_cons (RV_tmp rfl) (RVs_cons (RV_tmp rfl) RVs_nil)) [] rfl ?_
 dsimp only [packed]
 first
   | (rw [lies_no (by assumption)]; exact ⟨rfl, rfl⟩)
   | (rw [lies_yes (Classical.not_not.1 hc1), Classical.not_not.1 hc1]; exact ⟨rfl, rfl⟩)

set_option maxRecDepth 100000 in
set_option maxHeartbeats 1000000 in
theorem dk_lies_nil (a : Int) :
    Ct Tryd.prog 73 [.pointer none, .int .i64 a] [] [] fun v post => v = .tuple #[.string (bs []), .int .i64 19] ∧ post = [] := by
 refine ct_of Tryd.func73 rfl rfl (fun w0 => ?_)
 show G _ _ [(0, _), (1, _)] _ _
 refine G_seq ?_
 refine G_region (l := [0, 1]) rfl ?_
 refine G_val rfl rfl rfl rfl (V_assign rfl rfl) ?_
 refine G_val rfl rfl rfl rfl (V_assign rfl rfl) ?_
 refine G_done ?_
 refine G_seq ?_
 refine G_seq ?_
 refine G_region (l := [0, 1, 2, 3]) rfl ?_
 refine G_val rfl rfl rfl rfl (V_move rfl rfl) ?_
 refine G_val rfl rfl rfl rfl (V_move rfl rfl) ?_
 refine G_call (L2 := []) rfl rfl rfl rfl rfl rfl Tryd.call63 (dk_has_nil a) [] [] rfl rfl ?_
 rintro v post ⟨rfl, rfl⟩
 refine G_val rfl rfl rfl rfl (V_assign rfl rfl) ?_
 refine G_done ?_
 refine G_seq ?_
 refine G_region (l := [0, 1]) rfl ?_
 refine G_val rfl rfl rfl rfl (V_move rfl rfl) ?_
 refine G_val rfl rfl rfl rfl (V_neq rfl rfl rfl) ?_
 refine G_done ?_
 refine G_ifD rfl (fun hc1 => ?_) (fun hc1 => ?_)
 rotate_left
 · (first | (exact absurd rfl hc1) | (exact absurd hc1 (by decide)) | (exfalso; omega))
 refine G_seq ?_
 refine G_region (l := [0, 1, 2]) rfl ?_
 refine G_val rfl rfl rfl rfl (V_move rfl rfl) ?_
 refine G_val rfl rfl rfl rfl (V_assign rfl rfl) ?_
 refine G_val rfl rfl rfl rfl (V_assign rfl rfl) ?_
 refine G_done ?_
 refine G_ret (post := []) Tryd.func73 rfl (RVs_cons (RV_tmp rfl) (RVs_cons (RV_tmp rfl) RVs_nil)) [] rfl ?_
 dsimp only [packed]
 exact ⟨rfl, rfl⟩

set_option maxRecDepth 100000 in
set_option maxHeartbeats 1000000 in
theorem dk_read (d n lb lcap : Nat) (lcs : Array Value) (uw : Sl) (k : Dk) (h : DkAt k n lb lcs lcap uw) (a : Int) :
    Ct Tryd.prog 29 [.pointer (some ⟨d, 0, none⟩), .int .i64 a] [(some d, .cells #[.slice (some ⟨lb, 0, none⟩) n lcap, uw.v k.W.length, .int .i64 k.fuse, .bool k.dead] 110 (0, 0)), (some lb, .cells lcs 9 (0, 0)), (uw.ob, .cells uw.cs 116 uw.fz)] [] fun v post => v = .tuple #[.string (bs (k.readS a)), .int .i64 (k.readE a)] ∧ post = [] := by
 have hb := h.bd
 have hb1 := hb.n1
 have hb2 := hb.n4
 have hb3 := hb.ncs
 have hb4 := hb.ncap
 have hb5 := hb.cap
 have hb6 := hb.w
 have hb7 := hb.wc
 have hln := h.len
 refine ct_of Tryd.func29 rfl rfl (fun w0 => ?_)
 show G _ _ [(0, _), (1, _)] _ _
 refine G_seq ?_
 refine G_region (l := [0, 1]) rfl ?_
 refine G_val rfl rfl rfl rfl (V_assign rfl rfl) ?_
 refine G_val rfl rfl rfl rfl (V_assign rfl rfl) ?_
 refine G_done ?_
 refine G_seq ?_
 refine G_region (l := [0, 1, 2, 3, 4, 5, 6, 7]) rfl ?_
 refine G_val rfl rfl rfl rfl (V_move rfl rfl) ?_
 refine G_val rfl rfl rfl rfl (V_move rfl rfl) ?_
 refine G_call (L2 := []) rfl rfl rfl rfl rfl rfl Tryd.call73 (dk_lies _ _ _ _ _ _ _ h _) [] [0, 1] rfl rfl ?_
 rintro v post ⟨rfl, rfl⟩
 refine G_val rfl rfl rfl rfl (V_move rfl rfl) ?_
 refine G_val rfl rfl rfl rfl (V_extract rfl rfl rfl) ?_
 refine G_val rfl rfl rfl rfl (V_extract rfl rfl rfl) ?_
 refine G_val rfl rfl rfl rfl (V_assign rfl rfl) ?_
 refine G_val rfl rfl rfl rfl (V_assign rfl rfl) ?_
 refine G_done ?_
 refine G_seq ?_
 refine G_block ?_
 refine G_seq ?_
 refine G_region (l := [0, 1, 2]) rfl ?_
 refine G_val rfl rfl rfl rfl (V_move rfl rfl) ?_
 refine G_val rfl rfl rfl rfl (V_neq rfl rfl rfl) ?_
 refine G_val rfl rfl rfl rfl (V_assign rfl rfl) ?_
 refine G_done ?_
 refine G_ifD rfl (fun hc1 => ?_) (fun hc1 => ?_)
 · skip
   refine G_seq ?_
   refine G_region (l := [0, 1, 2]) rfl ?_
   refine G_val rfl rfl rfl rfl (V_move rfl rfl) ?_
   refine G_val rfl rfl rfl rfl (V_assign rfl rfl) ?_
   refine G_val rfl rfl rfl rfl (V_assign rfl rfl) ?_
   refine G_done ?_
   refine G_ret (post := []) Tryd.func29 rfl (RVs_cons (RV_tmp rfl) (RVs_cons (RV_tmp rfl) RVs_nil)) [] rfl ?_
   dsimp only [packed]
   first
     | (obtain ⟨e1, e2⟩ := read_no (k := k) (a := a) (by assumption); rw [e1, e2]; exact ⟨rfl, rfl⟩)
     | (obtain ⟨e1, e2⟩ := read_dead ha hdd; rw [e1, e2]; exact ⟨rfl, rfl⟩)
     | (obtain ⟨e1, e2⟩ := read_yes ha (by rw [hdd]; exact Bool.false_ne_true); rw [e1, e2, show k.W.take i = k.W from List.take_of_length_le (by omega)]; exact ⟨rfl, rfl⟩)
 refine G_seq ?_
 have ha := Classical.not_not.1 hc1
 cases hdd : k.dead
 · skip
   refine G_region (l := [0, 1, 2, 3, 4]) rfl ?_
   refine G_val rfl rfl rfl rfl (V_move rfl rfl) ?_
   first
     | refine G_val rfl rfl rfl rfl (V_nilCheck rfl rfl) ?_
     | refine G_val rfl rfl rfl rfl (V_nilCheckF rfl rfl) ?_
   refine G_val rfl rfl rfl rfl (V_fieldAddr (fo := 3) rfl Tryd.underlying110 rfl infDiskW_4 rfl rfl rfl) ?_
   refine G_val rfl rfl rfl rfl (V_load1 rfl rfl (mem_at 0 rfl) rfl Tryd.underlying4 rfl) ?_
   refine G_val rfl rfl rfl rfl (V_assign rfl rfl) ?_
   refine G_done ?_
   refine G_if rfl (fun hc2 => ?_) (fun hc2 => ?_)
   · (first | (exact absurd rfl hc2) | (exact absurd hc2 (by decide)) | (exfalso; omega))
   refine G_skip ?_
   refine G_inBlock ?_
   refine G_seq ?_
   refine G_seq ?_
   rw [lies_yes ha]
   refine G_region (l := [0, 1, 2, 3, 4, 5]) rfl ?_
   refine G_val rfl rfl rfl rfl (V_move rfl rfl) ?_
   first
     | refine G_val rfl rfl rfl rfl (V_nilCheck rfl rfl) ?_
     | refine G_val rfl rfl rfl rfl (V_nilCheckF rfl rfl) ?_
   refine G_val rfl rfl rfl rfl (V_fieldAddr (fo := 1) rfl Tryd.underlying110 rfl infDiskW_108 rfl rfl rfl) ?_
   refine G_val rfl rfl rfl rfl (V_load1 rfl rfl (mem_at 0 rfl) rfl Tryd.underlying108 rfl) ?_
   refine G_val rfl rfl rfl rfl (V_len rfl rfl Tryd.underlying108 rfl) ?_
   refine G_val rfl rfl rfl rfl (V_move rfl rfl) ?_
   refine G_done ?_
   refine G_block ?_
   refine G_sub ?he7 [] ?hl7 (G_loop (X := Nat) (fun i => i ≤ k.W.length) (fun i => k.W.length - i) (fun i => [(0, .pointer (some ⟨d, 0, none⟩)), (1, .int .i64 a), (6, .string (bs (lastW (k.L.getD a.toNat []) a (k.W.take i)))), (28, uw.v k.W.length), (29, .int .i64 (k.W.length : Int)), (30, .int .i64 (i : Int))]) (fun i => []) ?round7 0 ?h07)
   case he7 => exact (And.intro rfl (And.intro rfl (And.intro rfl (And.intro rfl (And.intro rfl (And.intro rfl trivial))))))
   case hl7 => exact ⟨_, rfl⟩
   case h07 => exact Nat.zero_le _
   case round7 =>
    intro i hJ ih
    try dsimp only at hJ ih
    refine G_seq ?_
    refine G_region (l := [0]) rfl ?_
    refine G_val rfl rfl rfl rfl (V_lss rfl rfl rfl) ?_
    refine G_done ?_
    refine G_seq ?_
    refine G_ifD rfl (fun hc3 => ?_) (fun hc3 => ?_)
    · skip
      refine G_skip ?_
      refine G_seq ?_
      refine G_block ?_
      refine G_seq ?_
      obtain ⟨x, hx⟩ := getI (show i < k.W.length by omega)
      obtain ⟨wo, wcs, wfz, wcap⟩ := uw
      obtain ⟨wb, rfl⟩ := h.w.isSome (by omega)
      refine G_region (l := [0, 1, 2, 3]) rfl ?_
      first
        | refine G_val rfl rfl rfl rfl (V_indexAddrN (s := 2) rfl Tryd.underlying108 infDiskW_116 rfl rfl rfl rfl (by omega)) ?_
        | refine G_val rfl rfl rfl rfl (V_indexAddr (s := 2) rfl Tryd.underlying108 infDiskW_116 rfl rfl rfl (by omega) (by first | omega | (simp [wCells, kCells]; done) | (simp [wCells, kCells]; omega) | (simp [wCells, kCells] at *; omega))) ?_
      refine G_val rfl rfl rfl rfl (V_loadA (s := 2) (vs := (wCells x).toArray) rfl rfl (mem_at 2 rfl) Tryd.underlying116 rfl infDiskW_116 rfl (h.w.sees.elem w_len hx) (by first | rfl | (simp [bcells_length, wCells, kCells]; done) | (simp [bcells_length, wCells, kCells]; omega) | (simp [bcells_length, *, wCells, kCells]; done))) ?_
      refine G_new rfl rfl rfl rfl (N_allocA rfl infDiskW_116 rfl) (fun b9 => ?_)
      refine G_put (l1 := []) (L' := [_]) rfl rfl rfl rfl (P_storeA (s := 2) rfl rfl rfl (mem_at 0 rfl) (by first | rfl | (simp [bcells_length, wCells, kCells]; done) | (simp [bcells_length, wCells, kCells]; omega) | (simp [bcells_length, *, wCells, kCells]; done)) infDiskW_116 rfl (by first | rfl | (simp [bcells_length, wCells, kCells]; done) | (simp [bcells_length, wCells, kCells]; omega) | (simp [bcells_length, *, wCells, kCells]; done)) (by first | rfl | exact bcells_all _ | (simp [Value.oneCell', wCells, kCells]; done) | (simp [Value.oneCell', *, wCells, kCells]; done))) rfl ?_
      refine G_done ?_
      refine G_seq ?_
      refine G_region (l := [0, 1, 2, 3]) rfl ?_
      refine G_val rfl rfl rfl rfl (V_fieldAddr (fo := 0) rfl Tryd.underlying116 rfl infDiskW_3 rfl rfl rfl) ?_
      refine G_val rfl rfl rfl rfl (V_load1 rfl rfl (mem_at 3 rfl) rfl Tryd.underlying3 rfl) ?_
      refine G_val rfl rfl rfl rfl (V_move rfl rfl) ?_
      refine G_val rfl rfl rfl rfl (V_eql rfl rfl rfl) ?_
      refine G_done ?_
      refine G_ifD rfl (fun hc4 => ?_) (fun hc4 => ?_)
      · skip
        refine G_region (l := [0, 1, 2]) rfl ?_
        refine G_val rfl rfl rfl rfl (V_fieldAddr (fo := 1) rfl Tryd.underlying116 rfl infDiskW_9 rfl rfl rfl) ?_
        refine G_val rfl rfl rfl rfl (V_load1 rfl rfl (mem_at 3 rfl) rfl Tryd.underlying9 rfl) ?_
        refine G_val rfl rfl rfl rfl (V_assign rfl rfl) ?_
        refine G_done ?_
        refine G_inBlock ?_
        first | (rw [lastW_yes (s := k.L.getD a.toNat []) hx (by assumption)]) | skip
        refine G_region (l := [0, 1]) rfl ?_
        first
          | refine G_val rfl rfl rfl rfl ((V_add rfl rfl rfl).int (wrap_i64 (by omega))) ?_
          | refine G_val rfl rfl rfl rfl (V_add rfl rfl rfl) ?_
        refine G_val rfl rfl rfl rfl (V_move rfl rfl) ?_
        refine G_done ?_
        refine G_sub ?_ [] ?_ (ih (i + 1) ?_ ?_)
        · refine (And.intro rfl (And.intro rfl (And.intro (slot_str (by first | exact (lastW_yes hx (by assumption)).symm | exact (lastW_no hx (by assumption)).symm)) (And.intro rfl (And.intro rfl (And.intro rfl trivial))))))
        · exact ⟨_, rfl⟩
        · omega
        · (first | omega | (dsimp only; omega))
      refine G_skip ?_
      refine G_inBlock ?_
      first | (rw [lastW_yes (s := k.L.getD a.toNat []) hx (by assumption)]) | skip
      refine G_region (l := [0, 1]) rfl ?_
      first
        | refine G_val rfl rfl rfl rfl ((V_add rfl rfl rfl).int (wrap_i64 (by omega))) ?_
        | refine G_val rfl rfl rfl rfl (V_add rfl rfl rfl) ?_
      refine G_val rfl rfl rfl rfl (V_move rfl rfl) ?_
      refine G_done ?_
      refine G_sub ?_ [] ?_ (ih (i + 1) ?_ ?_)
      · refine (And.intro rfl (And.intro rfl (And.intro (slot_str (by first | exact (lastW_yes hx (by assumption)).symm | exact (lastW_no hx (by assumption)).symm)) (And.intro rfl (And.intro rfl (And.intro rfl trivial))))))
      · exact ⟨_, rfl⟩
      · omega
      · (first | omega | (dsimp only; omega))
    refine G_exit rfl ?_
    refine G_seq ?_
    refine G_region (l := [0, 1, 2]) rfl ?_
    refine G_val rfl rfl rfl rfl (V_move rfl rfl) ?_
    refine G_val rfl rfl rfl rfl (V_assign rfl rfl) ?_
    refine G_val rfl rfl rfl rfl (V_assign rfl rfl) ?_
    refine G_done ?_
    refine G_ret (post := []) Tryd.func29 rfl (RVs_cons (RV_tmp rfl) (RVs_cons (RV_tmp rfl) RVs_nil)) [] rfl ?_
    dsimp only [packed]
    first
      | (obtain ⟨e1, e2⟩ := read_no (k := k) (a := a) (by assumption); rw [e1, e2]; exact ⟨rfl, rfl⟩)
      | (obtain ⟨e1, e2⟩ := read_dead ha hdd; rw [e1, e2]; exact ⟨rfl, rfl⟩)
      | (obtain ⟨e1, e2⟩ := read_yes ha (by rw [hdd]; exact Bool.false_ne_true); rw [e1, e2, show k.W.take i = k.W from List.take_of_length_le (by omega)]; exact ⟨rfl, rfl⟩)
 · skip
   refine G_region (l := [0, 1, 2, 3, 4]) rfl ?_
   refine G_val rfl rfl rfl rfl (V_move rfl rfl) ?_
   first
     | refine G_val rfl rfl rfl rfl (V_nilCheck rfl rfl) ?_
     | refine G_val rfl rfl rfl rfl (V_nilCheckF rfl rfl) ?_
   refine G_val rfl rfl rfl rfl (V_fieldAddr (fo := 3) rfl Tryd.underlying110 rfl infDiskW_4 rfl rfl rfl) ?_
   refine G_val rfl rfl rfl rfl (V_load1 rfl rfl (mem_at 0 rfl) rfl Tryd.underlying4 rfl) ?_
   refine G_val rfl rfl rfl rfl (V_assign rfl rfl) ?_
   refine G_done ?_
   refine G_if rfl (fun hc2 => ?_) (fun hc2 => ?_)
   rotate_left
   · (first | (exact absurd rfl hc2) | (exact absurd hc2 (by decide)) | (exfalso; omega))
   refine G_seq ?_
   refine G_region (l := [0, 1]) rfl ?_
   refine G_val rfl rfl rfl rfl (V_assign rfl rfl) ?_
   refine G_val rfl rfl rfl rfl (V_assign rfl rfl) ?_
   refine G_done ?_
   refine G_ret (post := []) Tryd.func29 rfl (RVs_cons (RV_tmp rfl) (RVs_cons (RV_tmp rfl) RVs_nil)) [] rfl ?_
   dsimp only [packed]
   first
     | (obtain ⟨e1, e2⟩ := read_no (k := k) (a := a) (by assumption); rw [e1, e2]; exact ⟨rfl, rfl⟩)
     | (obtain ⟨e1, e2⟩ := read_dead ha hdd; rw [e1, e2]; exact ⟨rfl, rfl⟩)
     | (obtain ⟨e1, e2⟩ := read_yes ha (by rw [hdd]; exact Bool.false_ne_true); rw [e1, e2, show k.W.take i = k.W from List.take_of_length_le (by omega)]; exact ⟨rfl, rfl⟩)

set_option maxRecDepth 100000 in
set_option maxHeartbeats 1000000 in
theorem dk_read_nil (a : Int) :
    Ct Tryd.prog 29 [.pointer none, .int .i64 a] [] [] fun v post => v = .tuple #[.string (bs []), .int .i64 19] ∧ post = [] := by
 refine ct_of Tryd.func29 rfl rfl (fun w0 => ?_)
 show G _ _ [(0, _), (1, _)] _ _
 refine G_seq ?_
 refine G_region (l := [0, 1]) rfl ?_
 refine G_val rfl rfl rfl rfl (V_assign rfl rfl) ?_
 refine G_val rfl rfl rfl rfl (V_assign rfl rfl) ?_
 refine G_done ?_
 refine G_seq ?_
 refine G_region (l := [0, 1, 2, 3, 4, 5, 6, 7]) rfl ?_
 refine G_val rfl rfl rfl rfl (V_move rfl rfl) ?_
 refine G_val rfl rfl rfl rfl (V_move rfl rfl) ?_
 refine G_call (L2 := []) rfl rfl rfl rfl rfl rfl Tryd.call73 (dk_lies_nil a) [] [] rfl rfl ?_
 rintro v post ⟨rfl, rfl⟩
 refine G_val rfl rfl rfl rfl (V_move rfl rfl) ?_
 refine G_val rfl rfl rfl rfl (V_extract rfl rfl rfl) ?_
 refine G_val rfl rfl rfl rfl (V_extract rfl rfl rfl) ?_
 refine G_val rfl rfl rfl rfl (V_assign rfl rfl) ?_
 refine G_val rfl rfl rfl rfl (V_assign rfl rfl) ?_
 refine G_done ?_
 refine G_seq ?_
 refine G_block ?_
 refine G_seq ?_
 refine G_region (l := [0, 1, 2]) rfl ?_
 refine G_val rfl rfl rfl rfl (V_move rfl rfl) ?_
 refine G_val rfl rfl rfl rfl (V_neq rfl rfl rfl) ?_
 refine G_val rfl rfl rfl rfl (V_assign rfl rfl) ?_
 refine G_done ?_
 refine G_ifD rfl (fun hc1 => ?_) (fun hc1 => ?_)
 rotate_left
 · (first | (exact absurd rfl hc1) | (exact absurd hc1 (by decide)) | (exfalso; omega))
 refine G_seq ?_
 refine G_region (l := [0, 1, 2]) rfl ?_
 refine G_val rfl rfl rfl rfl (V_move rfl rfl) ?_
 refine G_val rfl rfl rfl rfl (V_assign rfl rfl) ?_
 refine G_val rfl rfl rfl rfl (V_assign rfl rfl) ?_
 refine G_done ?_
 refine G_ret (post := []) Tryd.func29 rfl (RVs_cons (RV_tmp rfl) (RVs_cons (RV_tmp rfl) RVs_nil)) [] rfl ?_
 dsimp only [packed]
 exact ⟨rfl, rfl⟩

set_option maxRecDepth 100000 in
set_option maxHeartbeats 1000000 in
theorem dk_size (d n lb lcap : Nat) (lcs : Array Value) (uw : Sl) (k : Dk) (h : DkAt k n lb lcs lcap uw) :
    Ct Tryd.prog 98 [.pointer (some ⟨d, 0, none⟩)] [(some d, .cells #[.slice (some ⟨lb, 0, none⟩) n lcap, uw.v k.W.length, .int .i64 k.fuse, .bool k.dead] 110 (0, 0))] [] fun v post => v = .int .i64 (n : Int) ∧ post = [] := by
 refine ct_of Tryd.func98 rfl rfl (fun w0 => ?_)
 show G _ _ [(0, _)] _ _
 refine G_seq ?_
 refine G_region (l := [0]) rfl ?_
 refine G_val rfl rfl rfl rfl (V_assign rfl rfl) ?_
 refine G_done ?_
 refine G_seq ?_
 refine G_seq ?_
 refine G_region (l := [0, 1]) rfl ?_
 refine G_val rfl rfl rfl rfl (V_move rfl rfl) ?_
 refine G_val rfl rfl rfl rfl (V_peqlN rfl Tryd.underlying35 rfl rfl) ?_
 refine G_done ?_
 refine G_else rfl ?_
 refine G_skip ?_
 refine G_seq ?_
 refine G_region (l := [0, 1, 2, 3, 4, 5]) rfl ?_
 refine G_val rfl rfl rfl rfl (V_move rfl rfl) ?_
 first
   | refine G_val rfl rfl rfl rfl (V_nilCheck rfl rfl) ?_
   | refine G_val rfl rfl rfl rfl (V_nilCheckF rfl rfl) ?_
 refine G_val rfl rfl rfl rfl (V_fieldAddr (fo := 0) rfl Tryd.underlying110 rfl infDiskW_24 rfl rfl rfl) ?_
 refine G_val rfl rfl rfl rfl (V_load1 rfl rfl (mem_at 0 rfl) rfl Tryd.underlying24 rfl) ?_
 refine G_val rfl rfl rfl rfl (V_len rfl rfl Tryd.underlying24 rfl) ?_
 refine G_val rfl rfl rfl rfl (V_assign rfl rfl) ?_
 refine G_done ?_
 refine G_ret (post := []) Tryd.func98 rfl (RVs_cons (RV_tmp rfl) RVs_nil) [] rfl ?_
 dsimp only [packed]
 exact ⟨rfl, rfl⟩

set_option maxRecDepth 100000 in
set_option maxHeartbeats 1000000 in
theorem dk_size_nil  :
    Ct Tryd.prog 98 [.pointer none] [] [] fun v post => v = .int .i64 0 ∧ post = [] := by
 refine ct_of Tryd.func98 rfl rfl (fun w0 => ?_)
 show G _ _ [(0, _)] _ _
 refine G_seq ?_
 refine G_region (l := [0]) rfl ?_
 refine G_val rfl rfl rfl rfl (V_assign rfl rfl) ?_
 refine G_done ?_
 refine G_seq ?_
 refine G_seq ?_
 refine G_region (l := [0, 1]) rfl ?_
 refine G_val rfl rfl rfl rfl (V_move rfl rfl) ?_
 refine G_val rfl rfl rfl rfl (V_peqlN rfl Tryd.underlying35 rfl rfl) ?_
 refine G_done ?_
 refine G_then rfl ?_
 refine G_seq ?_
 refine G_region (l := [0]) rfl ?_
 refine G_val rfl rfl rfl rfl (V_assign rfl rfl) ?_
 refine G_done ?_
 refine G_ret (post := []) Tryd.func98 rfl (RVs_cons (RV_tmp rfl) RVs_nil) [] rfl ?_
 dsimp only [packed]
 exact ⟨rfl, rfl⟩

set_option maxRecDepth 100000 in
set_option maxHeartbeats 1000000 in
theorem dk_waiting (d n lb lcap : Nat) (lcs : Array Value) (uw : Sl) (k : Dk) (h : DkAt k n lb lcs lcap uw) :
    Ct Tryd.prog 27 [.pointer (some ⟨d, 0, none⟩)] [(some d, .cells #[.slice (some ⟨lb, 0, none⟩) n lcap, uw.v k.W.length, .int .i64 k.fuse, .bool k.dead] 110 (0, 0))] [] fun v post => v = .int .i64 (k.W.length : Int) ∧ post = [] := by
 refine ct_of Tryd.func27 rfl rfl (fun w0 => ?_)
 show G _ _ [(0, _)] _ _
 refine G_seq ?_
 refine G_region (l := [0]) rfl ?_
 refine G_val rfl rfl rfl rfl (V_assign rfl rfl) ?_
 refine G_done ?_
 refine G_seq ?_
 refine G_seq ?_
 refine G_region (l := [0, 1]) rfl ?_
 refine G_val rfl rfl rfl rfl (V_move rfl rfl) ?_
 refine G_val rfl rfl rfl rfl (V_peqlN rfl Tryd.underlying35 rfl rfl) ?_
 refine G_done ?_
 refine G_else rfl ?_
 refine G_skip ?_
 refine G_seq ?_
 refine G_region (l := [0, 1, 2, 3, 4, 5]) rfl ?_
 refine G_val rfl rfl rfl rfl (V_move rfl rfl) ?_
 first
   | refine G_val rfl rfl rfl rfl (V_nilCheck rfl rfl) ?_
   | refine G_val rfl rfl rfl rfl (V_nilCheckF rfl rfl) ?_
 refine G_val rfl rfl rfl rfl (V_fieldAddr (fo := 1) rfl Tryd.underlying110 rfl infDiskW_108 rfl rfl rfl) ?_
 refine G_val rfl rfl rfl rfl (V_load1 rfl rfl (mem_at 0 rfl) rfl Tryd.underlying108 rfl) ?_
 refine G_val rfl rfl rfl rfl (V_len rfl rfl Tryd.underlying108 rfl) ?_
 refine G_val rfl rfl rfl rfl (V_assign rfl rfl) ?_
 refine G_done ?_
 refine G_ret (post := []) Tryd.func27 rfl (RVs_cons (RV_tmp rfl) RVs_nil) [] rfl ?_
 dsimp only [packed]
 exact ⟨rfl, rfl⟩

set_option maxRecDepth 100000 in
set_option maxHeartbeats 1000000 in
theorem dk_waiting_nil  :
    Ct Tryd.prog 27 [.pointer none] [] [] fun v post => v = .int .i64 0 ∧ post = [] := by
 refine ct_of Tryd.func27 rfl rfl (fun w0 => ?_)
 show G _ _ [(0, _)] _ _
 refine G_seq ?_
 refine G_region (l := [0]) rfl ?_
 refine G_val rfl rfl rfl rfl (V_assign rfl rfl) ?_
 refine G_done ?_
 refine G_seq ?_
 refine G_seq ?_
 refine G_region (l := [0, 1]) rfl ?_
 refine G_val rfl rfl rfl rfl (V_move rfl rfl) ?_
 refine G_val rfl rfl rfl rfl (V_peqlN rfl Tryd.underlying35 rfl rfl) ?_
 refine G_done ?_
 refine G_then rfl ?_
 refine G_seq ?_
 refine G_region (l := [0]) rfl ?_
 refine G_val rfl rfl rfl rfl (V_assign rfl rfl) ?_
 refine G_done ?_
 refine G_ret (post := []) Tryd.func27 rfl (RVs_cons (RV_tmp rfl) RVs_nil) [] rfl ?_
 dsimp only [packed]
 exact ⟨rfl, rfl⟩

set_option maxRecDepth 100000 in
set_option maxHeartbeats 1000000 in
theorem dk_fuse (d n lb lcap : Nat) (lcs : Array Value) (uw : Sl) (k : Dk) (h : DkAt k n lb lcs lcap uw) (z : Int) :
    Ct Tryd.prog 32 [.pointer (some ⟨d, 0, none⟩), .int .i64 z] [] [(some d, .cells #[.slice (some ⟨lb, 0, none⟩) n lcap, uw.v k.W.length, .int .i64 k.fuse, .bool k.dead] 110 (0, 0))] fun v post => v = .tuple #[] ∧ post = [(some d, .cells #[.slice (some ⟨lb, 0, none⟩) n lcap, uw.v (k.setFuse z).W.length, .int .i64 (k.setFuse z).fuse, .bool (k.setFuse z).dead] 110 (0, 0))] := by
 refine ct_of Tryd.func32 rfl rfl (fun w0 => ?_)
 show G _ _ [(0, _), (1, _)] _ _
 refine G_seq ?_
 cases hdd : k.dead
 · skip
   refine G_region (l := [0, 1, 2, 3, 4, 5, 6, 7, 8]) rfl ?_
   refine G_val rfl rfl rfl rfl (V_move rfl rfl) ?_
   refine G_val rfl rfl rfl rfl (V_pneqN rfl Tryd.underlying35 rfl rfl) ?_
   refine G_val rfl rfl rfl rfl (V_move rfl rfl) ?_
   refine G_val rfl rfl rfl rfl (V_move rfl rfl) ?_
   first
     | refine G_val rfl rfl rfl rfl (V_nilCheck rfl rfl) ?_
     | refine G_val rfl rfl rfl rfl (V_nilCheckF rfl rfl) ?_
   refine G_val rfl rfl rfl rfl (V_fieldAddr (fo := 3) rfl Tryd.underlying110 rfl infDiskW_4 rfl rfl rfl) ?_
   refine G_val rfl rfl rfl rfl (V_load1 rfl rfl (mem_at 0 rfl) rfl Tryd.underlying4 rfl) ?_
   refine G_val rfl rfl rfl rfl (V_not rfl rfl) ?_
   refine G_val rfl rfl rfl rfl (V_pickT rfl rfl rfl) ?_
   refine G_done ?_
   refine G_if rfl (fun hc1 => ?_) (fun hc1 => ?_)
   rotate_left
   · (first | (exact absurd rfl hc1) | (exact absurd hc1 (by decide)) | (exfalso; omega))
   refine G_region (l := [0, 1, 2, 3, 4, 5]) rfl ?_
   refine G_val rfl rfl rfl rfl (V_move rfl rfl) ?_
   refine G_val rfl rfl rfl rfl (V_move rfl rfl) ?_
   refine G_val rfl rfl rfl rfl (V_max rfl rfl rfl) ?_
   first
     | refine G_val rfl rfl rfl rfl (V_nilCheck rfl rfl) ?_
     | refine G_val rfl rfl rfl rfl (V_nilCheckF rfl rfl) ?_
   refine G_val rfl rfl rfl rfl (V_fieldAddr (fo := 2) rfl Tryd.underlying110 rfl infDiskW_3 rfl rfl rfl) ?_
   refine G_put (l1 := []) (L' := [_]) rfl rfl rfl rfl (P_store1 rfl rfl rfl (mem_at 0 rfl) (by first | exact of_decide_eq_true rfl | omega | (simp [wCells, kCells]; done) | (simp [wCells, kCells]; omega) | (simp [wCells, kCells] at *; omega)) infDiskW_3 rfl rfl) rfl ?_
   refine G_done ?_
   refine G_end (post := [_]) Tryd.func32 rfl RVs_nil [0] rfl ?_
   dsimp only [packed]
   refine ⟨rfl, ?_⟩; unfold Dk.setFuse; simp [hdd]
 · skip
   refine G_region (l := [0, 1, 2, 3, 4, 5, 6, 7, 8]) rfl ?_
   refine G_val rfl rfl rfl rfl (V_move rfl rfl) ?_
   refine G_val rfl rfl rfl rfl (V_pneqN rfl Tryd.underlying35 rfl rfl) ?_
   refine G_val rfl rfl rfl rfl (V_move rfl rfl) ?_
   refine G_val rfl rfl rfl rfl (V_move rfl rfl) ?_
   first
     | refine G_val rfl rfl rfl rfl (V_nilCheck rfl rfl) ?_
     | refine G_val rfl rfl rfl rfl (V_nilCheckF rfl rfl) ?_
   refine G_val rfl rfl rfl rfl (V_fieldAddr (fo := 3) rfl Tryd.underlying110 rfl infDiskW_4 rfl rfl rfl) ?_
   refine G_val rfl rfl rfl rfl (V_load1 rfl rfl (mem_at 0 rfl) rfl Tryd.underlying4 rfl) ?_
   refine G_val rfl rfl rfl rfl (V_not rfl rfl) ?_
   refine G_val rfl rfl rfl rfl (V_pickT rfl rfl rfl) ?_
   refine G_done ?_
   refine G_if rfl (fun hc1 => ?_) (fun hc1 => ?_)
   · (first | (exact absurd rfl hc1) | (exact absurd hc1 (by decide)) | (exfalso; omega))
   refine G_skip ?_
   refine G_end (post := [_]) Tryd.func32 rfl RVs_nil [0] rfl ?_
   dsimp only [packed]
   refine ⟨rfl, ?_⟩; unfold Dk.setFuse; simp [hdd]

set_option maxRecDepth 100000 in
set_option maxHeartbeats 1000000 in
theorem dk_fuse_nil (z : Int) :
    Ct Tryd.prog 32 [.pointer none, .int .i64 z] [] [] fun v post => v = .tuple #[] ∧ post = [] := by
 refine ct_of Tryd.func32 rfl rfl (fun w0 => ?_)
 show G _ _ [(0, _), (1, _)] _ _
 refine G_seq ?_
 refine G_region (l := [0, 1, 2, 3, 4, 5, 6, 7, 8]) rfl ?_
 refine G_val rfl rfl rfl rfl (V_move rfl rfl) ?_
 refine G_val rfl rfl rfl rfl (V_pneqN rfl Tryd.underlying35 rfl rfl) ?_
 refine G_val rfl rfl rfl rfl (V_move rfl rfl) ?_
 refine G_off rfl rfl rfl rfl ?_
 refine G_off rfl rfl rfl rfl ?_
 refine G_off rfl rfl rfl rfl ?_
 refine G_off rfl rfl rfl rfl ?_
 refine G_off rfl rfl rfl rfl ?_
 refine G_val rfl rfl rfl rfl (V_pickF rfl rfl rfl) ?_
 refine G_done ?_
 refine G_else rfl ?_
 refine G_skip ?_
 refine G_end (post := []) Tryd.func32 rfl RVs_nil [] rfl ?_
 dsimp only [packed]
 exact ⟨rfl, rfl⟩

end
end Go.Proofs.YtbblkgdejgoncaaDoor

/- The walks of layer 22, on: what writes to a disk. -/
set_option linter.unusedSimpArgs false
set_option linter.unusedVariables false
namespace Go.Proofs.YtbblkgdejgoncaaDoor
open Go Go.RowKit

section
theorem infDiskX_3 : Tryd.prog.info? 3 = some Tryd.t3 := by kernel_rfl
theorem infDiskX_9 : Tryd.prog.info? 9 = some Tryd.t9 := by kernel_rfl
theorem infDiskX_24 : Tryd.prog.info? 24 = some Tryd.t24 := by kernel_rfl
theorem infDiskX_108 : Tryd.prog.info? 108 = some Tryd.t108 := by kernel_rfl
theorem infDiskX_116 : Tryd.prog.info? 116 = some Tryd.t116 := by kernel_rfl
theorem plcDiskX_116 : placesOf Tryd.prog (Tryd.prog.fieldsOf 116) = some [(0, 1), (1, 1)] := by kernel_rfl


theorem own_fit {n cap : Nat} {ob : Option Nat} {cs : Array Value} {fz : Nat × Nat} {l : List (List UInt8)} (h : Own 1 ⟨ob, cs, fz, cap⟩ (l.map strC) n) : n ≤ cs.size ∧ l.length = n := by
  have h1 := h.size
  have h2 := h.le
  have h3 := h.len
  simp at h1 h2 h3
  exact ⟨by omega, h3⟩
theorem applyW_end {L : List (List UInt8)} {W : List (Int × List UInt8)} {i : Nat} (h : W.length ≤ i) : applyW L (W.take i) = applyW L W := by rw [List.take_of_length_le h]
theorem flushed_at {k : Dk} {n lb lcap : Nat} {lcs cs : Array Value} {uw : Sl} (h : DkAt k n lb lcs lcap uw) (hc : Own 1 ⟨some lb, cs, (0, 0), lcap⟩ ((applyW k.L k.W).map strC) n) : DkAt k.flushed n lb cs lcap slNil :=
  ⟨by show (applyW _ _).length = _; rw [applyW_len]; exact h.len, hc, own_nil 2, flushed_ok h.ok⟩
theorem keepsL_end {W : List (Int × List UInt8)} {L : List (List UInt8)} {ks : List (Int × Int)} {i : Nat} (h : ks.length ≤ i) : keepsL W L (ks.take i) = keepsL W L ks := by rw [List.take_of_length_le h]
theorem crash_at {k : Dk} {n lb lcap : Nat} {lcs cs : Array Value} {uw : Sl} {ks : List (Int × Int)} (h : DkAt k n lb lcs lcap uw) (hc : Own 1 ⟨some lb, cs, (0, 0), lcap⟩ ((keepsL k.W k.L ks).map strC) n) : DkAt (k.crash ks) n lb cs lcap slNil :=
  ⟨by show (keepsL _ _ _).length = _; rw [keepsL_len]; exact h.len, hc, own_nil 2, crash_ok h.ok ks⟩
theorem pushed_at {k : Dk} {n lb lcap : Nat} {lcs : Array Value} {uw u1 : Sl} {a : Int} {s : List UInt8} (h : DkAt k n lb lcs lcap uw) (hu : Own 2 u1 (k.W.flatMap wCells ++ wCells (a, s)) (k.W.length + 1)) (ha : 0 ≤ a ∧ a < (n : Int)) (hs : s.length = 64) : DkAt (k.pushed a s) n lb lcs lcap u1 :=
  ⟨h.len, h.l, by
    show Own 2 u1 ((k.W ++ [(a, s)]).flatMap wCells) (k.W ++ [(a, s)]).length
    rw [List.flatMap_append, List.length_append]
    simpa using hu, pushed_ok h.ok (by rw [h.len]; exact ha) hs⟩

set_option maxRecDepth 100000 in
set_option maxHeartbeats 1000000 in
theorem dk_flush (d n lb lcap : Nat) (lcs : Array Value) (uw : Sl) (k : Dk) (h : DkAt k n lb lcs lcap uw) :
    Ct Tryd.prog 74 [.pointer (some ⟨d, 0, none⟩)] [] [(some d, .cells #[.slice (some ⟨lb, 0, none⟩) n lcap, uw.v k.W.length, .int .i64 k.fuse, .bool k.dead] 110 (0, 0)), (some lb, .cells lcs 9 (0, 0)), (uw.ob, .cells uw.cs 116 uw.fz)] fun v post => v = .tuple #[] ∧ ∃ lcs1, DkAt k.flushed n lb lcs1 lcap slNil ∧ post = [(some d, .cells #[.slice (some ⟨lb, 0, none⟩) n lcap, slNil.v k.flushed.W.length, .int .i64 k.flushed.fuse, .bool k.flushed.dead] 110 (0, 0)), (some lb, .cells lcs1 9 (0, 0)), (slNil.ob, .cells slNil.cs 116 slNil.fz)] := by
 have hb := h.bd
 have hb1 := hb.n1
 have hb2 := hb.n4
 have hb3 := hb.ncs
 have hb4 := hb.ncap
 have hb5 := hb.cap
 have hb6 := hb.w
 have hb7 := hb.wc
 have hln := h.len
 refine ct_of Tryd.func74 rfl rfl (fun w0 => ?_)
 show G _ _ [(0, _)] _ _
 refine G_seq ?_
 refine G_seq ?_
 refine G_region (l := [0, 1, 2, 3, 4, 5]) rfl ?_
 refine G_val rfl rfl rfl rfl (V_move rfl rfl) ?_
 first
   | refine G_val rfl rfl rfl rfl (V_nilCheck rfl rfl) ?_
   | refine G_val rfl rfl rfl rfl (V_nilCheckF rfl rfl) ?_
 refine G_val rfl rfl rfl rfl (V_fieldAddr (fo := 1) rfl Tryd.underlying110 rfl infDiskX_108 rfl rfl rfl) ?_
 refine G_val rfl rfl rfl rfl (V_load1 rfl rfl (mem_at 0 rfl) rfl Tryd.underlying108 rfl) ?_
 refine G_val rfl rfl rfl rfl (V_len rfl rfl Tryd.underlying108 rfl) ?_
 refine G_val rfl rfl rfl rfl (V_move rfl rfl) ?_
 refine G_done ?_
 refine G_block ?_
 refine G_sub ?he1 [0, 0, 0] ?hl1 (G_loop (X := Nat × Array Value) (fun x => match x with | ⟨i, cs⟩ => i ≤ k.W.length ∧ Own 1 ⟨some lb, cs, (0, 0), lcap⟩ ((applyW k.L (k.W.take i)).map strC) n) (fun x => match x with | ⟨i, cs⟩ => k.W.length - i) (fun x => match x with | ⟨i, cs⟩ => [(0, .pointer (some ⟨d, 0, none⟩)), (7, uw.v k.W.length), (8, .int .i64 (k.W.length : Int)), (9, .int .i64 (i : Int))]) (fun x => match x with | ⟨i, cs⟩ => [(some d, .cells #[.slice (some ⟨lb, 0, none⟩) n lcap, uw.v k.W.length, .int .i64 k.fuse, .bool k.dead] 110 (0, 0)), (some lb, .cells cs 9 (0, 0)), (uw.ob, .cells uw.cs 116 uw.fz)]) ?round1 (0, lcs) ?h01)
 case he1 => exact (And.intro rfl (And.intro rfl (And.intro rfl (And.intro rfl trivial))))
 case hl1 => exact ⟨_, rfl⟩
 case h01 => exact ⟨Nat.zero_le _, h.l⟩
 case round1 =>
  intro x hJ ih
  try dsimp only at hJ ih
  obtain ⟨i, cs⟩ := x
  try dsimp only at hJ ih
  obtain ⟨hi, hux⟩ := hJ
  show G _ _ [(0, .pointer (some ⟨d, 0, none⟩)), (7, uw.v k.W.length), (8, .int .i64 (k.W.length : Int)), (9, .int .i64 (i : Int))] [(some d, .cells #[.slice (some ⟨lb, 0, none⟩) n lcap, uw.v k.W.length, .int .i64 k.fuse, .bool k.dead] 110 (0, 0)), (some lb, .cells cs 9 (0, 0)), (uw.ob, .cells uw.cs 116 uw.fz)] _
  refine G_seq ?_
  refine G_region (l := [0]) rfl ?_
  refine G_val rfl rfl rfl rfl (V_lss rfl rfl rfl) ?_
  refine G_done ?_
  refine G_seq ?_
  refine G_ifD rfl (fun hc1 => ?_) (fun hc1 => ?_)
  · skip
    refine G_skip ?_
    refine G_seq ?_
    refine G_block ?_
    refine G_seq ?_
    obtain ⟨x, hx⟩ := getI (show i < k.W.length by omega)
    obtain ⟨wo, wcs, wfz, wcap⟩ := uw
    obtain ⟨wb, rfl⟩ := h.w.isSome (by omega)
    obtain ⟨hxa, hxb⟩ := h.ok.wat x (List.mem_of_getElem? hx)
    obtain ⟨hcs, hcl⟩ := own_fit hux
    refine G_region (l := [0, 1, 2, 3]) rfl ?_
    first
      | refine G_val rfl rfl rfl rfl (V_indexAddrN (s := 2) rfl Tryd.underlying108 infDiskX_116 rfl rfl rfl rfl (by omega)) ?_
      | refine G_val rfl rfl rfl rfl (V_indexAddr (s := 2) rfl Tryd.underlying108 infDiskX_116 rfl rfl rfl (by omega) (by first | omega | (simp [wCells, kCells]; done) | (simp [wCells, kCells]; omega) | (simp [wCells, kCells] at *; omega))) ?_
    refine G_val rfl rfl rfl rfl (V_loadA (s := 2) (vs := (wCells x).toArray) rfl rfl (mem_at 2 rfl) Tryd.underlying116 rfl infDiskX_116 rfl (h.w.sees.elem w_len hx) (by first | rfl | (simp [bcells_length, wCells, kCells]; done) | (simp [bcells_length, wCells, kCells]; omega) | (simp [bcells_length, *, wCells, kCells]; done))) ?_
    refine G_new rfl rfl rfl rfl (N_allocA rfl infDiskX_116 rfl) (fun b3 => ?_)
    refine G_put (l1 := []) (L' := [_, _, _, _]) rfl rfl rfl rfl (P_storeA (s := 2) rfl rfl rfl (mem_at 0 rfl) (by first | rfl | (simp [bcells_length, wCells, kCells]; done) | (simp [bcells_length, wCells, kCells]; omega) | (simp [bcells_length, *, wCells, kCells]; done)) infDiskX_116 rfl (by first | rfl | (simp [bcells_length, wCells, kCells]; done) | (simp [bcells_length, wCells, kCells]; omega) | (simp [bcells_length, *, wCells, kCells]; done)) (by first | rfl | exact bcells_all _ | (simp [Value.oneCell', wCells, kCells]; done) | (simp [Value.oneCell', *, wCells, kCells]; done))) rfl ?_
    refine G_done ?_
    refine GH_start (Lq := [_, _]) (isq := [1, 0]) (m := 10) mixedK rfl rfl ?_
    refine GH_take 0 rfl rfl rfl rfl (by kernel_rfl) (by kernel_rfl) (by kernel_rfl) (fun _ _ => (V_move rfl rfl)) ?_
    first
      | refine GH_take 1 rfl rfl rfl rfl (by kernel_rfl) (by kernel_rfl) (by kernel_rfl) (fun _ _ => (V_nilCheck rfl rfl)) ?_
      | refine GH_take 1 rfl rfl rfl rfl (by kernel_rfl) (by kernel_rfl) (by kernel_rfl) (fun _ _ => (V_nilCheckF rfl rfl)) ?_
    refine GH_take 2 rfl rfl rfl rfl (by kernel_rfl) (by kernel_rfl) (by kernel_rfl) (fun _ _ => (V_fieldAddr (fo := 0) rfl Tryd.underlying110 rfl infDiskX_24 rfl rfl rfl)) ?_
    refine GH_take 3 rfl rfl rfl rfl (by kernel_rfl) (by kernel_rfl) (by kernel_rfl) (fun _ _ => (V_load1 rfl rfl (mem_at 0 rfl) rfl Tryd.underlying24 rfl)) ?_
    refine GH_take 4 rfl rfl rfl rfl (by kernel_rfl) (by kernel_rfl) (by kernel_rfl) (fun _ _ => (V_fieldAddr (fo := 0) rfl Tryd.underlying116 rfl infDiskX_3 rfl rfl rfl)) ?_
    refine GH_take 5 rfl rfl rfl rfl (by kernel_rfl) (by kernel_rfl) (by kernel_rfl) (fun _ _ => (V_load1 rfl rfl (mem_at 1 rfl) rfl Tryd.underlying3 rfl)) ?_
    refine GH_take 6 rfl rfl rfl rfl (by kernel_rfl) (by kernel_rfl) (by kernel_rfl) (fun _ _ => (V_fieldAddr (fo := 1) rfl Tryd.underlying116 rfl infDiskX_9 rfl rfl rfl)) ?_
    refine GH_take 7 rfl rfl rfl rfl (by kernel_rfl) (by kernel_rfl) (by kernel_rfl) (fun _ _ => (V_load1 rfl rfl (mem_at 1 rfl) rfl Tryd.underlying9 rfl)) ?_
    first
      | refine GH_take 8 rfl rfl rfl rfl (by kernel_rfl) (by kernel_rfl) (by kernel_rfl) (fun _ _ => (V_indexAddrN (s := 1) rfl Tryd.underlying24 infDiskX_9 rfl rfl rfl rfl (by omega))) ?_
      | refine GH_take 8 rfl rfl rfl rfl (by kernel_rfl) (by kernel_rfl) (by kernel_rfl) (fun _ _ => (V_indexAddr (s := 1) rfl Tryd.underlying24 infDiskX_9 rfl rfl rfl (by omega) (by first | omega | (simp [wCells, kCells]; done) | (simp [wCells, kCells]; omega) | (simp [wCells, kCells] at *; omega)))) ?_
    refine GH_all [9] (by kernel_rfl) (by decide) ?_
    refine (And.intro ?_ trivial)
    · skip
      refine GHop_put (l1 := [_, _]) (L' := [_, _, _, _]) rfl rfl rfl rfl (P_store1 rfl rfl rfl (mem_at 2 rfl) (by first | exact of_decide_eq_true rfl | omega | (simp [wCells, kCells]; done) | (simp [wCells, kCells]; omega) | (simp [wCells, kCells] at *; omega)) infDiskX_9 rfl rfl) rfl [1, 0] rfl ?_
      refine GH_done (by kernel_rfl) ?_
      refine G_inBlock ?_
      refine G_region (l := [0, 1]) rfl ?_
      first
        | refine G_val rfl rfl rfl rfl ((V_add rfl rfl rfl).int (wrap_i64 (by omega))) ?_
        | refine G_val rfl rfl rfl rfl (V_add rfl rfl rfl) ?_
      refine G_val rfl rfl rfl rfl (V_move rfl rfl) ?_
      refine G_done ?_
      refine G_sub ?_ [1, 1, 1] ?_ (ih (i + 1, cs.setIfInBounds (0 + x.1.toNat * 1) (.string (bs x.2))) ?_ ?_)
      · (refine (And.intro ?_ (And.intro ?_ (And.intro ?_ (And.intro ?_ trivial)))) <;> first | rfl | exact slot_int (by omega) | exact slot_int (by simp))
      · exact ⟨_, rfl⟩
      · exact ⟨by omega, by rw [applyW_next hx]; exact own_set hux x.1.toNat (by omega) x.2⟩
      · (first | omega | (dsimp only; omega))
  refine G_exit rfl ?_
  refine G_addNone (.cells #[] 116 (0, 0)) ?_
  refine G_region (l := [0, 1, 2, 3]) rfl ?_
  refine G_val rfl rfl rfl rfl (V_move rfl rfl) ?_
  first
    | refine G_val rfl rfl rfl rfl (V_nilCheck rfl rfl) ?_
    | refine G_val rfl rfl rfl rfl (V_nilCheckF rfl rfl) ?_
  refine G_val rfl rfl rfl rfl (V_fieldAddr (fo := 1) rfl Tryd.underlying110 rfl infDiskX_108 rfl rfl rfl) ?_
  refine G_put (l1 := [_]) (L' := [_, _, _, _]) rfl rfl rfl rfl (P_store1 rfl rfl rfl (mem_at 1 rfl) (by first | exact of_decide_eq_true rfl | omega | (simp [wCells, kCells]; done) | (simp [wCells, kCells]; omega) | (simp [wCells, kCells] at *; omega)) infDiskX_108 rfl rfl) rfl ?_
  refine G_done ?_
  refine G_end (post := [_, _, _]) Tryd.func74 rfl RVs_nil [1, 1, 0] rfl ?_
  dsimp only [packed]
  rw [applyW_end (by omega)] at hux; exact ⟨rfl, cs, flushed_at h hux, rfl⟩

set_option maxRecDepth 100000 in
set_option maxHeartbeats 1000000 in
theorem dk_step_flush (d n lb lcap : Nat) (lcs : Array Value) (uw : Sl) (k : Dk) (h : DkAt k n lb lcs lcap uw) :
    Ct Tryd.prog 64 [.func (.func 65) #[.pointer (some ⟨d, 0, none⟩)] #[], .func (.func 74) #[.pointer (some ⟨d, 0, none⟩)] #[]] [] [(some d, .cells #[.slice (some ⟨lb, 0, none⟩) n lcap, uw.v k.W.length, .int .i64 k.fuse, .bool k.dead] 110 (0, 0)), (some lb, .cells lcs 9 (0, 0)), (uw.ob, .cells uw.cs 116 uw.fz)] fun v post => v = .int .i64 (k.syncE) ∧ ∃ lcs1 uw1, DkAt (k.sync) n lb lcs1 lcap uw1 ∧ post = [(some d, .cells #[.slice (some ⟨lb, 0, none⟩) n lcap, uw1.v (k.sync).W.length, .int .i64 (k.sync).fuse, .bool (k.sync).dead] 110 (0, 0)), (some lb, .cells lcs1 9 (0, 0)), (uw1.ob, .cells uw1.cs 116 uw1.fz)] := by
 have hb := h.bd
 have hb1 := hb.n1
 have hb2 := hb.n4
 have hb3 := hb.ncs
 have hb4 := hb.ncap
 have hb5 := hb.cap
 have hb6 := hb.w
 have hb7 := hb.wc
 have hln := h.len
 refine ct_of Tryd.func64 rfl rfl (fun w0 => ?_)
 show G _ _ [(0, _), (1, _)] _ _
 refine G_seq ?_
 refine G_region (l := [0]) rfl ?_
 refine G_val rfl rfl rfl rfl (V_assign rfl rfl) ?_
 refine G_done ?_
 refine G_seq ?_
 refine G_seq ?_
 refine G_region (l := [0, 1]) rfl ?_
 refine G_val rfl rfl rfl rfl (V_move rfl rfl) ?_
 refine G_callB (L2 := [_, _]) rfl rfl rfl rfl rfl rfl Tryd.call65 rfl (dk_spent _ _ _ _ _ ⟨h.ok.f0, h.ok.f1⟩) [0] [] rfl rfl ?_
 rintro v post ⟨rfl, rfl⟩
 show G _ _ _ [_, _, _] _
 refine G_done ?_
 refine G_if rfl (fun hc1 => ?_) (fun hc1 => ?_)
 · skip
   refine G_seq ?_
   refine G_region (l := [0]) rfl ?_
   refine G_val rfl rfl rfl rfl (V_assign rfl rfl) ?_
   refine G_done ?_
   refine G_ret (post := [_, _, _]) Tryd.func64 rfl (RVs_cons (RV_tmp rfl) RVs_nil) [0, 0, 0] rfl ?_
   dsimp only [packed]
   first
     | (obtain ⟨e1, e2⟩ := sync_dead hc1; rw [e1, e2]; exact ⟨rfl, lcs, uw, spent_at h, rfl⟩)
     | (obtain ⟨e1, e2⟩ := sync_live hc1; rw [e1, e2]; exact ⟨rfl, lcs1, slNil, h1, rfl⟩)
 refine G_skip ?_
 refine G_seq ?_
 refine G_region (l := [0, 1]) rfl ?_
 refine G_val rfl rfl rfl rfl (V_move rfl rfl) ?_
 refine G_callB (L2 := []) rfl rfl rfl rfl rfl rfl Tryd.call74 rfl (dk_flush d n lb lcap lcs uw k.spent (spent_at h)) [0, 0, 0] [] rfl rfl ?_
 rintro v post ⟨rfl, lcs1, h1, rfl⟩
 show G _ _ _ [_, _, _] _
 refine G_done ?_
 refine G_seq ?_
 refine G_region (l := [0]) rfl ?_
 refine G_val rfl rfl rfl rfl (V_assign rfl rfl) ?_
 refine G_done ?_
 refine G_ret (post := [_, _, _]) Tryd.func64 rfl (RVs_cons (RV_tmp rfl) RVs_nil) [0, 0, 0] rfl ?_
 dsimp only [packed]
 first
   | (obtain ⟨e1, e2⟩ := sync_dead hc1; rw [e1, e2]; exact ⟨rfl, lcs, uw, spent_at h, rfl⟩)
   | (obtain ⟨e1, e2⟩ := sync_live hc1; rw [e1, e2]; exact ⟨rfl, lcs1, slNil, h1, rfl⟩)

set_option maxRecDepth 100000 in
set_option maxHeartbeats 1000000 in
theorem dk_sync (d n lb lcap : Nat) (lcs : Array Value) (uw : Sl) (k : Dk) (h : DkAt k n lb lcs lcap uw) :
    Ct Tryd.prog 31 [.pointer (some ⟨d, 0, none⟩)] [] [(some d, .cells #[.slice (some ⟨lb, 0, none⟩) n lcap, uw.v k.W.length, .int .i64 k.fuse, .bool k.dead] 110 (0, 0)), (some lb, .cells lcs 9 (0, 0)), (uw.ob, .cells uw.cs 116 uw.fz)] fun v post => v = .int .i64 (k.syncE) ∧ ∃ lcs1 uw1, DkAt (k.sync) n lb lcs1 lcap uw1 ∧ post = [(some d, .cells #[.slice (some ⟨lb, 0, none⟩) n lcap, uw1.v (k.sync).W.length, .int .i64 (k.sync).fuse, .bool (k.sync).dead] 110 (0, 0)), (some lb, .cells lcs1 9 (0, 0)), (uw1.ob, .cells uw1.cs 116 uw1.fz)] := by
 refine ct_of Tryd.func31 rfl rfl (fun w0 => ?_)
 show G _ _ [(0, _)] _ _
 refine G_seq ?_
 refine G_region (l := [0]) rfl ?_
 refine G_val rfl rfl rfl rfl (V_assign rfl rfl) ?_
 refine G_done ?_
 refine G_seq ?_
 refine G_seq ?_
 refine G_region (l := [0, 1]) rfl ?_
 refine G_val rfl rfl rfl rfl (V_move rfl rfl) ?_
 refine G_val rfl rfl rfl rfl (V_peqlN rfl Tryd.underlying35 rfl rfl) ?_
 refine G_done ?_
 refine G_else rfl ?_
 refine G_skip ?_
 refine G_seq ?_
 refine G_region (l := [0, 1, 2, 3, 4, 5]) rfl ?_
 refine G_val rfl rfl rfl rfl (V_move rfl rfl) ?_
 refine G_val rfl rfl rfl rfl (V_func rfl rfl rfl) ?_
 refine G_val rfl rfl rfl rfl (V_move rfl rfl) ?_
 refine G_val rfl rfl rfl rfl (V_func rfl rfl rfl) ?_
 refine G_call (L2 := []) rfl rfl rfl rfl rfl rfl Tryd.call64 (dk_step_flush d n lb lcap lcs uw k h) [0, 0, 0] [] rfl rfl ?_
 rintro v post ⟨rfl, lcs1, uw1, h1, rfl⟩
 show G _ _ _ [_, _, _] _
 refine G_val rfl rfl rfl rfl (V_assign rfl rfl) ?_
 refine G_done ?_
 refine G_ret (post := [_, _, _]) Tryd.func31 rfl (RVs_cons (RV_tmp rfl) RVs_nil) [0, 0, 0] rfl ?_
 dsimp only [packed]
 exact ⟨rfl, lcs1, uw1, h1, rfl⟩

set_option maxRecDepth 100000 in
set_option maxHeartbeats 1000000 in
theorem dk_sync_nil  :
    Ct Tryd.prog 31 [.pointer none] [] [] fun v post => v = .int .i64 19 ∧ post = [] := by
 refine ct_of Tryd.func31 rfl rfl (fun w0 => ?_)
 show G _ _ [(0, _)] _ _
 refine G_seq ?_
 refine G_region (l := [0]) rfl ?_
 refine G_val rfl rfl rfl rfl (V_assign rfl rfl) ?_
 refine G_done ?_
 refine G_seq ?_
 refine G_seq ?_
 refine G_region (l := [0, 1]) rfl ?_
 refine G_val rfl rfl rfl rfl (V_move rfl rfl) ?_
 refine G_val rfl rfl rfl rfl (V_peqlN rfl Tryd.underlying35 rfl rfl) ?_
 refine G_done ?_
 refine G_then rfl ?_
 refine G_seq ?_
 refine G_region (l := [0]) rfl ?_
 refine G_val rfl rfl rfl rfl (V_assign rfl rfl) ?_
 refine G_done ?_
 refine G_ret (post := []) Tryd.func31 rfl (RVs_cons (RV_tmp rfl) RVs_nil) [] rfl ?_
 dsimp only [packed]
 exact ⟨rfl, rfl⟩

set_option maxRecDepth 100000 in
set_option maxHeartbeats 1000000 in
theorem dk_write1 (d n lb lcap : Nat) (lcs : Array Value) (uw : Sl) (k : Dk) (h : DkAt k n lb lcs lcap uw) (b3 b4 b5 : Nat) (a : Int) (s : List UInt8) (hW : k.W.length ≤ 1000000) :
    Ct Tryd.prog 66 [.pointer (some ⟨b3, 0, none⟩), .pointer (some ⟨b4, 0, none⟩), .pointer (some ⟨b5, 0, none⟩)] [(some b3, .cells #[.pointer (some ⟨d, 0, none⟩)] 35 (0, 0)), (some b4, .cells #[.int .i64 a] 3 (0, 0)), (some b5, .cells #[.string (bs s)] 9 (0, 0))] [(some d, .cells #[.slice (some ⟨lb, 0, none⟩) n lcap, uw.v k.W.length, .int .i64 k.fuse, .bool k.dead] 110 (0, 0)), (uw.ob, .cells uw.cs 116 uw.fz)] fun v post => v = .tuple #[] ∧ ∃ u1, Own 2 u1 (k.W.flatMap wCells ++ wCells (a, s)) (k.W.length + 1) ∧ post = [(some d, .cells #[.slice (some ⟨lb, 0, none⟩) n lcap, u1.v (k.W.length + 1), .int .i64 k.fuse, .bool k.dead] 110 (0, 0)), (u1.ob, .cells u1.cs 116 u1.fz)] := by
 have hb := h.bd
 have hb1 := hb.n1
 have hb2 := hb.n4
 have hb3 := hb.ncs
 have hb4 := hb.ncap
 have hb5 := hb.cap
 have hb6 := hb.w
 have hb7 := hb.wc
 have hln := h.len
 refine ct_of Tryd.func66 rfl rfl (fun w0 => ?_)
 show G _ _ [(0, _), (1, _), (2, _)] _ _
 refine GH_start (Lq := []) (isq := []) (m := 13) mixedK rfl rfl ?_
 refine GH_take 0 rfl rfl rfl rfl (by kernel_rfl) (by kernel_rfl) (by kernel_rfl) (fun _ _ => (V_load1 rfl rfl (mem_at 0 rfl) rfl Tryd.underlying35 rfl)) ?_
 refine GH_take 1 rfl rfl rfl rfl (by kernel_rfl) (by kernel_rfl) (by kernel_rfl) (fun _ _ => (V_load1 rfl rfl (mem_at 0 rfl) rfl Tryd.underlying35 rfl)) ?_
 first
   | refine GH_take 2 rfl rfl rfl rfl (by kernel_rfl) (by kernel_rfl) (by kernel_rfl) (fun _ _ => (V_nilCheck rfl rfl)) ?_
   | refine GH_take 2 rfl rfl rfl rfl (by kernel_rfl) (by kernel_rfl) (by kernel_rfl) (fun _ _ => (V_nilCheckF rfl rfl)) ?_
 refine GH_take 3 rfl rfl rfl rfl (by kernel_rfl) (by kernel_rfl) (by kernel_rfl) (fun _ _ => (V_fieldAddr (fo := 1) rfl Tryd.underlying110 rfl infDiskX_108 rfl rfl rfl)) ?_
 refine GH_take 5 rfl rfl rfl rfl (by kernel_rfl) (by kernel_rfl) (by kernel_rfl) (fun _ _ => (V_load1 rfl rfl (mem_at 1 rfl) rfl Tryd.underlying3 rfl)) ?_
 refine GH_take 6 rfl rfl rfl rfl (by kernel_rfl) (by kernel_rfl) (by kernel_rfl) (fun _ _ => (V_load1 rfl rfl (mem_at 2 rfl) rfl Tryd.underlying9 rfl)) ?_
 refine GH_take 7 rfl rfl rfl rfl (by kernel_rfl) (by kernel_rfl) (by kernel_rfl) (fun _ _ => (V_buildS (cs := [_, _]) rfl Tryd.underlying116 infDiskX_116 rfl plcDiskX_116 rfl rfl rfl)) ?_
 refine GH_all [4, 8] (by kernel_rfl) (by decide) ?_
 refine (And.intro ?_ (And.intro ?_ trivial))
 · skip
   refine GHop_val rfl rfl rfl rfl (V_load1 rfl rfl (mem_at 3 rfl) rfl Tryd.underlying108 rfl) ?_
   refine GH_all [8] (by kernel_rfl) (by decide) ?_
   refine (And.intro ?_ trivial)
   · skip
     refine GHop_new rfl rfl rfl rfl (N_buildAll (s := 2) (cs := [_, _]) rfl Tryd.underlying108 infDiskX_116 rfl rfl rfl rfl rfl rfl rfl rfl rfl) [] (fun _ => ⟨_, rfl⟩) (fun b11 => ?_)
     refine GH_all [9] (by kernel_rfl) (by decide) ?_
     refine (And.intro ?_ trivial)
     · skip
       refine GHop_append (l1 := [_, _]) (s := uw) (nn := k.W.length) (m := 1) (news := wCells (a, s)) (bt := 24) rfl rfl rfl rfl Tryd.underlying108 Tryd.underlying108 (by first | exact .inl rfl | exact .inr ⟨_, rfl⟩) infDiskX_116 rfl rfl rfl rfl rfl rfl h.w rfl (src_mem (mem_at 3 rfl) rfl rfl (by simp [wCells, Value.oneCell'])) (by omega) (by omega) [] (fun _ => ⟨_, rfl⟩) ?_
       intro u1 hu1 _
       show GH _ _ _ _ _ _ _ [_, _, _] _
       first
         | refine GH_take 10 rfl rfl rfl rfl (by kernel_rfl) (by kernel_rfl) (by kernel_rfl) (fun _ _ => (V_nilCheck rfl rfl)) ?_
         | refine GH_take 10 rfl rfl rfl rfl (by kernel_rfl) (by kernel_rfl) (by kernel_rfl) (fun _ _ => (V_nilCheckF rfl rfl)) ?_
       refine GH_take 11 rfl rfl rfl rfl (by kernel_rfl) (by kernel_rfl) (by kernel_rfl) (fun _ _ => (V_fieldAddr (fo := 1) rfl Tryd.underlying110 rfl infDiskX_108 rfl rfl rfl)) ?_
       refine GH_all [12] (by kernel_rfl) (by decide) ?_
       refine (And.intro ?_ trivial)
       · skip
         refine GHop_put (l1 := [_]) (L' := [_, _, _]) rfl rfl rfl rfl (P_store1 rfl rfl rfl (mem_at 1 rfl) (by first | exact of_decide_eq_true rfl | omega | (simp [wCells, kCells]; done) | (simp [wCells, kCells]; omega) | (simp [wCells, kCells] at *; omega)) infDiskX_108 rfl rfl) rfl [] rfl ?_
         refine GH_done (by kernel_rfl) ?_
         refine G_end (post := [_, _]) Tryd.func66 rfl RVs_nil [1, 1] rfl ?_
         dsimp only [packed]
         exact ⟨rfl, u1, hu1, rfl⟩
 · skip
   refine GHop_new rfl rfl rfl rfl (N_buildAll (s := 2) (cs := [_, _]) rfl Tryd.underlying108 infDiskX_116 rfl rfl rfl rfl rfl rfl rfl rfl rfl) [] (fun _ => ⟨_, rfl⟩) (fun b11 => ?_)
   refine GH_all [4] (by kernel_rfl) (by decide) ?_
   refine (And.intro ?_ trivial)
   · skip
     refine GHop_val rfl rfl rfl rfl (V_load1 rfl rfl (mem_at 4 rfl) rfl Tryd.underlying108 rfl) ?_
     refine GH_all [9] (by kernel_rfl) (by decide) ?_
     refine (And.intro ?_ trivial)
     · skip
       refine GHop_append (l1 := [_, _]) (s := uw) (nn := k.W.length) (m := 1) (news := wCells (a, s)) (bt := 24) rfl rfl rfl rfl Tryd.underlying108 Tryd.underlying108 (by first | exact .inl rfl | exact .inr ⟨_, rfl⟩) infDiskX_116 rfl rfl rfl rfl rfl rfl h.w rfl (src_mem (mem_at 3 rfl) rfl rfl (by simp [wCells, Value.oneCell'])) (by omega) (by omega) [] (fun _ => ⟨_, rfl⟩) ?_
       intro u1 hu1 _
       show GH _ _ _ _ _ _ _ [_, _, _] _
       first
         | refine GH_take 10 rfl rfl rfl rfl (by kernel_rfl) (by kernel_rfl) (by kernel_rfl) (fun _ _ => (V_nilCheck rfl rfl)) ?_
         | refine GH_take 10 rfl rfl rfl rfl (by kernel_rfl) (by kernel_rfl) (by kernel_rfl) (fun _ _ => (V_nilCheckF rfl rfl)) ?_
       refine GH_take 11 rfl rfl rfl rfl (by kernel_rfl) (by kernel_rfl) (by kernel_rfl) (fun _ _ => (V_fieldAddr (fo := 1) rfl Tryd.underlying110 rfl infDiskX_108 rfl rfl rfl)) ?_
       refine GH_all [12] (by kernel_rfl) (by decide) ?_
       refine (And.intro ?_ trivial)
       · skip
         refine GHop_put (l1 := [_]) (L' := [_, _, _]) rfl rfl rfl rfl (P_store1 rfl rfl rfl (mem_at 1 rfl) (by first | exact of_decide_eq_true rfl | omega | (simp [wCells, kCells]; done) | (simp [wCells, kCells]; omega) | (simp [wCells, kCells] at *; omega)) infDiskX_108 rfl rfl) rfl [] rfl ?_
         refine GH_done (by kernel_rfl) ?_
         refine G_end (post := [_, _]) Tryd.func66 rfl RVs_nil [1, 1] rfl ?_
         dsimp only [packed]
         exact ⟨rfl, u1, hu1, rfl⟩

set_option maxRecDepth 100000 in
set_option maxHeartbeats 1000000 in
theorem dk_step_write (d n lb lcap : Nat) (lcs : Array Value) (uw : Sl) (k : Dk) (h : DkAt k n lb lcs lcap uw) (b3 b4 b5 : Nat) (a : Int) (s : List UInt8) (hW : k.W.length ≤ 1000000) (ha : hasE k.L.length a = 0) (hs : s.length = 64) :
    Ct Tryd.prog 64 [.func (.func 65) #[.pointer (some ⟨d, 0, none⟩)] #[], .func (.func 66) #[] #[.pointer (some ⟨b3, 0, none⟩), .pointer (some ⟨b4, 0, none⟩), .pointer (some ⟨b5, 0, none⟩)]] [(some b3, .cells #[.pointer (some ⟨d, 0, none⟩)] 35 (0, 0)), (some b4, .cells #[.int .i64 a] 3 (0, 0)), (some b5, .cells #[.string (bs s)] 9 (0, 0))] [(some d, .cells #[.slice (some ⟨lb, 0, none⟩) n lcap, uw.v k.W.length, .int .i64 k.fuse, .bool k.dead] 110 (0, 0)), (some lb, .cells lcs 9 (0, 0)), (uw.ob, .cells uw.cs 116 uw.fz)] fun v post => v = .int .i64 (k.writeE a s) ∧ ∃ lcs1 uw1, DkAt (k.write a s) n lb lcs1 lcap uw1 ∧ post = [(some d, .cells #[.slice (some ⟨lb, 0, none⟩) n lcap, uw1.v (k.write a s).W.length, .int .i64 (k.write a s).fuse, .bool (k.write a s).dead] 110 (0, 0)), (some lb, .cells lcs1 9 (0, 0)), (uw1.ob, .cells uw1.cs 116 uw1.fz)] := by
 have hb := h.bd
 have hb1 := hb.n1
 have hb2 := hb.n4
 have hb3 := hb.ncs
 have hb4 := hb.ncap
 have hb5 := hb.cap
 have hb6 := hb.w
 have hb7 := hb.wc
 have hln := h.len
 refine ct_of Tryd.func64 rfl rfl (fun w0 => ?_)
 show G _ _ [(0, _), (1, _)] _ _
 refine G_seq ?_
 refine G_region (l := [0]) rfl ?_
 refine G_val rfl rfl rfl rfl (V_assign rfl rfl) ?_
 refine G_done ?_
 refine G_seq ?_
 refine G_seq ?_
 refine G_region (l := [0, 1]) rfl ?_
 refine G_val rfl rfl rfl rfl (V_move rfl rfl) ?_
 refine G_callB (L2 := [_, _]) rfl rfl rfl rfl rfl rfl Tryd.call65 rfl (dk_spent _ _ _ _ _ ⟨h.ok.f0, h.ok.f1⟩) [0] [] rfl rfl ?_
 rintro v post ⟨rfl, rfl⟩
 show G _ _ _ [_, _, _] _
 refine G_done ?_
 refine G_if rfl (fun hc1 => ?_) (fun hc1 => ?_)
 · skip
   refine G_seq ?_
   refine G_region (l := [0]) rfl ?_
   refine G_val rfl rfl rfl rfl (V_assign rfl rfl) ?_
   refine G_done ?_
   refine G_ret (post := [_, _, _]) Tryd.func64 rfl (RVs_cons (RV_tmp rfl) RVs_nil) [0, 0, 0] rfl ?_
   dsimp only [packed]
   first
     | (obtain ⟨e1, e2⟩ := write_dead ha hs hc1; rw [e1, e2]; exact ⟨rfl, lcs, uw, spent_at h, rfl⟩)
     | (obtain ⟨e1, e2⟩ := write_live ha hs hc1
        have hr := hasE_ok.1 ha
        have e3 : (k.spent.pushed a s).W.length = k.W.length + 1 := by show (k.W ++ [(a, s)]).length = _; simp
        rw [e1, e2, e3]; exact ⟨rfl, lcs, u1, pushed_at (spent_at h) hu1 ⟨hr.1, by omega⟩ hs, rfl⟩)
 refine G_skip ?_
 refine G_seq ?_
 refine G_region (l := [0, 1]) rfl ?_
 refine G_val rfl rfl rfl rfl (V_move rfl rfl) ?_
 refine G_callB (L2 := [_]) rfl rfl rfl rfl rfl rfl Tryd.call66 rfl (dk_write1 d n lb lcap lcs uw k.spent (spent_at h) b3 b4 b5 a s hW) [0, 1] [0, 1, 2] rfl rfl ?_
 rintro v post ⟨rfl, u1, hu1, rfl⟩
 show G _ _ _ [_, _, _] _
 refine G_done ?_
 refine G_seq ?_
 refine G_region (l := [0]) rfl ?_
 refine G_val rfl rfl rfl rfl (V_assign rfl rfl) ?_
 refine G_done ?_
 refine G_ret (post := [_, _, _]) Tryd.func64 rfl (RVs_cons (RV_tmp rfl) RVs_nil) [0, 1, 0] rfl ?_
 dsimp only [packed]
 first
   | (obtain ⟨e1, e2⟩ := write_dead ha hs hc1; rw [e1, e2]; exact ⟨rfl, lcs, uw, spent_at h, rfl⟩)
   | (obtain ⟨e1, e2⟩ := write_live ha hs hc1
      have hr := hasE_ok.1 ha
      have e3 : (k.spent.pushed a s).W.length = k.W.length + 1 := by show (k.W ++ [(a, s)]).length = _; simp
      rw [e1, e2, e3]; exact ⟨rfl, lcs, u1, pushed_at (spent_at h) hu1 ⟨hr.1, by omega⟩ hs, rfl⟩)

set_option maxRecDepth 100000 in
set_option maxHeartbeats 1000000 in
theorem dk_write (d n lb lcap : Nat) (lcs : Array Value) (uw : Sl) (k : Dk) (h : DkAt k n lb lcs lcap uw) (a : Int) (s : List UInt8) (hW : k.W.length ≤ 1000000) :
    Ct Tryd.prog 20 [.pointer (some ⟨d, 0, none⟩), .int .i64 a, .string (bs s)] [] [(some d, .cells #[.slice (some ⟨lb, 0, none⟩) n lcap, uw.v k.W.length, .int .i64 k.fuse, .bool k.dead] 110 (0, 0)), (some lb, .cells lcs 9 (0, 0)), (uw.ob, .cells uw.cs 116 uw.fz)] fun v post => v = .int .i64 (k.writeE a s) ∧ ∃ lcs1 uw1, DkAt (k.write a s) n lb lcs1 lcap uw1 ∧ post = [(some d, .cells #[.slice (some ⟨lb, 0, none⟩) n lcap, uw1.v (k.write a s).W.length, .int .i64 (k.write a s).fuse, .bool (k.write a s).dead] 110 (0, 0)), (some lb, .cells lcs1 9 (0, 0)), (uw1.ob, .cells uw1.cs 116 uw1.fz)] := by
 have hb := h.bd
 have hb1 := hb.n1
 have hb2 := hb.n4
 have hb3 := hb.ncs
 have hb4 := hb.ncap
 have hb5 := hb.cap
 have hb6 := hb.w
 have hb7 := hb.wc
 have hln := h.len
 refine ct_of Tryd.func20 rfl rfl (fun w0 => ?_)
 show G _ _ [(0, _), (1, _), (2, _)] _ _
 refine G_seq ?_
 refine G_region (l := [0, 1, 2, 3]) rfl ?_
 refine G_new rfl rfl rfl rfl (N_box1 rfl rfl rfl) (fun b3 => ?_)
 refine G_new rfl rfl rfl rfl (N_box1 rfl rfl rfl) (fun b4 => ?_)
 refine G_new rfl rfl rfl rfl (N_box1 rfl rfl rfl) (fun b5 => ?_)
 refine G_val rfl rfl rfl rfl (V_assign rfl rfl) ?_
 refine G_done ?_
 refine G_seq ?_
 refine G_seq ?_
 refine G_region (l := [0, 1, 2, 3]) rfl ?_
 refine G_val rfl rfl rfl rfl (V_load1 rfl rfl (mem_at 2 rfl) rfl Tryd.underlying35 rfl) ?_
 refine G_val rfl rfl rfl rfl (V_load1 rfl rfl (mem_at 1 rfl) rfl Tryd.underlying3 rfl) ?_
 refine G_call (L2 := [_, _, _, _, _, _]) rfl rfl rfl rfl rfl rfl Tryd.call63 (dk_has _ _ _ _ _ _ _ h _) [] [3] rfl rfl ?_
 rintro v post ⟨rfl, rfl⟩
 show G _ _ _ [_, _, _, _, _, _] _
 refine G_val rfl rfl rfl rfl (V_assign rfl rfl) ?_
 refine G_done ?_
 refine G_seq ?_
 refine G_region (l := [0, 1]) rfl ?_
 refine G_val rfl rfl rfl rfl (V_move rfl rfl) ?_
 refine G_val rfl rfl rfl rfl (V_neq rfl rfl rfl) ?_
 refine G_done ?_
 refine G_ifD rfl (fun hc1 => ?_) (fun hc1 => ?_)
 · skip
   refine G_seq ?_
   refine G_region (l := [0, 1]) rfl ?_
   refine G_val rfl rfl rfl rfl (V_move rfl rfl) ?_
   refine G_val rfl rfl rfl rfl (V_assign rfl rfl) ?_
   refine G_done ?_
   refine G_ret (post := [_, _, _]) Tryd.func20 rfl (RVs_cons (RV_tmp rfl) RVs_nil) [3, 3, 3] rfl ?_
   dsimp only [packed]
   first
     | exact ⟨rfl, lcs1, uw1, h1, rfl⟩
     | (obtain ⟨e1, e2⟩ := write_no1 (s := s) (by assumption : ¬ hasE k.L.length a = 0); rw [e1, e2]; exact ⟨rfl, lcs, uw, h, rfl⟩)
     | (obtain ⟨e1, e2⟩ := write_no2 (Classical.not_not.1 hc1) hc2; rw [e1, e2]; exact ⟨rfl, lcs, uw, h, rfl⟩)
 refine G_skip ?_
 refine G_seq ?_
 refine G_seq ?_
 refine G_region (l := [0, 1, 2]) rfl ?_
 refine G_val rfl rfl rfl rfl (V_load1 rfl rfl (mem_at 0 rfl) rfl Tryd.underlying9 rfl) ?_
 refine G_val rfl rfl rfl rfl (V_slen rfl rfl Tryd.underlying9 rfl) ?_
 refine G_val rfl rfl rfl rfl (V_neq rfl rfl rfl) ?_
 refine G_done ?_
 refine G_ifD rfl (fun hc2 => ?_) (fun hc2 => ?_)
 · skip
   refine G_seq ?_
   refine G_region (l := [0]) rfl ?_
   refine G_val rfl rfl rfl rfl (V_assign rfl rfl) ?_
   refine G_done ?_
   refine G_ret (post := [_, _, _]) Tryd.func20 rfl (RVs_cons (RV_tmp rfl) RVs_nil) [3, 3, 3] rfl ?_
   dsimp only [packed]
   first
     | exact ⟨rfl, lcs1, uw1, h1, rfl⟩
     | (obtain ⟨e1, e2⟩ := write_no1 (s := s) (by assumption : ¬ hasE k.L.length a = 0); rw [e1, e2]; exact ⟨rfl, lcs, uw, h, rfl⟩)
     | (obtain ⟨e1, e2⟩ := write_no2 (Classical.not_not.1 hc1) hc2; rw [e1, e2]; exact ⟨rfl, lcs, uw, h, rfl⟩)
 refine G_skip ?_
 refine G_seq ?_
 refine G_region (l := [0, 1, 2, 3, 4]) rfl ?_
 refine G_val rfl rfl rfl rfl (V_load1 rfl rfl (mem_at 2 rfl) rfl Tryd.underlying35 rfl) ?_
 refine G_val rfl rfl rfl rfl (V_func rfl rfl rfl) ?_
 refine G_val rfl rfl rfl rfl (V_func rfl rfl rfl) ?_
 refine G_call (L2 := [_, _, _]) rfl rfl rfl rfl rfl rfl Tryd.call64 (dk_step_write d n lb lcap lcs uw k h b3 b4 b5 a s hW (Classical.not_not.1 hc1) (by omega)) [3, 3, 3] [2, 1, 0] rfl rfl ?_
 rintro v post ⟨rfl, lcs1, uw1, h1, rfl⟩
 show G _ _ _ [_, _, _, _, _, _] _
 refine G_val rfl rfl rfl rfl (V_assign rfl rfl) ?_
 refine G_done ?_
 refine G_ret (post := [_, _, _]) Tryd.func20 rfl (RVs_cons (RV_tmp rfl) RVs_nil) [0, 0, 0] rfl ?_
 dsimp only [packed]
 first
   | exact ⟨rfl, lcs1, uw1, h1, rfl⟩
   | (obtain ⟨e1, e2⟩ := write_no1 (s := s) (by assumption : ¬ hasE k.L.length a = 0); rw [e1, e2]; exact ⟨rfl, lcs, uw, h, rfl⟩)
   | (obtain ⟨e1, e2⟩ := write_no2 (Classical.not_not.1 hc1) hc2; rw [e1, e2]; exact ⟨rfl, lcs, uw, h, rfl⟩)

set_option maxRecDepth 100000 in
set_option maxHeartbeats 1000000 in
theorem dk_write_nil (a : Int) (s : List UInt8) :
    Ct Tryd.prog 20 [.pointer none, .int .i64 a, .string (bs s)] [] [] fun v post => v = .int .i64 19 ∧ post = [] := by
 refine ct_of Tryd.func20 rfl rfl (fun w0 => ?_)
 show G _ _ [(0, _), (1, _), (2, _)] _ _
 refine G_seq ?_
 refine G_region (l := [0, 1, 2, 3]) rfl ?_
 refine G_new rfl rfl rfl rfl (N_box1 rfl rfl rfl) (fun b3 => ?_)
 refine G_new rfl rfl rfl rfl (N_box1 rfl rfl rfl) (fun b4 => ?_)
 refine G_new rfl rfl rfl rfl (N_box1 rfl rfl rfl) (fun b5 => ?_)
 refine G_val rfl rfl rfl rfl (V_assign rfl rfl) ?_
 refine G_done ?_
 refine G_seq ?_
 refine G_seq ?_
 refine G_region (l := [0, 1, 2, 3]) rfl ?_
 refine G_val rfl rfl rfl rfl (V_load1 rfl rfl (mem_at 2 rfl) rfl Tryd.underlying35 rfl) ?_
 refine G_val rfl rfl rfl rfl (V_load1 rfl rfl (mem_at 1 rfl) rfl Tryd.underlying3 rfl) ?_
 refine G_call (L2 := [_, _, _]) rfl rfl rfl rfl rfl rfl Tryd.call63 (dk_has_nil a) [] [] rfl rfl ?_
 rintro v post ⟨rfl, rfl⟩
 show G _ _ _ [_, _, _] _
 refine G_val rfl rfl rfl rfl (V_assign rfl rfl) ?_
 refine G_done ?_
 refine G_seq ?_
 refine G_region (l := [0, 1]) rfl ?_
 refine G_val rfl rfl rfl rfl (V_move rfl rfl) ?_
 refine G_val rfl rfl rfl rfl (V_neq rfl rfl rfl) ?_
 refine G_done ?_
 refine G_ifD rfl (fun hc1 => ?_) (fun hc1 => ?_)
 rotate_left
 · (first | (exact absurd rfl hc1) | (exact absurd hc1 (by decide)) | (exfalso; omega))
 refine G_seq ?_
 refine G_region (l := [0, 1]) rfl ?_
 refine G_val rfl rfl rfl rfl (V_move rfl rfl) ?_
 refine G_val rfl rfl rfl rfl (V_assign rfl rfl) ?_
 refine G_done ?_
 refine G_ret (post := []) Tryd.func20 rfl (RVs_cons (RV_tmp rfl) RVs_nil) [] rfl ?_
 dsimp only [packed]
 exact ⟨rfl, rfl⟩

end
end Go.Proofs.YtbblkgdejgoncaaDoor

/- The walks of layer 22, on: a crash, a new disk. -/
set_option linter.unusedSimpArgs false
set_option linter.unusedVariables false
namespace Go.Proofs.YtbblkgdejgoncaaDoor
open Go Go.RowKit

section
theorem infDiskY_3 : Tryd.prog.info? 3 = some Tryd.t3 := by kernel_rfl
theorem infDiskY_4 : Tryd.prog.info? 4 = some Tryd.t4 := by kernel_rfl
theorem infDiskY_9 : Tryd.prog.info? 9 = some Tryd.t9 := by kernel_rfl
theorem infDiskY_24 : Tryd.prog.info? 24 = some Tryd.t24 := by kernel_rfl
theorem infDiskY_108 : Tryd.prog.info? 108 = some Tryd.t108 := by kernel_rfl
theorem infDiskY_110 : Tryd.prog.info? 110 = some Tryd.t110 := by kernel_rfl
theorem infDiskY_116 : Tryd.prog.info? 116 = some Tryd.t116 := by kernel_rfl
theorem infDiskY_132 : Tryd.prog.info? 132 = some Tryd.t132 := by kernel_rfl
theorem plcDiskY_110 : placesOf Tryd.prog (Tryd.prog.fieldsOf 110) = some [(0, 1), (1, 1), (2, 1), (3, 1)] := by kernel_rfl

set_option maxRecDepth 100000 in
set_option maxHeartbeats 1000000 in
theorem dk_crash (d n lb lcap : Nat) (lcs : Array Value) (uw : Sl) (k : Dk) (h : DkAt k n lb lcs lcap uw) (o1 : Option Nat) (p1 q1 : Nat) (c1 : Array Value) (T1 : TypeId) (f1 : Nat × Nat) (ks : List (Int × Int)) (hs : Sees 2 o1 p1 q1 c1 (ks.flatMap kCells) ks.length) :
    Ct Tryd.prog 33 [.pointer (some ⟨d, 0, none⟩), sv o1 p1 ks.length q1] [(o1, .cells c1 T1 f1)] [(some d, .cells #[.slice (some ⟨lb, 0, none⟩) n lcap, uw.v k.W.length, .int .i64 k.fuse, .bool k.dead] 110 (0, 0)), (some lb, .cells lcs 9 (0, 0)), (uw.ob, .cells uw.cs 116 uw.fz)] fun v post => v = .int .i64 0 ∧ ∃ lcs1, DkAt (k.crash ks) n lb lcs1 lcap slNil ∧ post = [(some d, .cells #[.slice (some ⟨lb, 0, none⟩) n lcap, slNil.v (k.crash ks).W.length, .int .i64 (k.crash ks).fuse, .bool (k.crash ks).dead] 110 (0, 0)), (some lb, .cells lcs1 9 (0, 0)), (slNil.ob, .cells slNil.cs 116 slNil.fz)] := by
 have hb := h.bd
 have hb1 := hb.n1
 have hb2 := hb.n4
 have hb3 := hb.ncs
 have hb4 := hb.ncap
 have hb5 := hb.cap
 have hb6 := hb.w
 have hb7 := hb.wc
 have hln := h.len
 have hk1 := hs.le
 have hk2 := hs.max
 refine ct_of Tryd.func33 rfl rfl (fun w0 => ?_)
 show G _ _ [(0, _), (1, _)] _ _
 refine G_seq ?_
 refine G_region (l := [0]) rfl ?_
 refine G_val rfl rfl rfl rfl (V_assign rfl rfl) ?_
 refine G_done ?_
 refine G_seq ?_
 refine G_seq ?_
 refine G_region (l := [0, 1]) rfl ?_
 refine G_val rfl rfl rfl rfl (V_move rfl rfl) ?_
 refine G_val rfl rfl rfl rfl (V_peqlN rfl Tryd.underlying35 rfl rfl) ?_
 refine G_done ?_
 refine G_else rfl ?_
 refine G_skip ?_
 refine G_seq ?_
 refine G_seq ?_
 refine G_region (l := [0, 1, 2]) rfl ?_
 refine G_val rfl rfl rfl rfl (V_move rfl rfl) ?_
 refine G_val rfl rfl rfl rfl (V_len rfl rfl Tryd.underlying59 rfl) ?_
 refine G_val rfl rfl rfl rfl (V_move rfl rfl) ?_
 refine G_done ?_
 refine G_block ?_
 refine G_sub ?he4 [0, 0, 0] ?hl4 (G_loop (X := Nat × Array Value) (fun x => match x with | ⟨i, cs⟩ => i ≤ ks.length ∧ Own 1 ⟨some lb, cs, (0, 0), lcap⟩ ((keepsL k.W k.L (ks.take i)).map strC) n) (fun x => match x with | ⟨i, cs⟩ => ks.length - i) (fun x => match x with | ⟨i, cs⟩ => [(0, .pointer (some ⟨d, 0, none⟩)), (11, sv o1 p1 ks.length q1), (12, .int .i64 (ks.length : Int)), (13, .int .i64 (i : Int))]) (fun x => match x with | ⟨i, cs⟩ => [(some d, .cells #[.slice (some ⟨lb, 0, none⟩) n lcap, uw.v k.W.length, .int .i64 k.fuse, .bool k.dead] 110 (0, 0)), (some lb, .cells cs 9 (0, 0)), (uw.ob, .cells uw.cs 116 uw.fz)]) ?round4 (0, lcs) ?h04)
 case he4 => exact (And.intro rfl (And.intro rfl (And.intro rfl (And.intro rfl trivial))))
 case hl4 => exact ⟨_, rfl⟩
 case h04 => exact ⟨Nat.zero_le _, h.l⟩
 case round4 =>
  intro x hJ ih
  try dsimp only at hJ ih
  obtain ⟨i, cs⟩ := x
  try dsimp only at hJ ih
  obtain ⟨hi, hux⟩ := hJ
  show G _ _ [(0, .pointer (some ⟨d, 0, none⟩)), (11, sv o1 p1 ks.length q1), (12, .int .i64 (ks.length : Int)), (13, .int .i64 (i : Int))] [(some d, .cells #[.slice (some ⟨lb, 0, none⟩) n lcap, uw.v k.W.length, .int .i64 k.fuse, .bool k.dead] 110 (0, 0)), (some lb, .cells cs 9 (0, 0)), (uw.ob, .cells uw.cs 116 uw.fz)] _
  refine G_seq ?_
  refine G_region (l := [0]) rfl ?_
  refine G_val rfl rfl rfl rfl (V_lss rfl rfl rfl) ?_
  refine G_done ?_
  refine G_seq ?_
  refine G_ifD rfl (fun hc1 => ?_) (fun hc1 => ?_)
  · skip
    refine G_skip ?_
    refine G_seq ?_
    refine G_block ?_
    refine G_seq ?_
    obtain ⟨x, hx⟩ := getI (show i < ks.length by omega)
    obtain ⟨b1, rfl⟩ := hs.isSome (by omega)
    obtain ⟨hcs, hcl⟩ := own_fit hux
    refine G_region (l := [0, 1, 2, 3]) rfl ?_
    first
      | refine G_val rfl rfl rfl rfl (V_indexAddrN (s := 2) rfl Tryd.underlying59 infDiskY_132 rfl rfl rfl rfl (by omega)) ?_
      | refine G_val rfl rfl rfl rfl (V_indexAddr (s := 2) rfl Tryd.underlying59 infDiskY_132 rfl rfl rfl (by omega) (by first | omega | (simp [wCells, kCells]; done) | (simp [wCells, kCells]; omega) | (simp [wCells, kCells] at *; omega))) ?_
    refine G_val rfl rfl rfl rfl (V_loadA (s := 2) (vs := (kCells x).toArray) rfl rfl (mem_at 0 rfl) Tryd.underlying132 rfl infDiskY_132 rfl (hs.elem k_len hx) (by first | rfl | (simp [bcells_length, wCells, kCells]; done) | (simp [bcells_length, wCells, kCells]; omega) | (simp [bcells_length, *, wCells, kCells]; done))) ?_
    refine G_new rfl rfl rfl rfl (N_allocA rfl infDiskY_132 rfl) (fun b6 => ?_)
    refine G_put (l1 := []) (L' := [_, _, _, _]) rfl rfl rfl rfl (P_storeA (s := 2) rfl rfl rfl (mem_at 0 rfl) (by first | rfl | (simp [bcells_length, wCells, kCells]; done) | (simp [bcells_length, wCells, kCells]; omega) | (simp [bcells_length, *, wCells, kCells]; done)) infDiskY_132 rfl (by first | rfl | (simp [bcells_length, wCells, kCells]; done) | (simp [bcells_length, wCells, kCells]; omega) | (simp [bcells_length, *, wCells, kCells]; done)) (by first | rfl | exact bcells_all _ | (simp [Value.oneCell', wCells, kCells]; done) | (simp [Value.oneCell', *, wCells, kCells]; done))) rfl ?_
    refine G_done ?_
    refine G_seq ?_
    refine G_seq ?_
    refine GH_start (Lq := [_, _]) (isq := [0, 0]) (m := 13) mixedK rfl rfl ?_
    refine GH_take 0 rfl rfl rfl rfl (by kernel_rfl) (by kernel_rfl) (by kernel_rfl) (fun _ _ => (V_fieldAddr (fo := 0) rfl Tryd.underlying132 rfl infDiskY_3 rfl rfl rfl)) ?_
    refine GH_take 1 rfl rfl rfl rfl (by kernel_rfl) (by kernel_rfl) (by kernel_rfl) (fun _ _ => (V_load1 rfl rfl (mem_at 1 rfl) rfl Tryd.underlying3 rfl)) ?_
    refine GH_take 2 rfl rfl rfl rfl (by kernel_rfl) (by kernel_rfl) (by kernel_rfl) (fun _ _ => (V_lss rfl rfl rfl)) ?_
    refine GH_take 3 rfl rfl rfl rfl (by kernel_rfl) (by kernel_rfl) (by kernel_rfl) (fun _ _ => (V_move rfl rfl)) ?_
    refine GH_splitD 20 rfl (fun hc2 => ?_) (fun hc2 => ?_)
    · skip
      refine GH_takeOff 4 rfl rfl rfl rfl (by kernel_rfl) (by kernel_rfl) (by kernel_rfl) ?_
      refine GH_takeOff 5 rfl rfl rfl rfl (by kernel_rfl) (by kernel_rfl) (by kernel_rfl) ?_
      refine GH_takeOff 6 rfl rfl rfl rfl (by kernel_rfl) (by kernel_rfl) (by kernel_rfl) ?_
      refine GH_takeOff 7 rfl rfl rfl rfl (by kernel_rfl) (by kernel_rfl) (by kernel_rfl) ?_
      refine GH_takeOff 8 rfl rfl rfl rfl (by kernel_rfl) (by kernel_rfl) (by kernel_rfl) ?_
      refine GH_takeOff 9 rfl rfl rfl rfl (by kernel_rfl) (by kernel_rfl) (by kernel_rfl) ?_
      refine GH_takeOff 10 rfl rfl rfl rfl (by kernel_rfl) (by kernel_rfl) (by kernel_rfl) ?_
      refine GH_takeOff 11 rfl rfl rfl rfl (by kernel_rfl) (by kernel_rfl) (by kernel_rfl) ?_
      refine GH_take 12 rfl rfl rfl rfl (by kernel_rfl) (by kernel_rfl) (by kernel_rfl) (fun _ _ => (V_pickT rfl rfl rfl)) ?_
      refine GH_done (by kernel_rfl) ?_
      refine G_then rfl ?_
      refine G_exit rfl ?_
      refine G_region (l := [0, 1]) rfl ?_
      first
        | refine G_val rfl rfl rfl rfl ((V_add rfl rfl rfl).int (wrap_i64 (by omega))) ?_
        | refine G_val rfl rfl rfl rfl (V_add rfl rfl rfl) ?_
      refine G_val rfl rfl rfl rfl (V_move rfl rfl) ?_
      refine G_done ?_
      refine G_sub ?_ [1, 1, 1] ?_ (ih (i + 1, cs) ?_ ?_)
      · (refine (And.intro ?_ (And.intro ?_ (And.intro ?_ (And.intro ?_ trivial)))) <;> first | rfl | exact slot_int (by omega) | exact slot_int (by simp))
      · exact ⟨_, rfl⟩
      · (first | exact ⟨by omega, by rw [keepsL_next hx, keep1_no (by omega)]; exact hux⟩ | exact ⟨by omega, by rw [keepsL_next hx, keep1_yes (by omega) hy]; exact own_set hux y.1.toNat (by omega) _⟩)
      · (first | omega | (dsimp only; omega))
    refine GH_take 4 rfl rfl rfl rfl (by kernel_rfl) (by kernel_rfl) (by kernel_rfl) (fun _ _ => (V_fieldAddr (fo := 0) rfl Tryd.underlying132 rfl infDiskY_3 rfl rfl rfl)) ?_
    refine GH_take 5 rfl rfl rfl rfl (by kernel_rfl) (by kernel_rfl) (by kernel_rfl) (fun _ _ => (V_load1 rfl rfl (mem_at 1 rfl) rfl Tryd.underlying3 rfl)) ?_
    refine GH_take 6 rfl rfl rfl rfl (by kernel_rfl) (by kernel_rfl) (by kernel_rfl) (fun _ _ => (V_move rfl rfl)) ?_
    first
      | refine GH_take 7 rfl rfl rfl rfl (by kernel_rfl) (by kernel_rfl) (by kernel_rfl) (fun _ _ => (V_nilCheck rfl rfl)) ?_
      | refine GH_take 7 rfl rfl rfl rfl (by kernel_rfl) (by kernel_rfl) (by kernel_rfl) (fun _ _ => (V_nilCheckF rfl rfl)) ?_
    refine GH_take 8 rfl rfl rfl rfl (by kernel_rfl) (by kernel_rfl) (by kernel_rfl) (fun _ _ => (V_fieldAddr (fo := 1) rfl Tryd.underlying110 rfl infDiskY_108 rfl rfl rfl)) ?_
    refine GH_take 9 rfl rfl rfl rfl (by kernel_rfl) (by kernel_rfl) (by kernel_rfl) (fun _ _ => (V_load1 rfl rfl (mem_at 2 rfl) rfl Tryd.underlying108 rfl)) ?_
    refine GH_take 10 rfl rfl rfl rfl (by kernel_rfl) (by kernel_rfl) (by kernel_rfl) (fun _ _ => (V_len rfl rfl Tryd.underlying108 rfl)) ?_
    refine GH_take 11 rfl rfl rfl rfl (by kernel_rfl) (by kernel_rfl) (by kernel_rfl) (fun _ _ => (V_geq rfl rfl rfl)) ?_
    refine GH_take 12 rfl rfl rfl rfl (by kernel_rfl) (by kernel_rfl) (by kernel_rfl) (fun _ _ => (V_pickF rfl rfl rfl)) ?_
    refine GH_done (by kernel_rfl) ?_
    refine G_ifD rfl (fun hc3 => ?_) (fun hc3 => ?_)
    · skip
      refine G_exit rfl ?_
      refine G_region (l := [0, 1]) rfl ?_
      first
        | refine G_val rfl rfl rfl rfl ((V_add rfl rfl rfl).int (wrap_i64 (by omega))) ?_
        | refine G_val rfl rfl rfl rfl (V_add rfl rfl rfl) ?_
      refine G_val rfl rfl rfl rfl (V_move rfl rfl) ?_
      refine G_done ?_
      refine G_sub ?_ [1, 1, 1] ?_ (ih (i + 1, cs) ?_ ?_)
      · (refine (And.intro ?_ (And.intro ?_ (And.intro ?_ (And.intro ?_ trivial)))) <;> first | rfl | exact slot_int (by omega) | exact slot_int (by simp))
      · exact ⟨_, rfl⟩
      · (first | exact ⟨by omega, by rw [keepsL_next hx, keep1_no (by omega)]; exact hux⟩ | exact ⟨by omega, by rw [keepsL_next hx, keep1_yes (by omega) hy]; exact own_set hux y.1.toNat (by omega) _⟩)
      · (first | omega | (dsimp only; omega))
    refine G_skip ?_
    refine G_seq ?_
    obtain ⟨y, hy⟩ := getI (show x.1.toNat < k.W.length by omega)
    obtain ⟨wo, wcs, wfz, wcap⟩ := uw
    obtain ⟨wb, rfl⟩ := h.w.isSome (by omega)
    obtain ⟨hya, hyb⟩ := h.ok.wat y (List.mem_of_getElem? hy)
    have hyc := h.ok.w64 y (List.mem_of_getElem? hy)
    have h64 := getD64 (keepsL_64 h.ok.w64 (ks.take i) k.L h.ok.l64 h.ok.wat) (i := y.1.toNat) (by omega)
    refine GH_start (Lq := [_, _, _]) (isq := [0, 0, 1]) (m := 10) mixedK rfl rfl ?_
    refine GH_take 0 rfl rfl rfl rfl (by kernel_rfl) (by kernel_rfl) (by kernel_rfl) (fun _ _ => (V_move rfl rfl)) ?_
    first
      | refine GH_take 1 rfl rfl rfl rfl (by kernel_rfl) (by kernel_rfl) (by kernel_rfl) (fun _ _ => (V_nilCheck rfl rfl)) ?_
      | refine GH_take 1 rfl rfl rfl rfl (by kernel_rfl) (by kernel_rfl) (by kernel_rfl) (fun _ _ => (V_nilCheckF rfl rfl)) ?_
    refine GH_take 2 rfl rfl rfl rfl (by kernel_rfl) (by kernel_rfl) (by kernel_rfl) (fun _ _ => (V_fieldAddr (fo := 1) rfl Tryd.underlying110 rfl infDiskY_108 rfl rfl rfl)) ?_
    refine GH_take 3 rfl rfl rfl rfl (by kernel_rfl) (by kernel_rfl) (by kernel_rfl) (fun _ _ => (V_load1 rfl rfl (mem_at 2 rfl) rfl Tryd.underlying108 rfl)) ?_
    refine GH_take 4 rfl rfl rfl rfl (by kernel_rfl) (by kernel_rfl) (by kernel_rfl) (fun _ _ => (V_fieldAddr (fo := 0) rfl Tryd.underlying132 rfl infDiskY_3 rfl rfl rfl)) ?_
    refine GH_take 5 rfl rfl rfl rfl (by kernel_rfl) (by kernel_rfl) (by kernel_rfl) (fun _ _ => (V_load1 rfl rfl (mem_at 1 rfl) rfl Tryd.underlying3 rfl)) ?_
    first
      | refine GH_take 6 rfl rfl rfl rfl (by kernel_rfl) (by kernel_rfl) (by kernel_rfl) (fun _ _ => (V_indexAddrN (s := 2) rfl Tryd.underlying108 infDiskY_116 rfl rfl rfl rfl (by omega))) ?_
      | refine GH_take 6 rfl rfl rfl rfl (by kernel_rfl) (by kernel_rfl) (by kernel_rfl) (fun _ _ => (V_indexAddr (s := 2) rfl Tryd.underlying108 infDiskY_116 rfl rfl rfl (by omega) (by first | omega | (simp [wCells, kCells]; done) | (simp [wCells, kCells]; omega) | (simp [wCells, kCells] at *; omega)))) ?_
    refine GH_take 7 rfl rfl rfl rfl (by kernel_rfl) (by kernel_rfl) (by kernel_rfl) (fun _ _ => (V_loadA (s := 2) (vs := (wCells y).toArray) rfl rfl (mem_at 3 rfl) Tryd.underlying116 rfl infDiskY_116 rfl (h.w.sees.elem w_len hy) (by first | rfl | (simp [bcells_length, wCells, kCells]; done) | (simp [bcells_length, wCells, kCells]; omega) | (simp [bcells_length, *, wCells, kCells]; done)))) ?_
    refine GH_all [8] (by kernel_rfl) (by decide) ?_
    refine (And.intro ?_ trivial)
    · skip
      refine GHop_new rfl rfl rfl rfl (N_allocA rfl infDiskY_116 rfl) [1, 1, 2] (fun _ => ⟨_, rfl⟩) (fun b7 => ?_)
      refine GH_all [9] (by kernel_rfl) (by decide) ?_
      refine (And.intro ?_ trivial)
      · skip
        refine GHop_put (l1 := []) (L' := [_, _, _, _, _]) rfl rfl rfl rfl (P_storeA (s := 2) rfl rfl rfl (mem_at 0 rfl) (by first | rfl | (simp [bcells_length, wCells, kCells]; done) | (simp [bcells_length, wCells, kCells]; omega) | (simp [bcells_length, *, wCells, kCells]; done)) infDiskY_116 rfl (by first | rfl | (simp [bcells_length, wCells, kCells]; done) | (simp [bcells_length, wCells, kCells]; omega) | (simp [bcells_length, *, wCells, kCells]; done)) (by first | rfl | exact bcells_all _ | (simp [Value.oneCell', wCells, kCells]; done) | (simp [Value.oneCell', *, wCells, kCells]; done))) rfl [1, 1, 2] rfl ?_
        refine GH_done (by kernel_rfl) ?_
        refine G_seq ?_
        refine G_region (l := [0, 1, 2, 3, 4]) rfl ?_
        refine G_val rfl rfl rfl rfl (V_fieldAddr (fo := 1) rfl Tryd.underlying132 rfl infDiskY_3 rfl rfl rfl) ?_
        refine G_val rfl rfl rfl rfl (V_load1 rfl rfl (mem_at 2 rfl) rfl Tryd.underlying3 rfl) ?_
        refine G_val rfl rfl rfl rfl (V_max rfl rfl rfl) ?_
        refine G_val rfl rfl rfl rfl (V_min rfl rfl rfl) ?_
        refine G_val rfl rfl rfl rfl (V_assign rfl rfl) ?_
        refine G_done ?_
        refine GH_start (Lq := [_, _]) (isq := [2, 0]) (m := 23) mixedK rfl rfl ?_
        refine GH_take 0 rfl rfl rfl rfl (by kernel_rfl) (by kernel_rfl) (by kernel_rfl) (fun _ _ => (V_move rfl rfl)) ?_
        first
          | refine GH_take 1 rfl rfl rfl rfl (by kernel_rfl) (by kernel_rfl) (by kernel_rfl) (fun _ _ => (V_nilCheck rfl rfl)) ?_
          | refine GH_take 1 rfl rfl rfl rfl (by kernel_rfl) (by kernel_rfl) (by kernel_rfl) (fun _ _ => (V_nilCheckF rfl rfl)) ?_
        refine GH_take 2 rfl rfl rfl rfl (by kernel_rfl) (by kernel_rfl) (by kernel_rfl) (fun _ _ => (V_fieldAddr (fo := 0) rfl Tryd.underlying110 rfl infDiskY_24 rfl rfl rfl)) ?_
        refine GH_take 3 rfl rfl rfl rfl (by kernel_rfl) (by kernel_rfl) (by kernel_rfl) (fun _ _ => (V_load1 rfl rfl (mem_at 1 rfl) rfl Tryd.underlying24 rfl)) ?_
        refine GH_take 4 rfl rfl rfl rfl (by kernel_rfl) (by kernel_rfl) (by kernel_rfl) (fun _ _ => (V_fieldAddr (fo := 0) rfl Tryd.underlying116 rfl infDiskY_3 rfl rfl rfl)) ?_
        refine GH_take 5 rfl rfl rfl rfl (by kernel_rfl) (by kernel_rfl) (by kernel_rfl) (fun _ _ => (V_load1 rfl rfl (mem_at 2 rfl) rfl Tryd.underlying3 rfl)) ?_
        refine GH_take 6 rfl rfl rfl rfl (by kernel_rfl) (by kernel_rfl) (by kernel_rfl) (fun _ _ => (V_fieldAddr (fo := 1) rfl Tryd.underlying116 rfl infDiskY_9 rfl rfl rfl)) ?_
        refine GH_take 7 rfl rfl rfl rfl (by kernel_rfl) (by kernel_rfl) (by kernel_rfl) (fun _ _ => (V_load1 rfl rfl (mem_at 2 rfl) rfl Tryd.underlying9 rfl)) ?_
        refine GH_take 8 rfl rfl rfl rfl (by kernel_rfl) (by kernel_rfl) (by kernel_rfl) (fun _ _ => (V_move rfl rfl)) ?_
        first
          | refine GH_take 9 rfl rfl rfl rfl (by kernel_rfl) (by kernel_rfl) (by kernel_rfl) (fun _ _ => (V_ssliceHN (hi := _) rfl Tryd.underlying9 rfl rfl rfl (by first | omega | (simp [wCells, kCells]; done) | (simp [wCells, kCells]; omega) | (simp [wCells, kCells] at *; omega)))) ?_
          | refine GH_take 9 rfl rfl rfl rfl (by kernel_rfl) (by kernel_rfl) (by kernel_rfl) (fun _ _ => (V_ssliceH rfl Tryd.underlying9 rfl rfl (by first | omega | (simp [wCells, kCells]; done) | (simp [wCells, kCells]; omega) | (simp [wCells, kCells] at *; omega)) (by first | omega | (simp [wCells, kCells]; done) | (simp [wCells, kCells]; omega) | (simp [wCells, kCells] at *; omega)))) ?_
        refine GH_take 10 rfl rfl rfl rfl (by kernel_rfl) (by kernel_rfl) (by kernel_rfl) (fun _ _ => (V_move rfl rfl)) ?_
        first
          | refine GH_take 11 rfl rfl rfl rfl (by kernel_rfl) (by kernel_rfl) (by kernel_rfl) (fun _ _ => (V_nilCheck rfl rfl)) ?_
          | refine GH_take 11 rfl rfl rfl rfl (by kernel_rfl) (by kernel_rfl) (by kernel_rfl) (fun _ _ => (V_nilCheckF rfl rfl)) ?_
        refine GH_take 12 rfl rfl rfl rfl (by kernel_rfl) (by kernel_rfl) (by kernel_rfl) (fun _ _ => (V_fieldAddr (fo := 0) rfl Tryd.underlying110 rfl infDiskY_24 rfl rfl rfl)) ?_
        refine GH_take 13 rfl rfl rfl rfl (by kernel_rfl) (by kernel_rfl) (by kernel_rfl) (fun _ _ => (V_load1 rfl rfl (mem_at 1 rfl) rfl Tryd.underlying24 rfl)) ?_
        refine GH_take 14 rfl rfl rfl rfl (by kernel_rfl) (by kernel_rfl) (by kernel_rfl) (fun _ _ => (V_fieldAddr (fo := 0) rfl Tryd.underlying116 rfl infDiskY_3 rfl rfl rfl)) ?_
        refine GH_take 15 rfl rfl rfl rfl (by kernel_rfl) (by kernel_rfl) (by kernel_rfl) (fun _ _ => (V_load1 rfl rfl (mem_at 2 rfl) rfl Tryd.underlying3 rfl)) ?_
        first
          | refine GH_take 16 rfl rfl rfl rfl (by kernel_rfl) (by kernel_rfl) (by kernel_rfl) (fun _ _ => (V_indexAddrN (s := 1) rfl Tryd.underlying24 infDiskY_9 rfl rfl rfl rfl (by omega))) ?_
          | refine GH_take 16 rfl rfl rfl rfl (by kernel_rfl) (by kernel_rfl) (by kernel_rfl) (fun _ _ => (V_indexAddr (s := 1) rfl Tryd.underlying24 infDiskY_9 rfl rfl rfl (by omega) (by first | omega | (simp [wCells, kCells]; done) | (simp [wCells, kCells]; omega) | (simp [wCells, kCells] at *; omega)))) ?_
        refine GH_take 18 rfl rfl rfl rfl (by kernel_rfl) (by kernel_rfl) (by kernel_rfl) (fun _ _ => (V_move rfl rfl)) ?_
        refine GH_all [17] (by kernel_rfl) (by decide) ?_
        refine (And.intro ?_ trivial)
        · skip
          refine GHop_val rfl rfl rfl rfl (V_load1 rfl rfl (mem_at 4 rfl) (nth_of (own_str hux y.1.toNat (by omega))) Tryd.underlying9 rfl) ?_
          first
            | refine GH_take 19 rfl rfl rfl rfl (by kernel_rfl) (by kernel_rfl) (by kernel_rfl) (fun _ _ => (V_ssliceLN (lo := _) rfl Tryd.underlying9 rfl rfl rfl (by first | omega | (simp [wCells, kCells]; done) | (simp [wCells, kCells]; omega) | (simp [wCells, kCells] at *; omega)))) ?_
            | refine GH_take 19 rfl rfl rfl rfl (by kernel_rfl) (by kernel_rfl) (by kernel_rfl) (fun _ _ => (V_ssliceL rfl Tryd.underlying9 rfl rfl (by first | omega | (simp [wCells, kCells]; done) | (simp [wCells, kCells]; omega) | (simp [wCells, kCells] at *; omega)) (by first | omega | (simp [wCells, kCells]; done) | (simp [wCells, kCells]; omega) | (simp [wCells, kCells] at *; omega)))) ?_
          refine GH_take 20 rfl rfl rfl rfl (by kernel_rfl) (by kernel_rfl) (by kernel_rfl) (fun _ _ => (V_sadd rfl rfl rfl (by first | omega | (simp [wCells, kCells]; done) | (simp [wCells, kCells]; omega) | (simp [wCells, kCells] at *; omega)))) ?_
          first
            | refine GH_take 21 rfl rfl rfl rfl (by kernel_rfl) (by kernel_rfl) (by kernel_rfl) (fun _ _ => (V_indexAddrN (s := 1) rfl Tryd.underlying24 infDiskY_9 rfl rfl rfl rfl (by omega))) ?_
            | refine GH_take 21 rfl rfl rfl rfl (by kernel_rfl) (by kernel_rfl) (by kernel_rfl) (fun _ _ => (V_indexAddr (s := 1) rfl Tryd.underlying24 infDiskY_9 rfl rfl rfl (by omega) (by first | omega | (simp [wCells, kCells]; done) | (simp [wCells, kCells]; omega) | (simp [wCells, kCells] at *; omega)))) ?_
          refine GH_all [22] (by kernel_rfl) (by decide) ?_
          refine (And.intro ?_ trivial)
          · skip
            refine GHop_put (l1 := [_, _, _]) (L' := [_, _, _, _, _]) rfl rfl rfl rfl (P_store1 rfl rfl rfl (mem_at 3 rfl) (by first | exact of_decide_eq_true rfl | omega | (simp [wCells, kCells]; done) | (simp [wCells, kCells]; omega) | (simp [wCells, kCells] at *; omega)) infDiskY_9 rfl rfl) rfl [2, 0] rfl ?_
            refine GH_done (by kernel_rfl) ?_
            refine G_inBlock ?_
            refine G_region (l := [0, 1]) rfl ?_
            first
              | refine G_val rfl rfl rfl rfl ((V_add rfl rfl rfl).int (wrap_i64 (by omega))) ?_
              | refine G_val rfl rfl rfl rfl (V_add rfl rfl rfl) ?_
            refine G_val rfl rfl rfl rfl (V_move rfl rfl) ?_
            refine G_done ?_
            refine G_sub ?_ [2, 2, 2] ?_ (ih (i + 1, cs.setIfInBounds (0 + y.1.toNat * 1) (.string (bs (y.2.take (cut64 x.2) ++ ((keepsL k.W k.L (ks.take i)).getD y.1.toNat []).drop (cut64 x.2))))) ?_ ?_)
            · (refine (And.intro ?_ (And.intro ?_ (And.intro ?_ (And.intro ?_ trivial)))) <;> first | rfl | exact slot_int (by omega) | exact slot_int (by simp))
            · exact ⟨_, rfl⟩
            · (first | exact ⟨by omega, by rw [keepsL_next hx, keep1_no (by omega)]; exact hux⟩ | exact ⟨by omega, by rw [keepsL_next hx, keep1_yes (by omega) hy]; exact own_set hux y.1.toNat (by omega) _⟩)
            · (first | omega | (dsimp only; omega))
  refine G_exit rfl ?_
  refine G_seq ?_
  refine G_addNone (.cells #[] 116 (0, 0)) ?_
  refine G_region (l := [0, 1, 2, 3, 4, 5, 6, 7, 8, 9, 10, 11]) rfl ?_
  refine G_val rfl rfl rfl rfl (V_move rfl rfl) ?_
  refine G_val rfl rfl rfl rfl (V_move rfl rfl) ?_
  refine G_val rfl rfl rfl rfl (V_move rfl rfl) ?_
  first
    | refine G_val rfl rfl rfl rfl (V_nilCheck rfl rfl) ?_
    | refine G_val rfl rfl rfl rfl (V_nilCheckF rfl rfl) ?_
  refine G_val rfl rfl rfl rfl (V_fieldAddr (fo := 1) rfl Tryd.underlying110 rfl infDiskY_108 rfl rfl rfl) ?_
  refine G_put (l1 := [_]) (L' := [_, _, _, _]) rfl rfl rfl rfl (P_store1 rfl rfl rfl (mem_at 1 rfl) (by first | exact of_decide_eq_true rfl | omega | (simp [wCells, kCells]; done) | (simp [wCells, kCells]; omega) | (simp [wCells, kCells] at *; omega)) infDiskY_108 rfl rfl) rfl ?_
  first
    | refine G_val rfl rfl rfl rfl (V_nilCheck rfl rfl) ?_
    | refine G_val rfl rfl rfl rfl (V_nilCheckF rfl rfl) ?_
  refine G_val rfl rfl rfl rfl (V_fieldAddr (fo := 2) rfl Tryd.underlying110 rfl infDiskY_3 rfl rfl rfl) ?_
  refine G_put (l1 := [_]) (L' := [_, _, _, _]) rfl rfl rfl rfl (P_store1 rfl rfl rfl (mem_at 1 rfl) (by first | exact of_decide_eq_true rfl | omega | (simp [wCells, kCells]; done) | (simp [wCells, kCells]; omega) | (simp [wCells, kCells] at *; omega)) infDiskY_3 rfl rfl) rfl ?_
  first
    | refine G_val rfl rfl rfl rfl (V_nilCheck rfl rfl) ?_
    | refine G_val rfl rfl rfl rfl (V_nilCheckF rfl rfl) ?_
  refine G_val rfl rfl rfl rfl (V_fieldAddr (fo := 3) rfl Tryd.underlying110 rfl infDiskY_4 rfl rfl rfl) ?_
  refine G_put (l1 := [_]) (L' := [_, _, _, _]) rfl rfl rfl rfl (P_store1 rfl rfl rfl (mem_at 1 rfl) (by first | exact of_decide_eq_true rfl | omega | (simp [wCells, kCells]; done) | (simp [wCells, kCells]; omega) | (simp [wCells, kCells] at *; omega)) infDiskY_4 rfl rfl) rfl ?_
  refine G_done ?_
  refine G_seq ?_
  refine G_region (l := [0]) rfl ?_
  refine G_val rfl rfl rfl rfl (V_assign rfl rfl) ?_
  refine G_done ?_
  refine G_ret (post := [_, _, _]) Tryd.func33 rfl (RVs_cons (RV_tmp rfl) RVs_nil) [1, 1, 0] rfl ?_
  dsimp only [packed]
  rw [keepsL_end (by omega)] at hux; exact ⟨rfl, cs, crash_at h hux, rfl⟩

set_option maxRecDepth 100000 in
set_option maxHeartbeats 1000000 in
theorem dk_crash_nil (o1 : Option Nat) (p1 q1 : Nat) (c1 : Array Value) (T1 : TypeId) (f1 : Nat × Nat) (ks : List (Int × Int)) (hs : Sees 2 o1 p1 q1 c1 (ks.flatMap kCells) ks.length) :
    Ct Tryd.prog 33 [.pointer none, sv o1 p1 ks.length q1] [(o1, .cells c1 T1 f1)] [] fun v post => v = .int .i64 19 ∧ post = [] := by
 refine ct_of Tryd.func33 rfl rfl (fun w0 => ?_)
 show G _ _ [(0, _), (1, _)] _ _
 refine G_seq ?_
 refine G_region (l := [0]) rfl ?_
 refine G_val rfl rfl rfl rfl (V_assign rfl rfl) ?_
 refine G_done ?_
 refine G_seq ?_
 refine G_seq ?_
 refine G_region (l := [0, 1]) rfl ?_
 refine G_val rfl rfl rfl rfl (V_move rfl rfl) ?_
 refine G_val rfl rfl rfl rfl (V_peqlN rfl Tryd.underlying35 rfl rfl) ?_
 refine G_done ?_
 refine G_then rfl ?_
 refine G_seq ?_
 refine G_region (l := [0]) rfl ?_
 refine G_val rfl rfl rfl rfl (V_assign rfl rfl) ?_
 refine G_done ?_
 refine G_ret (post := []) Tryd.func33 rfl (RVs_cons (RV_tmp rfl) RVs_nil) [] rfl ?_
 dsimp only [packed]
 exact ⟨rfl, rfl⟩


def zs64 : List UInt8 := List.replicate 64 0
theorem newD_at {n lb lcap : Nat} {lcs : Array Value} (h1 : 1 ≤ n) (h2 : n ≤ 4096) (h : Own 1 ⟨some lb, lcs, (0, 0), lcap⟩ ((List.replicate n zs64).map strC) n) : DkAt (newD n) n lb lcs lcap slNil :=
  ⟨by simp [newD], h, own_nil 2, newD_ok n h1 h2⟩
theorem rep_next (i : Nat) : (List.replicate i zs64).map strC ++ [strC zs64] = (List.replicate (i + 1) zs64).map strC := by
  rw [show List.replicate (i + 1) zs64 = List.replicate i zs64 ++ [zs64] from List.replicate_succ', List.map_append]; rfl

set_option maxRecDepth 100000 in
set_option maxHeartbeats 1000000 in
theorem dk_new (n : Nat) (h1 : 1 ≤ n) (h2 : n ≤ 4096) :
    Ct Tryd.prog 17 [.int .i64 (n : Int)] [] [] fun v post => ∃ d lb lcap lcs, v = .tuple #[.pointer (some ⟨d, 0, none⟩), .int .i64 0] ∧ DkAt (newD n) n lb lcs lcap slNil ∧ post = [(some d, .cells #[.slice (some ⟨lb, 0, none⟩) n lcap, slNil.v (newD n).W.length, .int .i64 (newD n).fuse, .bool (newD n).dead] 110 (0, 0)), (some lb, .cells lcs 9 (0, 0)), (slNil.ob, .cells slNil.cs 116 slNil.fz)] := by
 refine ct_of Tryd.func17 rfl rfl (fun w0 => ?_)
 show G _ _ [(0, _)] _ _
 refine G_seq ?_
 refine G_region (l := [0, 1]) rfl ?_
 refine G_val rfl rfl rfl rfl (V_assign rfl rfl) ?_
 refine G_val rfl rfl rfl rfl (V_assign rfl rfl) ?_
 refine G_done ?_
 refine G_seq ?_
 refine G_seq ?_
 refine G_region (l := [0, 1, 2, 3, 4, 5]) rfl ?_
 refine G_val rfl rfl rfl rfl (V_move rfl rfl) ?_
 refine G_val rfl rfl rfl rfl (V_lss rfl rfl rfl) ?_
 refine G_val rfl rfl rfl rfl (V_move rfl rfl) ?_
 refine G_splitD 7 rfl (fun hc1 => ?_) (fun hc1 => ?_)
 · (first | (exact absurd rfl hc1) | (exact absurd hc1 (by decide)) | (exfalso; omega))
 refine G_val rfl rfl rfl rfl (V_move rfl rfl) ?_
 refine G_val rfl rfl rfl rfl (V_gtr rfl rfl rfl) ?_
 refine G_val rfl rfl rfl rfl (V_pickF rfl rfl rfl) ?_
 refine G_done ?_
 refine G_ifD rfl (fun hc2 => ?_) (fun hc2 => ?_)
 · (first | (exact absurd rfl hc2) | (exact absurd hc2 (by decide)) | (exfalso; omega))
 refine G_skip ?_
 refine G_seq ?_
 refine G_region (l := [0, 1, 2]) rfl ?_
 refine G_val rfl rfl rfl rfl (V_buildS (cs := [_, _, _, _]) rfl Tryd.underlying110 infDiskY_110 rfl plcDiskY_110 rfl rfl rfl) ?_
 refine G_new rfl rfl rfl rfl (N_boxA rfl rfl) (fun b12 => ?_)
 refine G_val rfl rfl rfl rfl (V_assign rfl rfl) ?_
 refine G_done ?_
 refine G_seq ?_
 refine G_seq ?_
 refine G_addNone (.cells #[] 9 (0, 0)) ?_
 refine G_region (l := [0, 1]) rfl ?_
 refine G_val rfl rfl rfl rfl (V_move rfl rfl) ?_
 refine G_val rfl rfl rfl rfl (V_move rfl rfl) ?_
 refine G_done ?_
 refine G_block ?_
 refine G_sub ?he5 [1, 0] ?hl5 (G_loop (X := Nat × Sl) (fun x => match x with | ⟨i, u⟩ => i ≤ n ∧ Own 1 u ((List.replicate i zs64).map strC) i ∧ u.fz = (0, 0)) (fun x => match x with | ⟨i, u⟩ => n - i) (fun x => match x with | ⟨i, u⟩ => [(4, .pointer (some ⟨b12, 0, none⟩)), (13, .int .i64 (n : Int)), (14, .int .i64 (i : Int))]) (fun x => match x with | ⟨i, u⟩ => [(some b12, .cells #[u.v i, .slice none 0 0, .int .i64 (-1), .bool false] 110 (0, 0)), (u.ob, .cells u.cs 9 u.fz)]) ?round5 (0, slNil) ?h05)
 case he5 => exact (And.intro rfl (And.intro rfl (And.intro rfl trivial)))
 case hl5 => exact ⟨_, rfl⟩
 case h05 => exact ⟨Nat.zero_le _, own_nil 1, rfl⟩
 case round5 =>
  intro x hJ ih
  try dsimp only at hJ ih
  obtain ⟨i, u⟩ := x
  try dsimp only at hJ ih
  obtain ⟨hi, hux, hfz⟩ := hJ
  show G _ _ [(4, .pointer (some ⟨b12, 0, none⟩)), (13, .int .i64 (n : Int)), (14, .int .i64 (i : Int))] [(some b12, .cells #[u.v i, .slice none 0 0, .int .i64 (-1), .bool false] 110 (0, 0)), (u.ob, .cells u.cs 9 u.fz)] _
  refine G_seq ?_
  refine G_region (l := [0]) rfl ?_
  refine G_val rfl rfl rfl rfl (V_lss rfl rfl rfl) ?_
  refine G_done ?_
  refine G_seq ?_
  refine G_ifD rfl (fun hc3 => ?_) (fun hc3 => ?_)
  · skip
    refine G_skip ?_
    refine G_seq ?_
    refine G_block ?_
    refine GH_start (Lq := []) (isq := []) (m := 11) mixedK rfl rfl ?_
    refine GH_take 0 rfl rfl rfl rfl (by kernel_rfl) (by kernel_rfl) (by kernel_rfl) (fun _ _ => (V_move rfl rfl)) ?_
    refine GH_take 1 rfl rfl rfl rfl (by kernel_rfl) (by kernel_rfl) (by kernel_rfl) (fun _ _ => (V_move rfl rfl)) ?_
    first
      | refine GH_take 2 rfl rfl rfl rfl (by kernel_rfl) (by kernel_rfl) (by kernel_rfl) (fun _ _ => (V_nilCheck rfl rfl)) ?_
      | refine GH_take 2 rfl rfl rfl rfl (by kernel_rfl) (by kernel_rfl) (by kernel_rfl) (fun _ _ => (V_nilCheckF rfl rfl)) ?_
    refine GH_take 3 rfl rfl rfl rfl (by kernel_rfl) (by kernel_rfl) (by kernel_rfl) (fun _ _ => (V_fieldAddr (fo := 0) rfl Tryd.underlying110 rfl infDiskY_24 rfl rfl rfl)) ?_
    refine GH_all [4, 5] (by kernel_rfl) (by decide) ?_
    refine (And.intro ?_ (And.intro ?_ trivial))
    · skip
      refine GHop_val rfl rfl rfl rfl (V_load1 rfl rfl (mem_at 0 rfl) rfl Tryd.underlying24 rfl) ?_
      refine GH_all [5] (by kernel_rfl) (by decide) ?_
      refine (And.intro ?_ trivial)
      · skip
        refine GHop_call (L2 := [_, _]) rfl rfl rfl rfl rfl rfl Tryd.call61 (repeat0 64 (by omega) (by omega)) [] [] rfl rfl [] (by rintro v post ⟨rfl, rfl⟩; exact ⟨_, rfl⟩) ?_
        rintro v post ⟨rfl, rfl⟩
        show GH _ _ _ _ _ _ _ [_, _] _
        refine GH_all [6] (by kernel_rfl) (by decide) ?_
        refine (And.intro ?_ trivial)
        · skip
          refine GHop_new rfl rfl rfl rfl (N_buildAll (s := 1) (cs := [_]) rfl Tryd.underlying24 infDiskY_9 rfl rfl rfl rfl rfl rfl rfl rfl rfl) [] (fun _ => ⟨_, rfl⟩) (fun b22 => ?_)
          refine GH_all [7] (by kernel_rfl) (by decide) ?_
          refine (And.intro ?_ trivial)
          · skip
            refine GHop_append (l1 := [_, _]) (s := u) (nn := i) (m := 1) (news := [strC zs64]) (bt := 16) rfl rfl rfl rfl Tryd.underlying24 Tryd.underlying24 (by first | exact .inl rfl | exact .inr ⟨_, rfl⟩) infDiskY_9 rfl rfl rfl rfl rfl rfl hux rfl (src_mem (mem_at 0 rfl) rfl rfl (by simp [strC, Value.oneCell'])) (by omega) (by omega) [] (fun _ => ⟨_, rfl⟩) ?_
            intro u1 hu1 hq1
            show GH _ _ _ _ _ _ _ [_, _, _] _
            first
              | refine GH_take 8 rfl rfl rfl rfl (by kernel_rfl) (by kernel_rfl) (by kernel_rfl) (fun _ _ => (V_nilCheck rfl rfl)) ?_
              | refine GH_take 8 rfl rfl rfl rfl (by kernel_rfl) (by kernel_rfl) (by kernel_rfl) (fun _ _ => (V_nilCheckF rfl rfl)) ?_
            refine GH_take 9 rfl rfl rfl rfl (by kernel_rfl) (by kernel_rfl) (by kernel_rfl) (fun _ _ => (V_fieldAddr (fo := 0) rfl Tryd.underlying110 rfl infDiskY_24 rfl rfl rfl)) ?_
            refine GH_all [10] (by kernel_rfl) (by decide) ?_
            refine (And.intro ?_ trivial)
            · skip
              refine GHop_put (l1 := [_]) (L' := [_, _, _]) rfl rfl rfl rfl (P_store1 rfl rfl rfl (mem_at 1 rfl) (by first | exact of_decide_eq_true rfl | omega | (simp [wCells, kCells]; done) | (simp [wCells, kCells]; omega) | (simp [wCells, kCells] at *; omega)) infDiskY_24 rfl rfl) rfl [] rfl ?_
              refine GH_done (by kernel_rfl) ?_
              refine G_inBlock ?_
              refine G_region (l := [0, 1]) rfl ?_
              first
                | refine G_val rfl rfl rfl rfl ((V_add rfl rfl rfl).int (wrap_i64 (by omega))) ?_
                | refine G_val rfl rfl rfl rfl (V_add rfl rfl rfl) ?_
              refine G_val rfl rfl rfl rfl (V_move rfl rfl) ?_
              refine G_done ?_
              refine G_sub ?_ [1, 1] ?_ (ih (i + 1, u1) ?_ ?_)
              · (refine (And.intro ?_ (And.intro ?_ (And.intro ?_ trivial))) <;> first | rfl | exact slot_int (by omega) | exact slot_int (by simp))
              · exact ⟨_, rfl⟩
              · exact ⟨by omega, by rw [← rep_next]; exact hu1, hq1.fz hfz⟩
              · (first | omega | (dsimp only; omega))
    · skip
      refine GHop_call (L2 := [_, _]) rfl rfl rfl rfl rfl rfl Tryd.call61 (repeat0 64 (by omega) (by omega)) [] [] rfl rfl [] (by rintro v post ⟨rfl, rfl⟩; exact ⟨_, rfl⟩) ?_
      rintro v post ⟨rfl, rfl⟩
      show GH _ _ _ _ _ _ _ [_, _] _
      refine GH_all [4, 6] (by kernel_rfl) (by decide) ?_
      refine (And.intro ?_ (And.intro ?_ trivial))
      · skip
        refine GHop_val rfl rfl rfl rfl (V_load1 rfl rfl (mem_at 0 rfl) rfl Tryd.underlying24 rfl) ?_
        refine GH_all [6] (by kernel_rfl) (by decide) ?_
        refine (And.intro ?_ trivial)
        · skip
          refine GHop_new rfl rfl rfl rfl (N_buildAll (s := 1) (cs := [_]) rfl Tryd.underlying24 infDiskY_9 rfl rfl rfl rfl rfl rfl rfl rfl rfl) [] (fun _ => ⟨_, rfl⟩) (fun b22 => ?_)
          refine GH_all [7] (by kernel_rfl) (by decide) ?_
          refine (And.intro ?_ trivial)
          · skip
            refine GHop_append (l1 := [_, _]) (s := u) (nn := i) (m := 1) (news := [strC zs64]) (bt := 16) rfl rfl rfl rfl Tryd.underlying24 Tryd.underlying24 (by first | exact .inl rfl | exact .inr ⟨_, rfl⟩) infDiskY_9 rfl rfl rfl rfl rfl rfl hux rfl (src_mem (mem_at 0 rfl) rfl rfl (by simp [strC, Value.oneCell'])) (by omega) (by omega) [] (fun _ => ⟨_, rfl⟩) ?_
            intro u1 hu1 hq1
            show GH _ _ _ _ _ _ _ [_, _, _] _
            first
              | refine GH_take 8 rfl rfl rfl rfl (by kernel_rfl) (by kernel_rfl) (by kernel_rfl) (fun _ _ => (V_nilCheck rfl rfl)) ?_
              | refine GH_take 8 rfl rfl rfl rfl (by kernel_rfl) (by kernel_rfl) (by kernel_rfl) (fun _ _ => (V_nilCheckF rfl rfl)) ?_
            refine GH_take 9 rfl rfl rfl rfl (by kernel_rfl) (by kernel_rfl) (by kernel_rfl) (fun _ _ => (V_fieldAddr (fo := 0) rfl Tryd.underlying110 rfl infDiskY_24 rfl rfl rfl)) ?_
            refine GH_all [10] (by kernel_rfl) (by decide) ?_
            refine (And.intro ?_ trivial)
            · skip
              refine GHop_put (l1 := [_]) (L' := [_, _, _]) rfl rfl rfl rfl (P_store1 rfl rfl rfl (mem_at 1 rfl) (by first | exact of_decide_eq_true rfl | omega | (simp [wCells, kCells]; done) | (simp [wCells, kCells]; omega) | (simp [wCells, kCells] at *; omega)) infDiskY_24 rfl rfl) rfl [] rfl ?_
              refine GH_done (by kernel_rfl) ?_
              refine G_inBlock ?_
              refine G_region (l := [0, 1]) rfl ?_
              first
                | refine G_val rfl rfl rfl rfl ((V_add rfl rfl rfl).int (wrap_i64 (by omega))) ?_
                | refine G_val rfl rfl rfl rfl (V_add rfl rfl rfl) ?_
              refine G_val rfl rfl rfl rfl (V_move rfl rfl) ?_
              refine G_done ?_
              refine G_sub ?_ [1, 1] ?_ (ih (i + 1, u1) ?_ ?_)
              · (refine (And.intro ?_ (And.intro ?_ (And.intro ?_ trivial))) <;> first | rfl | exact slot_int (by omega) | exact slot_int (by simp))
              · exact ⟨_, rfl⟩
              · exact ⟨by omega, by rw [← rep_next]; exact hu1, hq1.fz hfz⟩
              · (first | omega | (dsimp only; omega))
      · skip
        refine GHop_new rfl rfl rfl rfl (N_buildAll (s := 1) (cs := [_]) rfl Tryd.underlying24 infDiskY_9 rfl rfl rfl rfl rfl rfl rfl rfl rfl) [] (fun _ => ⟨_, rfl⟩) (fun b22 => ?_)
        refine GH_all [4] (by kernel_rfl) (by decide) ?_
        refine (And.intro ?_ trivial)
        · skip
          refine GHop_val rfl rfl rfl rfl (V_load1 rfl rfl (mem_at 1 rfl) rfl Tryd.underlying24 rfl) ?_
          refine GH_all [7] (by kernel_rfl) (by decide) ?_
          refine (And.intro ?_ trivial)
          · skip
            refine GHop_append (l1 := [_, _]) (s := u) (nn := i) (m := 1) (news := [strC zs64]) (bt := 16) rfl rfl rfl rfl Tryd.underlying24 Tryd.underlying24 (by first | exact .inl rfl | exact .inr ⟨_, rfl⟩) infDiskY_9 rfl rfl rfl rfl rfl rfl hux rfl (src_mem (mem_at 0 rfl) rfl rfl (by simp [strC, Value.oneCell'])) (by omega) (by omega) [] (fun _ => ⟨_, rfl⟩) ?_
            intro u1 hu1 hq1
            show GH _ _ _ _ _ _ _ [_, _, _] _
            first
              | refine GH_take 8 rfl rfl rfl rfl (by kernel_rfl) (by kernel_rfl) (by kernel_rfl) (fun _ _ => (V_nilCheck rfl rfl)) ?_
              | refine GH_take 8 rfl rfl rfl rfl (by kernel_rfl) (by kernel_rfl) (by kernel_rfl) (fun _ _ => (V_nilCheckF rfl rfl)) ?_
            refine GH_take 9 rfl rfl rfl rfl (by kernel_rfl) (by kernel_rfl) (by kernel_rfl) (fun _ _ => (V_fieldAddr (fo := 0) rfl Tryd.underlying110 rfl infDiskY_24 rfl rfl rfl)) ?_
            refine GH_all [10] (by kernel_rfl) (by decide) ?_
            refine (And.intro ?_ trivial)
            · skip
              refine GHop_put (l1 := [_]) (L' := [_, _, _]) rfl rfl rfl rfl (P_store1 rfl rfl rfl (mem_at 1 rfl) (by first | exact of_decide_eq_true rfl | omega | (simp [wCells, kCells]; done) | (simp [wCells, kCells]; omega) | (simp [wCells, kCells] at *; omega)) infDiskY_24 rfl rfl) rfl [] rfl ?_
              refine GH_done (by kernel_rfl) ?_
              refine G_inBlock ?_
              refine G_region (l := [0, 1]) rfl ?_
              first
                | refine G_val rfl rfl rfl rfl ((V_add rfl rfl rfl).int (wrap_i64 (by omega))) ?_
                | refine G_val rfl rfl rfl rfl (V_add rfl rfl rfl) ?_
              refine G_val rfl rfl rfl rfl (V_move rfl rfl) ?_
              refine G_done ?_
              refine G_sub ?_ [1, 1] ?_ (ih (i + 1, u1) ?_ ?_)
              · (refine (And.intro ?_ (And.intro ?_ (And.intro ?_ trivial))) <;> first | rfl | exact slot_int (by omega) | exact slot_int (by simp))
              · exact ⟨_, rfl⟩
              · exact ⟨by omega, by rw [← rep_next]; exact hu1, hq1.fz hfz⟩
              · (first | omega | (dsimp only; omega))
  refine G_exit rfl ?_
  refine G_seq ?_
  obtain rfl : i = n := by omega
  obtain ⟨uo, ucs, ufz, ucap⟩ := u
  simp only at hfz
  subst hfz
  obtain ⟨lb, rfl⟩ := hux.isSome (by omega)
  refine G_addNone (.cells #[] 116 (0, 0)) ?_
  refine G_region (l := [0, 1, 2]) rfl ?_
  refine G_val rfl rfl rfl rfl (V_move rfl rfl) ?_
  refine G_val rfl rfl rfl rfl (V_assign rfl rfl) ?_
  refine G_val rfl rfl rfl rfl (V_assign rfl rfl) ?_
  refine G_done ?_
  refine G_ret (post := [_, _, _]) Tryd.func17 rfl (RVs_cons (RV_tmp rfl) (RVs_cons (RV_tmp rfl) RVs_nil)) [1, 1, 0] rfl ?_
  dsimp only [packed]
  exact ⟨b12, lb, ucap, ucs, rfl, newD_at h1 h2 hux, rfl⟩

end
end Go.Proofs.YtbblkgdejgoncaaDoor

/- Chains told back: plain facts on unchain and chain. No program in sight. -/
namespace Go.Proofs.YtbblkgdejgoncaaDoor
open Go Go.RowKit

theorem pow128_le (i : Nat) (h : i ≤ 9) : (128 : Nat) ^ i ≤ 128 ^ 9 := Nat.pow_le_pow_right (by omega) h

/-- What unch can answer. -/
def UnchOk (i : Nat) (l : List UInt8) (r : Nat × Nat × Nat) : Prop :=
  U64 r.1 ∧ ((r.2.2 = 0 ∧ i + 1 ≤ r.2.1 ∧ r.2.1 ≤ 10 ∧ r.2.1 ≤ i + l.length) ∨ (r.2.2 = 2 ∧ r.1 = 0 ∧ r.2.1 = 0) ∨ (r.2.2 = 3 ∧ r.1 = 0 ∧ r.2.1 = 0))

theorem unch_ok (l : List UInt8) : ∀ (i v : Nat), i ≤ 10 → (i ≤ 9 → v < 128 ^ i) → UnchOk i l (unch i v l) := by
  induction l with
  | nil =>
    intro i v hi _
    rw [unch]
    split
    · exact ⟨by unfold U64; omega, .inr (.inr ⟨rfl, rfl, rfl⟩)⟩
    · exact ⟨by unfold U64; omega, .inr (.inl ⟨rfl, rfl, rfl⟩)⟩
  | cons c r ih =>
    intro i v hi hv
    by_cases h10 : 10 ≤ i
    · obtain rfl : i = 10 := by omega
      rw [unch_ten]
      exact ⟨by unfold U64; omega, .inr (.inr ⟨rfl, rfl, rfl⟩)⟩
    · have hc := c.toNat_lt
      by_cases h : 128 ≤ c.toNat
      · rw [unch_more i v c r (by omega) h]
        have := ih (i + 1) (v + (c.toNat - 128) * 128 ^ i) (by omega) (fun h9 => by
          have h1 := hv (by omega)
          rw [Nat.pow_succ]
          have h2 : (c.toNat - 128) * 128 ^ i ≤ 127 * 128 ^ i := Nat.mul_le_mul_right _ (by omega)
          generalize (c.toNat - 128) * 128 ^ i = p at *
          generalize (128 : Nat) ^ i = q at *
          omega)
        obtain ⟨h1, h2⟩ := this
        refine ⟨h1, ?_⟩
        rcases h2 with ⟨a, b, c1, d⟩ | h2 | h2
        · exact .inl ⟨a, by omega, c1, by simp; omega⟩
        · exact .inr (.inl h2)
        · exact .inr (.inr h2)
      · by_cases hb : (0 < i ∧ c.toNat = 0) ∨ (i = 9 ∧ 1 < c.toNat)
        · rw [unch_bad i v c r (by omega) (by omega) hb]
          exact ⟨by unfold U64; omega, .inr (.inr ⟨rfl, rfl, rfl⟩)⟩
        · rw [unch_last i v c r (by omega) (by omega) hb]
          refine ⟨?_, .inl ⟨rfl, Nat.le_refl _, by simp; omega, by simp⟩⟩
          unfold U64
          have h1 := hv (by omega)
          by_cases h9 : i = 9
          · subst h9
            have : c.toNat ≤ 1 := by omega
            have h2 : c.toNat * 128 ^ 9 ≤ 1 * 128 ^ 9 := Nat.mul_le_mul_right _ this
            simp only
            omega
          · have h2 : c.toNat * 128 ^ i ≤ 127 * 128 ^ i := Nat.mul_le_mul_right _ (by omega)
            have h3 : (128 : Nat) ^ i ≤ 128 ^ 8 := Nat.pow_le_pow_right (by omega) (by omega)
            show v + c.toNat * 128 ^ i < 18446744073709551616
            generalize c.toNat * 128 ^ i = p at *
            generalize (128 : Nat) ^ i = q at *
            omega
theorem unchain_ok (l : List UInt8) : UnchOk 0 l (unchain l) := unch_ok l 0 0 (by omega) (fun _ => by omega)

theorem unch_chain (m : List UInt8) : ∀ (n i a v : Nat), v ≤ n → v * 128 ^ i < 18446744073709551616 → (0 < i → 1 ≤ v) → unch i a (chain v ++ m) = (a + v * 128 ^ i, i + (chain v).length, 0) := by
  intro n
  induction n with
  | zero =>
    intro i a v hn hv hi
    obtain rfl : v = 0 := by omega
    have : i = 0 := by
      by_cases h : i = 0
      · exact h
      · have := hi (by omega); omega
    subst this
    rw [chain_small 0 (by omega)]
    rfl
  | succ n ih =>
    intro i a v hn hv hi
    have hi9 : i ≤ 9 := by
      by_cases h : i ≤ 9
      · exact h
      · have h1 := hi (by omega)
        have h2 : (128 : Nat) ^ 10 ≤ 128 ^ i := Nat.pow_le_pow_right (by omega) (by omega)
        have h3 : 1 * 128 ^ i ≤ v * 128 ^ i := Nat.mul_le_mul_right _ h1
        omega
    by_cases h : v < 128
    · rw [chain_small v h, List.singleton_append]
      have e : (UInt8.ofNat v).toNat = v := by rw [UInt8.toNat_ofNat']; omega
      rw [unch_last i a _ m (by omega) (by omega) ?_, e]
      · simp
      · rw [e]
        rintro (⟨h1, h2⟩ | ⟨h1, h2⟩)
        · have := hi h1; omega
        · subst h1
          have : 2 * 128 ^ 9 ≤ v * 128 ^ 9 := Nat.mul_le_mul_right _ h2
          omega
    · rw [chain_big v (by omega), List.cons_append]
      have e : (UInt8.ofNat (v % 128 + 128)).toNat = v % 128 + 128 := by rw [UInt8.toNat_ofNat']; omega
      rw [unch_more i a _ _ (by omega) (by omega), e]
      have h1 : v / 128 * 128 ^ (i + 1) = v / 128 * 128 * 128 ^ i := by rw [Nat.pow_succ, Nat.mul_assoc, Nat.mul_comm 128]
      have h2 : v / 128 * 128 * 128 ^ i ≤ v * 128 ^ i := Nat.mul_le_mul_right _ (Nat.div_mul_le_self v 128)
      rw [ih (i + 1) _ (v / 128) (by omega) (by omega) (fun _ => by omega)]
      have h3 : v * 128 ^ i = v % 128 * 128 ^ i + v / 128 * 128 * 128 ^ i := by
        rw [← Nat.add_mul]; congr 1; omega
      rw [h1, h3, List.length_cons]
      have h4 : v % 128 + 128 - 128 = v % 128 := by omega
      rw [h4, Nat.add_assoc, show i + 1 + (chain (v / 128)).length = i + ((chain (v / 128)).length + 1) by omega]
theorem unchain_chain (v : Nat) (m : List UInt8) (h : U64 v) : unchain (chain v ++ m) = (v, (chain v).length, 0) := by
  have := unch_chain m v 0 0 v (Nat.le_refl _) (by unfold U64 at h; omega) (fun h => by omega)
  simpa [unchain] using this

theorem chain_unch (l : List UInt8) : ∀ (i a a' n : Nat), unch i a l = (a', n, 0) → ∃ v, a' = a + v * 128 ^ i ∧ (0 < i → 0 < v) ∧ i + 1 ≤ n ∧ chain v = l.take (n - i) := by
  induction l with
  | nil =>
    intro i a a' n h
    rw [unch] at h
    split at h <;> simp at h
  | cons c r ih =>
    intro i a a' n h
    have hc := c.toNat_lt
    by_cases h10 : 10 ≤ i
    · rw [unch, if_pos h10] at h; simp at h
    · by_cases h128 : 128 ≤ c.toNat
      · rw [unch_more i a c r (by omega) h128] at h
        obtain ⟨v, h1, h2, h3, h4⟩ := ih _ _ _ _ h
        have hv := h2 (by omega)
        refine ⟨c.toNat - 128 + 128 * v, ?_, fun _ => by omega, by omega, ?_⟩
        · rw [h1, Nat.pow_succ, Nat.add_mul, Nat.add_assoc]
          congr 2
          rw [Nat.mul_comm (128 ^ i), Nat.mul_comm 128 v, Nat.mul_assoc]
        · rw [chain_big _ (by omega), show (c.toNat - 128 + 128 * v) / 128 = v by omega, show (c.toNat - 128 + 128 * v) % 128 + 128 = c.toNat by omega, h4,
            show n - i = (n - (i + 1)) + 1 by omega, List.take_succ_cons]
          congr 1
          exact UInt8.toNat_inj.1 (by rw [UInt8.toNat_ofNat']; omega)
      · by_cases hb : (0 < i ∧ c.toNat = 0) ∨ (i = 9 ∧ 1 < c.toNat)
        · rw [unch_bad i a c r (by omega) (by omega) hb] at h; simp at h
        · rw [unch_last i a c r (by omega) (by omega) hb] at h
          simp only [Prod.mk.injEq] at h
          obtain ⟨rfl, rfl, _⟩ := h
          refine ⟨c.toNat, rfl, fun h => by omega, Nat.le_refl _, ?_⟩
          rw [chain_small _ (by omega), show i + 1 - i = 1 by omega]
          simp
theorem chain_unchain (l : List UInt8) (v n : Nat) (h : unchain l = (v, n, 0)) : chain v = l.take n := by
  obtain ⟨v', h1, _, _, h4⟩ := chain_unch l 0 0 v n h
  simp at h1
  subst h1
  simpa using h4

/-- A text with its length. -/
def text (l : List UInt8) : List UInt8 := chain l.length ++ l
/-- The text with which some bytes begin: the text, all its bytes, the error's number. -/
def untext (l : List UInt8) (most : Int) : List UInt8 × Nat × Nat :=
  match unchain l with
  | (v, n, e) =>
    if e ≠ 0 then ([], 0, e)
    else if most < 0 ∨ most < (v : Int) then ([], 0, 4)
    else if l.length - n < v then ([], 0, 2)
    else ((l.drop n).take v, n + v, 0)
theorem untext_err (l : List UInt8) (most : Int) (v n e : Nat) (h : unchain l = (v, n, e)) (he : e ≠ 0) : untext l most = ([], 0, e) := by
  simp [untext, h, he]
theorem untext_long (l : List UInt8) (most : Int) (v n : Nat) (h : unchain l = (v, n, 0)) (hm : most < 0 ∨ most < (v : Int)) : untext l most = ([], 0, 4) := by
  simp [untext, h, hm]
theorem untext_short (l : List UInt8) (most : Int) (v n : Nat) (h : unchain l = (v, n, 0)) (hm : ¬ (most < 0 ∨ most < (v : Int))) (hs : l.length - n < v) : untext l most = ([], 0, 2) := by
  unfold untext
  rw [h]
  simp only [ne_eq, not_true_eq_false, if_false]
  rw [if_neg hm, if_pos hs]
theorem untext_yes (l : List UInt8) (most : Int) (v n : Nat) (h : unchain l = (v, n, 0)) (hm : ¬ (most < 0 ∨ most < (v : Int))) (hs : ¬ l.length - n < v) : untext l most = ((l.drop n).take v, n + v, 0) := by
  unfold untext
  rw [h]
  simp only [ne_eq, not_true_eq_false, if_false]
  rw [if_neg hm, if_neg hs]
theorem untext_text (l m : List UInt8) (most : Int) (hl : (l.length : Int) ≤ most) (h64 : U64 l.length) : untext (text l ++ m) most = (l, (text l).length, 0) := by
  have h1 : unchain (text l ++ m) = (l.length, (chain l.length).length, 0) := by
    rw [text, List.append_assoc]; exact unchain_chain _ _ h64
  rw [untext_yes _ _ _ _ h1 (by omega) (by simp [text])]
  simp [text]

end Go.Proofs.YtbblkgdejgoncaaDoor

/- Numbers as so many bytes (layer 1), as plain functions. No program in sight. -/
namespace Go.Proofs.YtbblkgdejgoncaaDoor
open Go Go.RowKit

/-- A number as n bytes, the highest first. -/
def be : Nat → Nat → List UInt8
  | 0, _ => []
  | n + 1, v => be n (v / 256) ++ [UInt8.ofNat (v % 256)]
/-- The number of some bytes. -/
def num : List UInt8 → Nat := fun l => l.foldl (fun v c => v * 256 + c.toNat) 0
theorem be_length (n v : Nat) : (be n v).length = n := by
  induction n generalizing v with
  | zero => rfl
  | succ n ih => simp [be, ih]
theorem be_get (n v j : Nat) (h : j < n) : (be n v)[n - 1 - j]? = some (UInt8.ofNat (v / 256 ^ j % 256)) := by
  induction n generalizing v j with
  | zero => omega
  | succ n ih =>
    rw [be]
    by_cases e : j = 0
    · subst e
      rw [List.getElem?_append_right (by rw [be_length]; omega), be_length]
      simp
    · rw [List.getElem?_append_left (by rw [be_length]; omega)]
      have := ih (v / 256) (j - 1) (by omega)
      rw [show n + 1 - 1 - j = n - 1 - (j - 1) by omega, this, Nat.div_div_eq_div_mul, show 256 * 256 ^ (j - 1) = 256 ^ j by
        rw [Nat.mul_comm, ← Nat.pow_succ]; congr 1; omega]
theorem be_cons (n v : Nat) : be (n + 1) v = UInt8.ofNat (v / 256 ^ n % 256) :: be n v := by
  induction n generalizing v with
  | zero => simp [be]
  | succ n ih =>
    rw [be, ih (v / 256), List.cons_append, Nat.div_div_eq_div_mul, show 256 * 256 ^ n = 256 ^ (n + 1) by rw [Nat.mul_comm, ← Nat.pow_succ]]
    rfl
theorem num_snoc (l : List UInt8) (c : UInt8) : num (l ++ [c]) = num l * 256 + c.toNat := by simp [num]
theorem num_lt (l : List UInt8) : num l < 256 ^ l.length := by
  generalize hn : l.length = n
  induction n generalizing l with
  | zero =>
    have : l = [] := List.length_eq_zero_iff.1 hn
    subst this; simp [num]
  | succ n ih =>
    obtain ⟨m, c, rfl⟩ : ∃ m c, l = m ++ [c] := ⟨l.dropLast, l.getLast (by intro h; simp [h] at hn), (List.dropLast_concat_getLast _).symm⟩
    have := ih m (by simpa using hn)
    have hc := c.toNat_lt
    rw [num_snoc, Nat.pow_succ]
    omega
theorem num_be (n v : Nat) (h : v < 256 ^ n) : num (be n v) = v := by
  induction n generalizing v with
  | zero => simp at h; subst h; rfl
  | succ n ih =>
    rw [be, num_snoc, ih (v / 256) (by rw [Nat.div_lt_iff_lt_mul (by omega)]; rw [Nat.pow_succ] at h; exact h), UInt8.toNat_ofNat']
    omega
theorem be_num (l : List UInt8) : be l.length (num l) = l := by
  generalize hn : l.length = n
  induction n generalizing l with
  | zero =>
    have : l = [] := List.length_eq_zero_iff.1 hn
    subst this; rfl
  | succ n ih =>
    obtain ⟨m, c, rfl⟩ : ∃ m c, l = m ++ [c] := ⟨l.dropLast, l.getLast (by intro h; simp [h] at hn), (List.dropLast_concat_getLast _).symm⟩
    have hc := c.toNat_lt
    rw [be, num_snoc, show (num m * 256 + c.toNat) / 256 = num m by omega, show (num m * 256 + c.toNat) % 256 = c.toNat by omega, ih m (by simpa using hn)]
    congr 2
    exact UInt8.toNat_inj.1 (by rw [UInt8.toNat_ofNat']; omega)
/-- A number as so many bytes, or that it is none: the bytes, the error's number. -/
def fixed (v : Nat) (n : Int) : List UInt8 × Nat := if n < 1 ∨ 8 < n ∨ 256 ^ n.toNat ≤ v then ([], 1) else (be n.toNat v, 0)
def number (l : List UInt8) : Nat × Nat := if l.length < 1 ∨ 8 < l.length then (0, 1) else (num l, 0)
theorem fixed_no (v : Nat) (n : Int) (h : n < 1 ∨ 8 < n ∨ 256 ^ n.toNat ≤ v) : fixed v n = ([], 1) := if_pos h
theorem fixed_yes (v n : Nat) (h1 : 1 ≤ n) (h8 : n ≤ 8) (h : v < 256 ^ n) : fixed v n = (be n v, 0) := by
  unfold fixed
  rw [if_neg (by rw [Int.toNat_natCast]; omega), Int.toNat_natCast]
theorem number_no (l : List UInt8) (h : l.length < 1 ∨ 8 < l.length) : number l = (0, 1) := if_pos h
theorem number_yes (l : List UInt8) (h : ¬ (l.length < 1 ∨ 8 < l.length)) : number l = (num l, 0) := if_neg h
theorem num_U64 (l : List UInt8) (h : l.length ≤ 8) : U64 (num l) :=
  Nat.lt_of_lt_of_le (num_lt l) (Nat.pow_le_pow_right (show 0 < 256 by omega) h)

end Go.Proofs.YtbblkgdejgoncaaDoor

/- Small facts on worlds: which blocks may have turned. No program in sight. -/
namespace Go.Proofs.YtbblkgdejgoncaaDoor
open Go Go.RowKit

/-- Of what was there nothing has turned but the blocks that S names. -/
structure Touch (S : Nat → Prop) (w w' : World) : Prop where
  os : w'.os = w.os
  tape : w'.tape = w.tape
  output : w'.output = w.output
  size : w.heap.size ≤ w'.heap.size
  block : ∀ k, k < w.heap.size → ¬ S k → w'.heap[k]? = w.heap[k]?

theorem Touch.refl (S : Nat → Prop) (w : World) : Touch S w w := ⟨rfl, rfl, rfl, Nat.le_refl _, fun _ _ _ => rfl⟩
theorem Touch.trans {S : Nat → Prop} {a b c : World} (h : Touch S a b) (k : Touch S b c) : Touch S a c :=
  ⟨k.os.trans h.os, k.tape.trans h.tape, k.output.trans h.output, Nat.le_trans h.size k.size, fun i hi hn => (k.block i (Nat.lt_of_lt_of_le hi h.size) hn).trans (h.block i hi hn)⟩
theorem Touch.mono {S S' : Nat → Prop} {a b : World} (h : Touch S a b) (hs : ∀ k, k < a.heap.size → S k → S' k) : Touch S' a b :=
  ⟨h.os, h.tape, h.output, h.size, fun i hi hn => h.block i hi (fun hk => hn (hs i hi hk))⟩
theorem Touch.of_grown {w w' : World} {b : Nat} (h : w.grownBy w' (some b)) : Touch (· = b) w w' :=
  ⟨h.os, h.tape, h.output, h.size, fun k hk hn => h.block k hk (fun e => hn (Option.some.inj e))⟩
theorem Touch.of_below {S : Nat → Prop} {w w' : World} (h : Below w.heap.size w w') : Touch S w w' := ⟨h.os, h.tape, h.output, h.size, fun k hk _ => h.block k hk⟩
theorem Touch.alloc {S : Nat → Prop} {a b : World} (h : Touch S a b) (o : Obj) : Touch S a (b.alloc o) := h.trans (.of_below ((Below.refl _ _).alloc (Nat.le_refl _) o))
theorem Touch.drew {S : Nat → Prop} {a b : World} (h : Touch S a b) : Touch S a b.drew := ⟨h.os, h.tape, h.output, h.size, h.block⟩
theorem Touch.set {S : Nat → Prop} {a b : World} (h : Touch S a b) (x i : Nat) (v : Value) (hx : S x ∨ a.heap.size ≤ x) : Touch S a (b.setCell ⟨x, i, none⟩ v) :=
  ⟨h.os, h.tape, h.output, by simp [World.setCell]; exact h.size, fun k hk hn => by
    rw [Below.heap_setCell _ _ _ _ (fun e => by subst e; rcases hx with hx | hx; exact hn hx; exact absurd hk (Nat.not_lt.2 hx))]
    exact h.block k hk hn⟩
/-- A step that touches blocks of its own world, seen from an elder world. -/
theorem Touch.step {S S' : Nat → Prop} {a b c : World} (h : Touch S a b) (k : Touch S' b c) (hs : ∀ i, i < a.heap.size → S' i → S i) : Touch S a c :=
  ⟨k.os.trans h.os, k.tape.trans h.tape, k.output.trans h.output, Nat.le_trans h.size k.size, fun i hi hn =>
    (k.block i (Nat.lt_of_lt_of_le hi h.size) (fun hk => hn (hs i hi hk))).trans (h.block i hi hn)⟩
theorem Touch.below {S : Nat → Prop} {B : Nat} {w w' : World} (h : Touch S w w') (hB : B ≤ w.heap.size) (hs : ∀ k, S k → B ≤ k) : Below B w w' :=
  ⟨h.os, h.tape, h.output, h.size, fun k hk => h.block k (by omega) (fun hk' => by have := hs k hk'; omega)⟩
theorem Blk.touch {S : Nat → Prop} {w w' : World} {b : Nat} {cs : Array Value} {T : TypeId} (h : Blk w b cs T) (ht : Touch S w w') (hn : ¬ S b) : Blk w' b cs T := by
  unfold Blk
  rw [ht.block b h.lt hn]; exact h

theorem cell_touch {S : Nat → Prop} {w w' : World} {b i : Nat} (ht : Touch S w w') (hb : b < w.heap.size) (hn : ¬ S b) : w'.cell? ⟨b, i, none⟩ = w.cell? ⟨b, i, none⟩ :=
  World.cell?_of_block (w := w) (ht.block b hb hn)

end Go.Proofs.YtbblkgdejgoncaaDoor

/- The walks of Number, the program's and the reference's. -/
namespace Go.Proofs.YtbblkgdejgoncaaDoor
open Go.RowKit
theorem Tryd.infoByte : (Tryd.prog.info? 5).map (fun i => (i.zero, i.size, i.bytes)) = some (some (.int .u8 0), 1, 1) := by kernel_rfl
theorem data_length (s : ByteArray) : s.data.toList.length = s.size := by simp
theorem data_append (a b : ByteArray) : (a ++ b).data.toList = a.data.toList ++ b.data.toList := by simp

theorem take_bytes (s : ByteArray) (k : Nat) (h : k < s.size) : s.data.toList.take (k + 1) = s.data.toList.take k ++ [s[k]] := by
  rw [List.take_succ_eq_append_getElem (by simpa using h)]; rfl

theorem or_byte (A : Nat) (c : UInt8) (h : A < 72057594037927936) : bits BinOp.or IntKind.u64 (IntKind.u64.wrap ((A : Int) * 256)) (c.toNat : Int) = ((A * 256 + c.toNat : Nat) : Int) := by
  have hc := c.toNat_lt
  have e : IntKind.u64.wrap ((A : Int) * 256) = ((A * 256 : Nat) : Int) := by
    have := U64.wrap (n := A * 256) (by unfold U64; omega)
    simpa using this
  rw [e, u64_or_nat _ _ (by omega) (by omega)]
  have h2 : A * 256 ||| c.toNat = A * 256 + c.toNat := by
    have := Nat.two_pow_add_eq_or_of_lt (i := 8) (b := c.toNat) (by omega) A
    rw [show A * 256 = 2 ^ 8 * A by omega, ← this]
  rw [h2]

set_option maxRecDepth 100000 in
set_option maxHeartbeats 400000 in
theorem number_any (s : ByteArray) (w : World) (hs : s.size ≤ 9223372036854775807) :
    Calls Tryd.prog 58 #[.string s] w fun e w' => e = .returned (.tuple #[.int .u64 ((number s.data.toList).1 : Int), .int .i64 ((number s.data.toList).2 : Int)]) ∧ w = w' := by
  by_cases h1 : s.size < 1
  · have Hf := Lib.hid (number_no s.data.toList (by rw [data_length]; omega))
    go_enter Tryd.func58, Tryd.ntmps58
    go_wp2
    go_ret2
    exact ⟨by rw [Hf.out]; rfl, rfl⟩
  by_cases h8 : 8 < s.size
  · have Hf := Lib.hid (number_no s.data.toList (by rw [data_length]; omega))
    go_enter Tryd.func58, Tryd.ntmps58
    go_wp2
    go_ret2
    exact ⟨by rw [Hf.out]; rfl, rfl⟩
  have Hf := Lib.hid (number_yes s.data.toList (by rw [data_length]; omega))
  go_enter Tryd.func58, Tryd.ntmps58
  go_wp2
  go_loop [4, 5, 16] (fun v _ i => ∃ k A : Nat, k ≤ s.size ∧ i = .int .i64 k ∧ v = .int .u64 A ∧ A = num (s.data.toList.take k)) (fun _ _ i => s.size - (intOf i).toNat)
  case atStart => exact ⟨0, 0, by omega, rfl, rfl, rfl⟩
  case round =>
    obtain ⟨k, A, hk, rfl, rfl, hA⟩ := hrel
    by_cases hlt : k < s.size
    · have hA7 : A < 72057594037927936 := by
        rw [hA]
        refine Nat.lt_of_lt_of_le (num_lt _) ?_
        refine Nat.le_trans (Nat.pow_le_pow_right (show 0 < 256 by omega) (show _ ≤ 7 from ?_)) (by decide)
        simp; omega
      have hX := or_byte A s[k] hA7
      have hX2 := Lib.hid (num_snoc (s.data.toList.take k) s[k])
      have hc256 := s[k].toNat_lt
      have HA := Lib.hid hA
      clear hA hA7
      go_wp2
      go_round
      case rel => exact ⟨k + 1, _, by omega, by go_num, rfl, by rw [take_bytes _ _ hlt, hX2.out, ← HA.out]⟩
      case measure => simp [intOf]; omega
    · have HA := Lib.hid hA
      clear hA
      go_wp2
      go_ret2
      exact ⟨by rw [Hf.out, HA.out, List.take_of_length_le (by simp; omega)]; rfl, rfl⟩

end Go.Proofs.YtbblkgdejgoncaaDoor

/- The walks of Fixed, the program's and the reference's. -/
namespace Go.Proofs.YtbblkgdejgoncaaDoor
open Go.RowKit
theorem bytes_one (w : World) (x : Int) (c : UInt8) (h : Value.int .u8 x = byteV c) :
    (convert 27 9 (.slice (some ⟨w.heap.size, 0, none⟩) 1 1)).run Tryd.prog (w.alloc (.cells #[.int .u8 x] 5)) = .ok (.string ⟨#[c]⟩) (w.alloc (.cells #[.int .u8 x] 5)) := by
  have := run_convert_bytes_back (P := Tryd.prog) (w.alloc (.cells #[.int .u8 x] 5)) 27 9 5 ⟨w.heap.size, 0, none⟩ 1 [c] Tryd.underlying27 Tryd.underlying5 Tryd.underlying9 (fun j hj => by
    obtain rfl : j = 0 := by simpa using hj
    rw [addr_add0, cell_alloc_new]
    rw [h]
    rfl)
  exact this

/-- What lies in the row of Fixed behind k rounds. -/
def FixAt (arr : Array Value) (V n k : Nat) : Prop := arr.size = n ∧ ∀ j, j < k → arr[n - 1 - j]? = some (byteV (UInt8.ofNat (V / 256 ^ j % 256)))

theorem FixAt.set {arr : Array Value} {V n k : Nat} (h : FixAt arr V n k) (hk : k < n) : FixAt (arr.setIfInBounds (n - 1 - k) (byteV (UInt8.ofNat (V / 256 ^ k % 256)))) V n (k + 1) := by
  obtain ⟨h1, h2⟩ := h
  refine ⟨by simp [h1], fun j hj => ?_⟩
  rw [Array.getElem?_setIfInBounds]
  by_cases e : j = k
  · subst e
    simp [h1, show n - 1 - j < n by omega]
  · rw [if_neg (by omega)]
    exact h2 j (by omega)
theorem FixAt.done {arr : Array Value} {V n : Nat} (h : FixAt arr V n n) (j : Nat) (hj : j < (be n V).length) : arr[j]? = some (.int .u8 (((be n V)[j]).toNat : Int)) := by
  rw [be_length] at hj
  have h1 := h.2 (n - 1 - j) (by omega)
  have h2 := be_get n V (n - 1 - j) (by omega)
  rw [show n - 1 - (n - 1 - j) = j by omega] at h1 h2
  rw [List.getElem?_eq_getElem (by rw [be_length]; omega)] at h2
  rw [h1, Option.some.inj h2]
  rfl

theorem ret_strE {s : ByteArray} {l : List UInt8} {x y : Int} (h : s.data.toList = l) (hy : x = y) : Ending.returned (.tuple #[.string s, .int .i64 x]) = .returned (.tuple #[str l, .int .i64 y]) := by
  subst h; rw [hy]; rfl
theorem shr_byte (V k : Nat) : IntKind.u8.wrap ((V : Int) / (2 : Int) ^ (8 * k)) = ((UInt8.ofNat (V / 256 ^ k % 256)).toNat : Int) := by
  rw [byte_mod _ (Nat.mod_lt _ (by omega)), IntKind.wrap_u8', show (256 : Nat) ^ k = 2 ^ (8 * k) by rw [Nat.pow_mul]]
  simp

set_option maxRecDepth 100000 in
set_option maxHeartbeats 400000 in
theorem fixed_walk (V n : Nat) (w : World) (h1 : 1 ≤ n) (h8 : n ≤ 8) (h : V < 256 ^ n) :
    Calls Tryd.prog 82 #[.int .u64 V, .int .i64 n] w fun e w' => e = .returned (.tuple #[str (be n V), .int .i64 0]) ∧ Below w.heap.size w w' := by
  obtain ⟨i0, hi, hz0, hz1, hz2⟩ := info_parts Tryd.infoByte
  have hmk : ∀ w, (Instr.makeSlice 27 (.int .i64 (n : Int)) (.int .i64 (n : Int))).run Tryd.prog w = .ok (.slice (some ⟨w.heap.size, 0, none⟩) n n) (w.alloc (.cells (madeCells (Value.int .u8 0).cells (n * 1)) 5)) := fun w => by
    have := run_make (P := Tryd.prog) w 27 5 i0 (.int .u8 0) Tryd.underlying27 hi hz0 .i64 .i64 n n (by omega) (by omega) (by rw [hz2]; omega) (by omega)
    rw [hz1] at this
    simpa using this
  obtain ⟨C, hC, hCs⟩ : ∃ C, C = madeCells (Value.int .u8 0).cells (n * 1) ∧ C.size = n := ⟨_, rfl, by rw [size_madeCells]; omega⟩
  rw [← hC] at hmk
  have hdec : ((n : Int) < 8) → ((V : Int) / (2 : Int) ^ (8 * n) != 0) = false := fun _ => by
    have : V / 2 ^ (8 * n) = 0 := Nat.div_eq_of_lt (by rw [Nat.pow_mul]; exact h)
    have e : ((V : Int) / (2 : Int) ^ (8 * n)) = ((V / 2 ^ (8 * n) : Nat) : Int) := by simp
    rw [e, this]; rfl
  have HC := Lib.hid hCs
  have Hh := Lib.hid h
  clear hC hCs h hi hz0 hz1 hz2
  by_cases hn8 : (n : Int) < 8
  all_goals
    first
      | (have hdec' := hdec hn8)
      | skip
    clear hdec
    go_enter Tryd.func82, Tryd.ntmps82
    go_wp2
    go_loopw [7, 29] (fun _ i wr => ∃ k : Nat, k ≤ n ∧ i = .int .i64 k ∧ ∃ arr, FixAt arr V n k ∧ wr = w.alloc (.cells arr 5)) (fun _ i _ => n - (intOf i).toNat)
    case atStart => exact ⟨0, by omega, rfl, C, ⟨HC.out, fun j hj => by omega⟩, rfl⟩
    case round =>
      obtain ⟨k, hk, rfl, arr, harr, rfl⟩ := hrel
      have Harr := Lib.hid harr
      clear harr
      by_cases hlt : k < n
      · have hw := shr_byte V k
        have hbv : Value.int .u8 ((UInt8.ofNat (V / 256 ^ k % 256)).toNat : Int) = byteV (UInt8.ofNat (V / 256 ^ k % 256)) := rfl
        have Hset := Lib.hid (Harr.out.set hlt)
        generalize UInt8.ofNat (V / 256 ^ k % 256) = c at *
        have Hbv := Lib.hid hbv
        clear hbv
        obtain ⟨x, hx⟩ : ∃ x, arr[n - 1 - k]? = some x := ⟨_, Array.getElem?_eq_getElem (by rw [Harr.out.1]; omega)⟩
        have hidx : ((n : Int) - 1 - (k : Int)).toNat = n - 1 - k := by omega
        go_wp2
        go_roundw
        case rel => exact ⟨k + 1, by omega, by go_num, _, Hset.out, by rw [← Hbv.out]⟩
        case measure => simp [intOf]; omega
      · obtain rfl : k = n := by omega
        have hcv := run_convert_bytes_back (P := Tryd.prog) (w.alloc (.cells arr 5)) 27 9 5 ⟨w.heap.size, 0, none⟩ k (be k V) Tryd.underlying27 Tryd.underlying5 Tryd.underlying9 (fun j hj => by
          rw [addr_add0, cell_alloc_new]; exact Harr.out.done j hj)
        rw [be_length] at hcv
        go_wp2
        go_ret2
        exact ⟨rfl, (Below.refl _ _).alloc (Nat.le_refl _) _⟩

set_option maxRecDepth 100000 in
set_option maxHeartbeats 400000 in
theorem fixed_any (V : Nat) (n : Int) (w : World) (hV : U64 V) (hn0 : -9223372036854775808 ≤ n) (hn1 : n ≤ 9223372036854775807) :
    Calls Tryd.prog 82 #[.int .u64 V, .int .i64 n] w fun e w' => e = .returned (.tuple #[str (fixed V n).1, .int .i64 ((fixed V n).2 : Int)]) ∧ Below w.heap.size w w' := by
  by_cases hno : n < 1 ∨ 8 < n ∨ 256 ^ n.toNat ≤ V
  · have Hf := Lib.hid (fixed_no V n hno)
    by_cases h1 : n < 1
    · clear hno
      go_enter Tryd.func82, Tryd.ntmps82
      go_wp2
      go_ret2
      exact ⟨by rw [Hf.out]; rfl, Below.refl _ _⟩
    by_cases h8 : 8 < n
    · clear hno
      go_enter Tryd.func82, Tryd.ntmps82
      go_wp2
      go_ret2
      exact ⟨by rw [Hf.out]; rfl, Below.refl _ _⟩
    obtain ⟨n, rfl⟩ := Int.eq_ofNat_of_zero_le (show 0 ≤ n by omega)
    have hbig : 256 ^ n ≤ V := by
      rcases hno with h | h | h
      · exact absurd h h1
      · exact absurd h h8
      · simpa using h
    have hn8 : n < 8 := by
      by_cases h : n < 8
      · exact h
      · have : (256 : Nat) ^ 8 ≤ 256 ^ n := Nat.pow_le_pow_right (by omega) (by omega)
        unfold U64 at hV; omega
    have hdec : ((V : Int) / (2 : Int) ^ (8 * n) != 0) = true := by
      have h2 : 0 < V / 2 ^ (8 * n) := Nat.div_pos (by rw [Nat.pow_mul]; exact hbig) (Nat.pow_pos (by omega))
      have e : ((V : Int) / (2 : Int) ^ (8 * n)) = ((V / 2 ^ (8 * n) : Nat) : Int) := by simp
      rw [e, bne_iff_ne]; omega
    clear hno hbig
    go_enter Tryd.func82, Tryd.ntmps82
    go_wp2
    go_ret2
    exact ⟨by rw [Hf.out]; rfl, Below.refl _ _⟩
  · obtain ⟨n, rfl⟩ := Int.eq_ofNat_of_zero_le (show 0 ≤ n by omega)
    have h : V < 256 ^ n := by
      have : ¬ (256 ^ (n : Int).toNat ≤ V) := fun h => hno (.inr (.inr h))
      rw [Int.toNat_natCast] at this; omega
    rw [fixed_yes V n (by omega) (by omega) h]
    exact fixed_walk V n w (by omega) (by omega) h

set_option maxRecDepth 100000 in
set_option maxHeartbeats 400000 in
theorem rfixed_any (V : Nat) (n : Int) (w : World) (hV : U64 V) (hn0 : -9223372036854775808 ≤ n) (hn1 : n ≤ 9223372036854775807) :
    Calls Tryd.prog 83 #[.int .u64 V, .int .i64 n] w fun e w' => e = .returned (.tuple #[str (fixed V n).1, .int .i64 ((fixed V n).2 : Int)]) ∧ Below w.heap.size w w' := by
  by_cases h1 : n < 1
  · have Hf := Lib.hid (fixed_no V n (.inl h1))
    go_enter Tryd.func83, Tryd.ntmps83
    go_wp2
    go_ret2
    exact ⟨by rw [Hf.out]; rfl, Below.refl _ _⟩
  by_cases h8 : 8 < n
  · have Hf := Lib.hid (fixed_no V n (.inr (.inl h8)))
    go_enter Tryd.func83, Tryd.ntmps83
    go_wp2
    go_ret2
    exact ⟨by rw [Hf.out]; rfl, Below.refl _ _⟩
  obtain ⟨n, rfl⟩ := Int.eq_ofNat_of_zero_le (show 0 ≤ n by omega)
  go_enter Tryd.func83, Tryd.ntmps83
  go_wp2
  go_loopw [0, 6, 7] (fun v b i wr => ∃ (k A : Nat) (s : ByteArray), k ≤ n ∧ i = .int .i64 k ∧ v = .int .u64 A ∧ Hid (A = V / 256 ^ k) ∧ Hid (s.data.toList = be k V) ∧ b = .string s ∧ Below w.heap.size w wr) (fun _ _ i _ => n - (intOf i).toNat)
  case atStart => exact ⟨0, V, ByteArray.empty, by omega, rfl, rfl, by simp [Hid], rfl, rfl, Below.refl _ _⟩
  case round =>
    obtain ⟨k, A, s, hk, rfl, rfl, hA, hs, rfl, hb⟩ := hrel
    have hsz := hb.size
    have hss : s.size ≤ 8 := by rw [← data_length, hs.out, be_length]; omega
    have hUA : U64 A := by rw [hA.out]; exact hV.div _
    by_cases hlt : k < n
    · obtain ⟨c, hc⟩ : ∃ c, c = UInt8.ofNat (A % 256) := ⟨_, rfl⟩
      have hcv := bytes_one wr ((A : Int) % 256) c (by rw [hc, byteV, byte_mod _ (Nat.mod_lt _ (by omega))]; congr 1)
      have hq : IntKind.u64.wrap ((A : Int) / 256) = (A : Int) / 256 := hUA.wrap_div 256
      have Hc := Lib.hid hc
      clear hc
      go_wp2
      go_roundw
      case rel =>
        refine ⟨k + 1, A / 256, ⟨#[c]⟩ ++ s, by omega, by go_num, by go_num, ?_, ?_, rfl, hb.alloc (by omega) _⟩
        · show A / 256 = V / 256 ^ (k + 1)
          rw [hA.out, Nat.div_div_eq_div_mul, Nat.pow_succ]
        · show (_ : List UInt8) = _
          rw [data_append, be_cons, hs.out, Hc.out, hA.out]
          rfl
      case measure => simp [intOf]; omega
    · obtain rfl : k = n := by omega
      by_cases hz : A = 0
      · have hz' : ((A : Int) != 0) = false := by rw [hz]; rfl
        have Hf := Lib.hid (fixed_yes V k (by omega) (by omega) (by
          have h0 := hA.out
          rw [hz] at h0
          rcases Nat.lt_or_ge V (256 ^ k) with h | h
          · exact h
          · have := Nat.div_pos h (Nat.pow_pos (show 0 < 256 by omega)); omega))
        clear hz
        go_wp2
        go_ret2
        exact ⟨by rw [Hf.out]; exact ret_strE hs.out rfl, hb⟩
      · have hz' : ((A : Int) != 0) = true := by rw [bne_iff_ne]; omega
        have Hf := Lib.hid (fixed_no V k (.inr (.inr (by
          rw [Int.toNat_natCast]
          have h0 := hA.out
          rcases Nat.lt_or_ge V (256 ^ k) with h | h
          · rw [Nat.div_eq_of_lt h] at h0; omega
          · exact h))))
        go_wp2
        go_ret2
        exact ⟨by rw [Hf.out]; rfl, hb⟩
end Go.Proofs.YtbblkgdejgoncaaDoor

/- The walk of Number, the reference's. -/
namespace Go.Proofs.YtbblkgdejgoncaaDoor
open Go.RowKit

set_option maxHeartbeats 400000 in
theorem rnumber_any (s : ByteArray) (w : World) (hs : s.size ≤ 9223372036854775807) :
    Calls Tryd.prog 102 #[.string s] w fun e w' => e = .returned (.tuple #[.int .u64 ((number s.data.toList).1 : Int), .int .i64 ((number s.data.toList).2 : Int)]) ∧ w = w' := by
  by_cases h1 : s.size < 1
  · have Hf := Lib.hid (number_no s.data.toList (by rw [data_length]; omega))
    go_enter Tryd.func102, Tryd.ntmps102
    go_wp2
    go_ret2
    exact ⟨by rw [Hf.out]; rfl, rfl⟩
  by_cases h8 : 8 < s.size
  · have Hf := Lib.hid (number_no s.data.toList (by rw [data_length]; omega))
    go_enter Tryd.func102, Tryd.ntmps102
    go_wp2
    go_ret2
    exact ⟨by rw [Hf.out]; rfl, rfl⟩
  have Hf := Lib.hid (number_yes s.data.toList (by rw [data_length]; omega))
  go_enter Tryd.func102, Tryd.ntmps102
  go_wp2
  go_loop [4, 5] (fun v i => ∃ k A : Nat, k ≤ s.size ∧ i = .int .i64 k ∧ v = .int .u64 A ∧ A = num (s.data.toList.take k)) (fun _ i => s.size - (intOf i).toNat)
  case atStart => exact ⟨0, 0, by omega, rfl, rfl, rfl⟩
  case round =>
    obtain ⟨k, A, hk, rfl, rfl, hA⟩ := hrel
    by_cases hlt : k < s.size
    · have hA7 : A < 72057594037927936 := by
        rw [hA]
        refine Nat.lt_of_lt_of_le (num_lt _) ?_
        refine Nat.le_trans (Nat.pow_le_pow_right (show 0 < 256 by omega) (show _ ≤ 7 from ?_)) (by decide)
        simp; omega
      have hc256 := s[k].toNat_lt
      have e1 : IntKind.u64.wrap ((A : Int) * 256) = (A : Int) * 256 := by
        have := U64.wrap (n := A * 256) (by unfold U64; omega)
        simpa using this
      have e2 : IntKind.u64.wrap ((A : Int) * 256 + (s[k].toNat : Int)) = ((A * 256 + s[k].toNat : Nat) : Int) := by
        have := U64.wrap (n := A * 256 + s[k].toNat) (by unfold U64; omega)
        simpa using this
      have hX2 := Lib.hid (num_snoc (s.data.toList.take k) s[k])
      have HA := Lib.hid hA
      clear hA hA7
      go_wp2
      go_round
      case rel => exact ⟨k + 1, _, by omega, by go_num, rfl, by rw [take_bytes _ _ hlt, hX2.out, ← HA.out]⟩
      case measure => simp [intOf]; omega
    · have HA := Lib.hid hA
      clear hA
      go_wp2
      go_ret2
      exact ⟨by rw [Hf.out, HA.out, List.take_of_length_le (by simp; omega)]; rfl, rfl⟩
end Go.Proofs.YtbblkgdejgoncaaDoor
