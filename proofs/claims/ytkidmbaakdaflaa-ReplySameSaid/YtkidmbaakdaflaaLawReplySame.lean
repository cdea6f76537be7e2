/- The law ReplySame: of any two replies the program says as the document does whether they are the same; the call returns true and leaves its arguments as they were. -/
import Derived.Test.YtkidmbaakdaflaaReplyL
import Derived.Test.YtkidmbaakdaflaaLaw
set_option linter.unusedSimpArgs false
set_option linter.unusedVariables false
namespace Go.Proofs.Ytkidmbaakdaflaa
open Go.ChangeShapes Go.WideShapes Go.ChangeAt Go.RowKit

section
theorem infLawReplySame_23 : Try.prog.info? 23 = some Try.t23 := by kernel_rfl
theorem infLawReplySame_25 : Try.prog.info? 25 = some Try.t25 := by kernel_rfl

set_option maxRecDepth 100000 in
set_option maxHeartbeats 1000000 in
theorem replySame_all (r s : Rp) (o1 : Option Nat) (p1 q1 : Nat) (c1 : Array Value) (T1 : TypeId) (f1 : Nat × Nat) (ls : List Lt) (h1 : Sees 6 o1 p1 q1 c1 (ls.flatMap ltCells) ls.length) (ok1 : ∀ l ∈ ls, LtOk l) (o2 : Option Nat) (p2 q2 : Nat) (c2 : Array Value) (T2 : TypeId) (f2 : Nat × Nat) (ms : List Lt) (h2 : Sees 6 o2 p2 q2 c2 (ms.flatMap ltCells) ms.length) (ok2 : ∀ l ∈ ms, LtOk l) :
    Ct Try.prog 3 [(.agg (rpCells r (sv o1 p1 ls.length q1)).toArray), (.agg (rpCells s (sv o2 p2 ms.length q2)).toArray)] [(o1, .cells c1 T1 f1), (o2, .cells c2 T2 f2)] [] fun v post => v = .bool true ∧ post = [] := by
 refine ct_of Try.func3 rfl rfl (fun w0 => ?_)
 show G _ _ [(0, _), (1, _)] _ _
 refine G_seq ?_
 refine G_region (l := [0, 1, 2]) rfl ?_
 refine G_new rfl rfl rfl rfl (N_boxA rfl rfl) (fun b2 => ?_)
 refine G_new rfl rfl rfl rfl (N_boxA rfl rfl) (fun b3 => ?_)
 refine G_val rfl rfl rfl rfl (V_assign rfl rfl) ?_
 refine G_done ?_
 refine G_seq ?_
 refine G_seq ?_
 refine G_region (l := [0, 1, 2, 3, 4, 5, 6, 7, 8, 9]) rfl ?_
 refine G_val rfl rfl rfl rfl (V_fieldAddr (fo := 11) rfl Try.underlying25 rfl infLawReplySame_23 rfl rfl rfl) ?_
 refine G_val rfl rfl rfl rfl (V_load1 rfl rfl (mem_at 3 rfl) rfl Try.underlying23 rfl) ?_
 refine G_val rfl rfl rfl rfl (V_len rfl rfl Try.underlying23 rfl) ?_
 refine G_val rfl rfl rfl rfl (V_gtr rfl rfl rfl) ?_
 refine G_val rfl rfl rfl rfl (V_move rfl rfl) ?_
 refine G_splitD 9 rfl (fun hc1 => ?_) (fun hc1 => ?_)
 · skip
   refine G_off rfl rfl rfl rfl ?_
   refine G_off rfl rfl rfl rfl ?_
   refine G_off rfl rfl rfl rfl ?_
   refine G_off rfl rfl rfl rfl ?_
   refine G_val rfl rfl rfl rfl (V_pickT rfl rfl rfl) ?_
   refine G_done ?_
   refine G_then rfl ?_
   refine G_seq ?_
   refine G_region (l := [0, 1]) rfl ?_
   refine G_call (L2 := [_, _]) rfl rfl rfl rfl rfl rfl Try.call13 (rl_live) [] [] rfl rfl ?_
   rintro v post ⟨rfl, rfl⟩
   show G _ _ _ [_, _] _
   refine G_val rfl rfl rfl rfl (V_assign rfl rfl) ?_
   refine G_done ?_
   refine G_ret (post := []) Try.func3 rfl (RVs_cons (RV_tmp rfl) RVs_nil) [] rfl ?_
   dsimp only [packed]
   exact ⟨rfl, rfl⟩
 refine G_val rfl rfl rfl rfl (V_fieldAddr (fo := 11) rfl Try.underlying25 rfl infLawReplySame_23 rfl rfl rfl) ?_
 refine G_val rfl rfl rfl rfl (V_load1 rfl rfl (mem_at 2 rfl) rfl Try.underlying23 rfl) ?_
 refine G_val rfl rfl rfl rfl (V_len rfl rfl Try.underlying23 rfl) ?_
 refine G_val rfl rfl rfl rfl (V_gtr rfl rfl rfl) ?_
 refine G_val rfl rfl rfl rfl (V_pickF rfl rfl rfl) ?_
 refine G_done ?_
 refine G_ifD rfl (fun hc2 => ?_) (fun hc2 => ?_)
 · skip
   refine G_seq ?_
   refine G_region (l := [0, 1]) rfl ?_
   refine G_call (L2 := [_, _]) rfl rfl rfl rfl rfl rfl Try.call13 (rl_live) [] [] rfl rfl ?_
   rintro v post ⟨rfl, rfl⟩
   show G _ _ _ [_, _] _
   refine G_val rfl rfl rfl rfl (V_assign rfl rfl) ?_
   refine G_done ?_
   refine G_ret (post := []) Try.func3 rfl (RVs_cons (RV_tmp rfl) RVs_nil) [] rfl ?_
   dsimp only [packed]
   exact ⟨rfl, rfl⟩
 refine G_skip ?_
 refine G_seq ?_
 refine GH_start (Lq := [_, _]) (isq := [1, 0]) (m := 16) mixedK rfl rfl ?_
 first
   | refine GH_take 0 rfl rfl rfl rfl (by kernel_rfl) (by kernel_rfl) (by kernel_rfl) (fun _ _ => (V_loadW (s := 12) rfl rfl (mem_at 2 rfl) Try.underlying25 rfl infLawReplySame_25 rfl (by first | rfl | (simp [bcells_length, ltCells]; done) | (simp [bcells_length, ltCells]; omega) | (simp [bcells_length, *, ltCells]; done)))) ?_
   | refine GH_take 0 rfl rfl rfl rfl (by kernel_rfl) (by kernel_rfl) (by kernel_rfl) (fun _ _ => (V_loadA (s := 12) rfl rfl (mem_at 2 rfl) Try.underlying25 rfl infLawReplySame_25 rfl rfl (by first | rfl | (simp [bcells_length, ltCells]; done) | (simp [bcells_length, ltCells]; omega) | (simp [bcells_length, *, ltCells]; done)))) ?_
 first
   | refine GH_take 1 rfl rfl rfl rfl (by kernel_rfl) (by kernel_rfl) (by kernel_rfl) (fun _ _ => (V_loadW (s := 12) rfl rfl (mem_at 3 rfl) Try.underlying25 rfl infLawReplySame_25 rfl (by first | rfl | (simp [bcells_length, ltCells]; done) | (simp [bcells_length, ltCells]; omega) | (simp [bcells_length, *, ltCells]; done)))) ?_
   | refine GH_take 1 rfl rfl rfl rfl (by kernel_rfl) (by kernel_rfl) (by kernel_rfl) (fun _ _ => (V_loadA (s := 12) rfl rfl (mem_at 3 rfl) Try.underlying25 rfl infLawReplySame_25 rfl rfl (by first | rfl | (simp [bcells_length, ltCells]; done) | (simp [bcells_length, ltCells]; omega) | (simp [bcells_length, *, ltCells]; done)))) ?_
 first
   | refine GH_take 3 rfl rfl rfl rfl (by kernel_rfl) (by kernel_rfl) (by kernel_rfl) (fun _ _ => (V_loadW (s := 12) rfl rfl (mem_at 2 rfl) Try.underlying25 rfl infLawReplySame_25 rfl (by first | rfl | (simp [bcells_length, ltCells]; done) | (simp [bcells_length, ltCells]; omega) | (simp [bcells_length, *, ltCells]; done)))) ?_
   | refine GH_take 3 rfl rfl rfl rfl (by kernel_rfl) (by kernel_rfl) (by kernel_rfl) (fun _ _ => (V_loadA (s := 12) rfl rfl (mem_at 2 rfl) Try.underlying25 rfl infLawReplySame_25 rfl rfl (by first | rfl | (simp [bcells_length, ltCells]; done) | (simp [bcells_length, ltCells]; omega) | (simp [bcells_length, *, ltCells]; done)))) ?_
 first
   | refine GH_take 4 rfl rfl rfl rfl (by kernel_rfl) (by kernel_rfl) (by kernel_rfl) (fun _ _ => (V_loadW (s := 12) rfl rfl (mem_at 3 rfl) Try.underlying25 rfl infLawReplySame_25 rfl (by first | rfl | (simp [bcells_length, ltCells]; done) | (simp [bcells_length, ltCells]; omega) | (simp [bcells_length, *, ltCells]; done)))) ?_
   | refine GH_take 4 rfl rfl rfl rfl (by kernel_rfl) (by kernel_rfl) (by kernel_rfl) (fun _ _ => (V_loadA (s := 12) rfl rfl (mem_at 3 rfl) Try.underlying25 rfl infLawReplySame_25 rfl rfl (by first | rfl | (simp [bcells_length, ltCells]; done) | (simp [bcells_length, ltCells]; omega) | (simp [bcells_length, *, ltCells]; done)))) ?_
 refine GH_all [2] (by kernel_rfl) (by decide) ?_
 refine (And.intro ?_ trivial)
 · skip
   refine GHop_call (L2 := [_, _]) rfl rfl rfl rfl rfl rfl Try.call14 (rep_same _ _ _ _ _ _ _ _ _ (by assumption) (by assumption) _ _ _ _ _ _ _ (by assumption) (by assumption)) [] [0, 1] rfl rfl [1, 0] (by rintro v post ⟨rfl, rfl⟩; exact ⟨_, rfl⟩) ?_
   rintro v post ⟨rfl, rfl⟩
   show GH _ _ _ _ _ _ _ [_, _] _
   refine GH_all [5] (by kernel_rfl) (by decide) ?_
   refine (And.intro ?_ trivial)
   · skip
     refine GHop_call (L2 := [_, _]) rfl rfl rfl rfl rfl rfl Try.call15 (rrep_same _ _ _ _ _ _ _ _ _ (by assumption) (by assumption) _ _ _ _ _ _ _ (by assumption) (by assumption)) [] [0, 1] rfl rfl [1, 0] (by rintro v post ⟨rfl, rfl⟩; exact ⟨_, rfl⟩) ?_
     rintro v post ⟨rfl, rfl⟩
     show GH _ _ _ _ _ _ _ [_, _] _
     refine GH_take 6 rfl rfl rfl rfl (by kernel_rfl) (by kernel_rfl) (by kernel_rfl) (fun _ _ => (V_beql rfl Try.underlying4 rfl rfl)) ?_
     refine GH_take 7 rfl rfl rfl rfl (by kernel_rfl) (by kernel_rfl) (by kernel_rfl) (fun _ _ => (V_move rfl rfl)) ?_
     refine GH_splitD 23 rfl (fun hc3 => ?_) (fun hc3 => ?_)
     rotate_left
     · (first | (exact absurd rfl hc3) | (exact absurd (hc3.symm.trans (same_self _ _)) Bool.false_ne_true) | (exfalso; omega))
     first
       | refine GH_take 8 rfl rfl rfl rfl (by kernel_rfl) (by kernel_rfl) (by kernel_rfl) (fun _ _ => (V_loadW (s := 12) rfl rfl (mem_at 2 rfl) Try.underlying25 rfl infLawReplySame_25 rfl (by first | rfl | (simp [bcells_length, ltCells]; done) | (simp [bcells_length, ltCells]; omega) | (simp [bcells_length, *, ltCells]; done)))) ?_
       | refine GH_take 8 rfl rfl rfl rfl (by kernel_rfl) (by kernel_rfl) (by kernel_rfl) (fun _ _ => (V_loadA (s := 12) rfl rfl (mem_at 2 rfl) Try.underlying25 rfl infLawReplySame_25 rfl rfl (by first | rfl | (simp [bcells_length, ltCells]; done) | (simp [bcells_length, ltCells]; omega) | (simp [bcells_length, *, ltCells]; done)))) ?_
     first
       | refine GH_take 9 rfl rfl rfl rfl (by kernel_rfl) (by kernel_rfl) (by kernel_rfl) (fun _ _ => (V_loadW (s := 12) rfl rfl (mem_at 2 rfl) Try.underlying25 rfl infLawReplySame_25 rfl (by first | rfl | (simp [bcells_length, ltCells]; done) | (simp [bcells_length, ltCells]; omega) | (simp [bcells_length, *, ltCells]; done)))) ?_
       | refine GH_take 9 rfl rfl rfl rfl (by kernel_rfl) (by kernel_rfl) (by kernel_rfl) (fun _ _ => (V_loadA (s := 12) rfl rfl (mem_at 2 rfl) Try.underlying25 rfl infLawReplySame_25 rfl rfl (by first | rfl | (simp [bcells_length, ltCells]; done) | (simp [bcells_length, ltCells]; omega) | (simp [bcells_length, *, ltCells]; done)))) ?_
     refine GH_all [10] (by kernel_rfl) (by decide) ?_
     refine (And.intro ?_ trivial)
     · skip
       refine GHop_call (L2 := [_, _]) rfl rfl rfl rfl rfl rfl Try.call14 (rep_same r r _ _ _ _ _ _ ls h1 ok1 _ _ _ _ _ _ ls h1 ok1) [] [0, 0] rfl rfl [1, 0] (by rintro v post ⟨rfl, rfl⟩; exact ⟨_, rfl⟩) ?_
       rintro v post ⟨rfl, rfl⟩
       show GH _ _ _ _ _ _ _ [_, _] _
       refine GH_take 11 rfl rfl rfl rfl (by kernel_rfl) (by kernel_rfl) (by kernel_rfl) (fun _ _ => (V_pickT rfl rfl rfl)) ?_
       refine GH_take 12 rfl rfl rfl rfl (by kernel_rfl) (by kernel_rfl) (by kernel_rfl) (fun _ _ => (V_move rfl rfl)) ?_
       refine GH_split 28 rfl (fun hc4 => ?_) (fun hc4 => ?_)
       rotate_left
       · (first | (exact absurd rfl hc4) | (exact absurd (hc4.symm.trans (same_self _ _)) Bool.false_ne_true) | (exfalso; omega))
       refine GH_all [13] (by kernel_rfl) (by decide) ?_
       refine (And.intro ?_ trivial)
       · skip
         refine GHop_call (L2 := [_, _]) rfl rfl rfl rfl rfl rfl Try.call13 (rl_live) [] [] rfl rfl [1, 0] (by rintro v post ⟨rfl, rfl⟩; exact ⟨_, rfl⟩) ?_
         rintro v post ⟨rfl, rfl⟩
         show GH _ _ _ _ _ _ _ [_, _] _
         refine GH_take 14 rfl rfl rfl rfl (by kernel_rfl) (by kernel_rfl) (by kernel_rfl) (fun _ _ => (V_pickT rfl rfl rfl)) ?_
         refine GH_take 15 rfl rfl rfl rfl (by kernel_rfl) (by kernel_rfl) (by kernel_rfl) (fun _ _ => (V_assign rfl rfl)) ?_
         refine GH_done (by kernel_rfl) ?_
         refine G_ret (post := []) Try.func3 rfl (RVs_cons (RV_tmp rfl) RVs_nil) [] rfl ?_
         dsimp only [packed]
         exact ⟨rfl, rfl⟩


set_option maxRecDepth 100000 in
theorem replySame_walk : LawWalk 3 Try.f3 := lawwalk_reads (fun W base args hs hval => by
  rw [Try.params3] at hs hval
  obtain ⟨l⟩ := args
  match l, hs with
  | [a, b], _ =>
    obtain ⟨h0, h1⟩ := hval 0 25 a rfl rfl
    obtain ⟨h2, h3⟩ := hval 1 25 b rfl rfl
    obtain ⟨r, o1, p1, q1, c1, T1, f1, ls, rfl, hr, s1, ok1, m1⟩ := rp_of h0 h1
    obtain ⟨s, o2, p2, q2, c2, T2, f2, ms, rfl, hs, s2, ok2, m2⟩ := rp_of h2 h3
    exact ⟨_, has_cons (has_cons (has_nil _) m2) m1, replySame_all r s o1 p1 q1 c1 T1 f1 ls s1 ok1 o2 p2 q2 c2 T2 f2 ms s2 ok2⟩)


theorem replySame_holds : Rows.ReplySameSaid :=
  OpenClaim.holds_of_wide 3 Try.f3 rfl rfl rfl rfl rfl rfl rfl ⟨rfl, rfl, rfl, rfl, rfl⟩ rfl rfl rfl rfl rfl (by kernel_rfl) Try.func3 (by kernel_rfl)
    (of_decide_eq_true (by kernel_rfl)) (by unfold Func.isWrapper; rw [if_neg (by decide +kernel)]; exact ⟨rfl, rfl⟩)
    (fun os started H enc _ => law_lifted (s := Rows.replySameSpec) os started H enc Try.func3 (by kernel_rfl)
      (ChangeSpec.witness6 (enc := enc) (C := Try.checked) false ⟨#[], #[.agg #[.string ByteArray.empty, .int .i64 0, .int .i64 0, .int .i64 0, .int .i64 0, .int .i64 0, .int .i64 0, .int .i64 0, .int .i64 0, .int .i64 0, .string ByteArray.empty, .slice none 0 0], .agg #[.string ByteArray.empty, .int .i64 0, .int .i64 0, .int .i64 0, .int .i64 0, .int .i64 0, .int .i64 0, .int .i64 0, .int .i64 0, .int .i64 0, .string ByteArray.empty, .slice none 0 0]], []⟩ 8 (by kernel_rfl) (by kernel_rfl) (by kernel_rfl) (by kernel_rfl))
      rfl (by kernel_rfl) (by kernel_rfl) (by decide +kernel) (fun ds h => by match ds, h with | [_, _], _ => rfl) replySame_walk)
#print axioms replySame_holds

end
end Go.Proofs.Ytkidmbaakdaflaa
