/- The law ReplyEncodes: of any reply the program says as the document does whether it may be, and its bytes, or that there are none; these are read as the reply again; the call returns true and leaves its argument as it was. -/
import Derived.Test.YtkidmbaakdaflaaReplyL
import Derived.Test.YtkidmbaakdaflaaReplyR
import Derived.Test.YtkidmbaakdaflaaReplyQ
import Derived.Test.YtkidmbaakdaflaaLaw
set_option linter.unusedSimpArgs false
set_option linter.unusedVariables false
namespace Go.Proofs.Ytkidmbaakdaflaa
open Go.ChangeShapes Go.WideShapes Go.ChangeAt Go.RowKit

section
theorem infLawReplyEncodes_23 : Try.prog.info? 23 = some Try.t23 := by kernel_rfl
theorem infLawReplyEncodes_25 : Try.prog.info? 25 = some Try.t25 := by kernel_rfl


theorem encR_len {r : Rp} {ls : List Lt} (hm : mayR r ls = true) (hn : ∀ l ∈ ls, LtOk l) : (encR r ls).length ≤ 7000 := by
  obtain ⟨m1, m2, m3, m4, m5, m6⟩ := mayR_all hm
  have m3a := m3.1
  have m3b := m3.2
  have g1 := text_len r.to_ (by omega)
  have g2 := chainI_len r.code (by omega) (by omega)
  have g3 := encNums_len r.nums m4
  have g3b : r.nums.length = 8 := rfl
  have g4 := text_len r.cmd (by omega)
  have g5 := chainI_len (ls.length : Int) (by omega) (by omega)
  have g6 := flat_encL_len ls (fun l hl => (bigL (m6 l hl) (hn l hl).n).2.2)
  unfold encR encR0
  simp only [List.length_append]
  omega
theorem repT_yes {r : Rp} {ls : List Lt} (hm : mayR r ls = true) : repT r ls = .tuple #[.string (bs (encR r ls)), .int .i64 0] := by unfold repT; rw [if_pos hm]
theorem repT_no {r : Rp} {ls : List Lt} (hm : mayR r ls = false) : repT r ls = .tuple #[.string (bs []), .int .i64 1] := by unfold repT; rw [if_neg (by rw [hm]; exact Bool.false_ne_true)]
theorem dec_yes {r : Rp} {ls : List Lt} (hm : mayR r ls = true) (hn : ∀ l ∈ ls, LtOk l) : Ct Try.prog 21 [.string (bs (encR r ls))] [] [] (fun v post => ∃ u : Sl, Own 6 u (ls.flatMap ltCells) ls.length ∧ v = .tuple #[.agg (rpCells r (u.v ls.length)).toArray, .int .i64 0] ∧ post = [(u.ob, .cells u.cs 96 u.fz)]) := by
  have h := rep_decode (encR r ls) (by have := encR_len hm hn; omega)
  obtain ⟨d1, d2, d3⟩ := dec_enc r ls hm (fun l hl => (hn l hl).n)
  rw [d1, d2, d3] at h
  exact h

set_option maxRecDepth 100000 in
set_option maxHeartbeats 1000000 in
theorem replyEncodes_all (r : Rp) (o1 : Option Nat) (p1 q1 : Nat) (c1 : Array Value) (T1 : TypeId) (f1 : Nat × Nat) (ls : List Lt) (h1 : Sees 6 o1 p1 q1 c1 (ls.flatMap ltCells) ls.length) (ok1 : ∀ l ∈ ls, LtOk l) :
    Ct Try.prog 4 [(.agg (rpCells r (sv o1 p1 ls.length q1)).toArray)] [(o1, .cells c1 T1 f1)] [] fun v post => v = .bool true ∧ post = [] := by
 refine ct_of Try.func4 rfl rfl (fun w0 => ?_)
 show G _ _ [(0, _)] _ _
 refine G_seq ?_
 refine G_region (l := [0, 1]) rfl ?_
 refine G_new rfl rfl rfl rfl (N_boxA rfl rfl) (fun b1 => ?_)
 refine G_val rfl rfl rfl rfl (V_assign rfl rfl) ?_
 refine G_done ?_
 refine G_seq ?_
 refine G_seq ?_
 refine G_region (l := [0, 1, 2, 3]) rfl ?_
 refine G_val rfl rfl rfl rfl (V_fieldAddr (fo := 11) rfl Try.underlying25 rfl infLawReplyEncodes_23 rfl rfl rfl) ?_
 refine G_val rfl rfl rfl rfl (V_load1 rfl rfl (mem_at 1 rfl) rfl Try.underlying23 rfl) ?_
 refine G_val rfl rfl rfl rfl (V_len rfl rfl Try.underlying23 rfl) ?_
 refine G_val rfl rfl rfl rfl (V_gtr rfl rfl rfl) ?_
 refine G_done ?_
 refine G_ifD rfl (fun hc1 => ?_) (fun hc1 => ?_)
 · skip
   refine G_seq ?_
   refine G_region (l := [0, 1]) rfl ?_
   refine G_call (L2 := [_]) rfl rfl rfl rfl rfl rfl Try.call13 (rl_live) [] [] rfl rfl ?_
   rintro v post ⟨rfl, rfl⟩
   show G _ _ _ [_] _
   refine G_val rfl rfl rfl rfl (V_assign rfl rfl) ?_
   refine G_done ?_
   refine G_ret (post := []) Try.func4 rfl (RVs_cons (RV_tmp rfl) RVs_nil) [] rfl ?_
   dsimp only [packed]
   exact ⟨rfl, rfl⟩
 refine G_skip ?_
 refine G_seq ?_
 rcases hm : mayR r ls with _ | _
 · skip
   refine G_region (l := [0, 1, 2, 3, 4, 5, 6]) rfl ?_
   first
     | refine G_val rfl rfl rfl rfl (V_loadW (s := 12) rfl rfl (mem_at 1 rfl) Try.underlying25 rfl infLawReplyEncodes_25 rfl (by first | rfl | (simp [bcells_length, ltCells, ltCells, ltCells, rpCells, Sl.v]; done) | (simp [bcells_length, ltCells, ltCells, ltCells, rpCells, Sl.v]; omega) | (simp [bcells_length, *, ltCells, ltCells, ltCells, rpCells, Sl.v]; done))) ?_
     | refine G_val rfl rfl rfl rfl (V_loadA (s := 12) rfl rfl (mem_at 1 rfl) Try.underlying25 rfl infLawReplyEncodes_25 rfl rfl (by first | rfl | (simp [bcells_length, ltCells, ltCells, ltCells, rpCells, Sl.v]; done) | (simp [bcells_length, ltCells, ltCells, ltCells, rpCells, Sl.v]; omega) | (simp [bcells_length, *, ltCells, ltCells, ltCells, rpCells, Sl.v]; done))) ?_
   refine G_call (L2 := [_]) rfl rfl rfl rfl rfl rfl Try.call16 ((rep_encode _ _ _ _ _ _ _ _ h1 ok1).weaken (fun v post h => by rw [repT_no hm] at h; exact h)) [] [0] rfl rfl ?_
   rintro v post ⟨rfl, rfl⟩
   show G _ _ _ [_] _
   refine G_val rfl rfl rfl rfl (V_move rfl rfl) ?_
   refine G_val rfl rfl rfl rfl (V_extract rfl rfl rfl) ?_
   refine G_val rfl rfl rfl rfl (V_extract rfl rfl rfl) ?_
   refine G_val rfl rfl rfl rfl (V_assign rfl rfl) ?_
   refine G_val rfl rfl rfl rfl (V_assign rfl rfl) ?_
   refine G_done ?_
   refine G_seq ?_
   refine G_region (l := [0, 1, 2, 3, 4, 5, 6]) rfl ?_
   first
     | refine G_val rfl rfl rfl rfl (V_loadW (s := 12) rfl rfl (mem_at 1 rfl) Try.underlying25 rfl infLawReplyEncodes_25 rfl (by first | rfl | (simp [bcells_length, ltCells, ltCells, ltCells, rpCells, Sl.v]; done) | (simp [bcells_length, ltCells, ltCells, ltCells, rpCells, Sl.v]; omega) | (simp [bcells_length, *, ltCells, ltCells, ltCells, rpCells, Sl.v]; done))) ?_
     | refine G_val rfl rfl rfl rfl (V_loadA (s := 12) rfl rfl (mem_at 1 rfl) Try.underlying25 rfl infLawReplyEncodes_25 rfl rfl (by first | rfl | (simp [bcells_length, ltCells, ltCells, ltCells, rpCells, Sl.v]; done) | (simp [bcells_length, ltCells, ltCells, ltCells, rpCells, Sl.v]; omega) | (simp [bcells_length, *, ltCells, ltCells, ltCells, rpCells, Sl.v]; done))) ?_
   refine G_call (L2 := [_]) rfl rfl rfl rfl rfl rfl Try.call17 ((rr_encode _ _ _ _ _ _ _ _ h1 ok1).weaken (fun v post h => by rw [repT_no hm] at h; exact h)) [] [0] rfl rfl ?_
   rintro v post ⟨rfl, rfl⟩
   show G _ _ _ [_] _
   refine G_val rfl rfl rfl rfl (V_move rfl rfl) ?_
   refine G_val rfl rfl rfl rfl (V_extract rfl rfl rfl) ?_
   refine G_val rfl rfl rfl rfl (V_extract rfl rfl rfl) ?_
   refine G_val rfl rfl rfl rfl (V_assign rfl rfl) ?_
   refine G_val rfl rfl rfl rfl (V_assign rfl rfl) ?_
   refine G_done ?_
   refine G_seq ?_
   refine G_seq ?_
   refine GH_start (Lq := [_]) (isq := [0]) (m := 16) mixedK rfl rfl ?_
   refine GH_take 0 rfl rfl rfl rfl (by kernel_rfl) (by kernel_rfl) (by kernel_rfl) (fun _ _ => (V_move rfl rfl)) ?_
   refine GH_take 1 rfl rfl rfl rfl (by kernel_rfl) (by kernel_rfl) (by kernel_rfl) (fun _ _ => (V_move rfl rfl)) ?_
   refine GH_take 2 rfl rfl rfl rfl (by kernel_rfl) (by kernel_rfl) (by kernel_rfl) (fun _ _ => (V_sneq rfl rfl rfl)) ?_
   refine GH_take 3 rfl rfl rfl rfl (by kernel_rfl) (by kernel_rfl) (by kernel_rfl) (fun _ _ => (V_move rfl rfl)) ?_
   refine GH_splitD 27 rfl (fun hc2 => ?_) (fun hc2 => ?_)
   · (first | (exact absurd rfl hc2) | (exact absurd (hc2.symm.trans (same_self _ _)) Bool.false_ne_true) | (exfalso; omega))
   refine GH_take 4 rfl rfl rfl rfl (by kernel_rfl) (by kernel_rfl) (by kernel_rfl) (fun _ _ => (V_move rfl rfl)) ?_
   refine GH_take 6 rfl rfl rfl rfl (by kernel_rfl) (by kernel_rfl) (by kernel_rfl) (fun _ _ => (V_move rfl rfl)) ?_
   refine GH_all [5] (by kernel_rfl) (by decide) ?_
   refine (And.intro ?_ trivial)
   · skip
     refine GHop_call (L2 := [_]) rfl rfl rfl rfl rfl rfl Try.call18 (rl_num _) [] [] rfl rfl [0] (by rintro v post ⟨rfl, rfl⟩; exact ⟨_, rfl⟩) ?_
     rintro v post ⟨rfl, rfl⟩
     show GH _ _ _ _ _ _ _ [_] _
     refine GH_take 7 rfl rfl rfl rfl (by kernel_rfl) (by kernel_rfl) (by kernel_rfl) (fun _ _ => (V_neq rfl rfl rfl)) ?_
     refine GH_take 8 rfl rfl rfl rfl (by kernel_rfl) (by kernel_rfl) (by kernel_rfl) (fun _ _ => (V_pickF rfl rfl rfl)) ?_
     refine GH_take 9 rfl rfl rfl rfl (by kernel_rfl) (by kernel_rfl) (by kernel_rfl) (fun _ _ => (V_move rfl rfl)) ?_
     refine GH_splitD 33 rfl (fun hc3 => ?_) (fun hc3 => ?_)
     · (first | (exact absurd rfl hc3) | (exact absurd (hc3.symm.trans (same_self _ _)) Bool.false_ne_true) | (exfalso; omega))
     first
       | refine GH_take 10 rfl rfl rfl rfl (by kernel_rfl) (by kernel_rfl) (by kernel_rfl) (fun _ _ => (V_loadW (s := 12) rfl rfl (mem_at 1 rfl) Try.underlying25 rfl infLawReplyEncodes_25 rfl (by first | rfl | (simp [bcells_length, ltCells, ltCells, ltCells, rpCells, Sl.v]; done) | (simp [bcells_length, ltCells, ltCells, ltCells, rpCells, Sl.v]; omega) | (simp [bcells_length, *, ltCells, ltCells, ltCells, rpCells, Sl.v]; done)))) ?_
       | refine GH_take 10 rfl rfl rfl rfl (by kernel_rfl) (by kernel_rfl) (by kernel_rfl) (fun _ _ => (V_loadA (s := 12) rfl rfl (mem_at 1 rfl) Try.underlying25 rfl infLawReplyEncodes_25 rfl rfl (by first | rfl | (simp [bcells_length, ltCells, ltCells, ltCells, rpCells, Sl.v]; done) | (simp [bcells_length, ltCells, ltCells, ltCells, rpCells, Sl.v]; omega) | (simp [bcells_length, *, ltCells, ltCells, ltCells, rpCells, Sl.v]; done)))) ?_
     first
       | refine GH_take 12 rfl rfl rfl rfl (by kernel_rfl) (by kernel_rfl) (by kernel_rfl) (fun _ _ => (V_loadW (s := 12) rfl rfl (mem_at 1 rfl) Try.underlying25 rfl infLawReplyEncodes_25 rfl (by first | rfl | (simp [bcells_length, ltCells, ltCells, ltCells, rpCells, Sl.v]; done) | (simp [bcells_length, ltCells, ltCells, ltCells, rpCells, Sl.v]; omega) | (simp [bcells_length, *, ltCells, ltCells, ltCells, rpCells, Sl.v]; done)))) ?_
       | refine GH_take 12 rfl rfl rfl rfl (by kernel_rfl) (by kernel_rfl) (by kernel_rfl) (fun _ _ => (V_loadA (s := 12) rfl rfl (mem_at 1 rfl) Try.underlying25 rfl infLawReplyEncodes_25 rfl rfl (by first | rfl | (simp [bcells_length, ltCells, ltCells, ltCells, rpCells, Sl.v]; done) | (simp [bcells_length, ltCells, ltCells, ltCells, rpCells, Sl.v]; omega) | (simp [bcells_length, *, ltCells, ltCells, ltCells, rpCells, Sl.v]; done)))) ?_
     refine GH_all [11] (by kernel_rfl) (by decide) ?_
     refine (And.intro ?_ trivial)
     · skip
       refine GHop_call (L2 := [_]) rfl rfl rfl rfl rfl rfl Try.call19 (rep_may _ _ _ _ _ _ _ _ (by assumption)) [] [0] rfl rfl [0] (by rintro v post ⟨rfl, rfl⟩; exact ⟨_, rfl⟩) ?_
       rintro v post ⟨rfl, rfl⟩
       show GH _ _ _ _ _ _ _ [_] _
       refine GH_all [13] (by kernel_rfl) (by decide) ?_
       refine (And.intro ?_ trivial)
       · skip
         refine GHop_call (L2 := [_]) rfl rfl rfl rfl rfl rfl Try.call20 (rr_may _ _ _ _ _ _ _ _ (by assumption)) [] [0] rfl rfl [0] (by rintro v post ⟨rfl, rfl⟩; exact ⟨_, rfl⟩) ?_
         rintro v post ⟨rfl, rfl⟩
         show GH _ _ _ _ _ _ _ [_] _
         refine GH_take 14 rfl rfl rfl rfl (by kernel_rfl) (by kernel_rfl) (by kernel_rfl) (fun _ _ => (V_bneq rfl Try.underlying4 rfl rfl)) ?_
         refine GH_take 15 rfl rfl rfl rfl (by kernel_rfl) (by kernel_rfl) (by kernel_rfl) (fun _ _ => (V_pickF rfl rfl rfl)) ?_
         refine GH_done (by kernel_rfl) ?_
         refine G_ifD rfl (fun hc4 => ?_) (fun hc4 => ?_)
         · (first | (exact absurd rfl hc4) | (exact absurd (hc4.symm.trans (same_self _ _)) Bool.false_ne_true) | (exfalso; omega))
         refine G_skip ?_
         refine G_seq ?_
         refine G_region (l := [0, 1, 2, 3, 4, 5, 6, 7]) rfl ?_
         refine G_val rfl rfl rfl rfl (V_move rfl rfl) ?_
         refine G_call (L2 := [_]) rfl rfl rfl rfl rfl rfl Try.call21 (rep_decode [] (by simp)) [] [] rfl rfl ?_
         rintro v post ⟨u1, hu1, rfl, rfl⟩
         show G _ _ _ [_, _] _
         refine G_val rfl rfl rfl rfl (V_move rfl rfl) ?_
         refine G_val rfl rfl rfl rfl (V_extract rfl rfl rfl) ?_
         refine G_val rfl rfl rfl rfl (V_extract rfl rfl rfl) ?_
         refine G_new rfl rfl rfl rfl (N_allocA rfl infLawReplyEncodes_25 rfl) (fun b7 => ?_)
         refine G_put (l1 := []) (L' := [_, _, _]) rfl rfl rfl rfl (P_storeA (s := 12) rfl rfl rfl (mem_at 0 rfl) (by first | rfl | (simp [bcells_length, ltCells, ltCells, ltCells, rpCells, Sl.v]; done) | (simp [bcells_length, ltCells, ltCells, ltCells, rpCells, Sl.v]; omega) | (simp [bcells_length, *, ltCells, ltCells, ltCells, rpCells, Sl.v]; done)) infLawReplyEncodes_25 rfl (by first | rfl | (simp [bcells_length, ltCells, ltCells, ltCells, rpCells, Sl.v]; done) | (simp [bcells_length, ltCells, ltCells, ltCells, rpCells, Sl.v]; omega) | (simp [bcells_length, *, ltCells, ltCells, ltCells, rpCells, Sl.v]; done)) (by first | rfl | exact bcells_all _ | (simp [Value.oneCell', ltCells, ltCells, ltCells, rpCells, Sl.v]; done) | (simp [Value.oneCell', *, ltCells, ltCells, ltCells, rpCells, Sl.v]; done))) rfl ?_
         refine G_val rfl rfl rfl rfl (V_assign rfl rfl) ?_
         refine G_done ?_
         refine G_seq ?_
         refine G_region (l := [0, 1, 2, 3, 4, 5, 6, 7, 8, 9, 10, 11, 12, 13, 14, 15]) rfl ?_
         refine G_val rfl rfl rfl rfl (V_move rfl rfl) ?_
         refine G_val rfl rfl rfl rfl (V_neq rfl rfl rfl) ?_
         refine G_val rfl rfl rfl rfl (V_move rfl rfl) ?_
         refine G_splitD 47 rfl (fun hc5 => ?_) (fun hc5 => ?_)
         rotate_left
         · (first | (exact absurd rfl hc5) | (exact absurd (hc5.symm.trans (same_self _ _)) Bool.false_ne_true) | (exfalso; omega))
         refine G_off rfl rfl rfl rfl ?_
         refine G_off rfl rfl rfl rfl ?_
         refine G_off rfl rfl rfl rfl ?_
         refine G_off rfl rfl rfl rfl ?_
         refine G_off rfl rfl rfl rfl ?_
         refine G_off rfl rfl rfl rfl ?_
         refine G_off rfl rfl rfl rfl ?_
         refine G_off rfl rfl rfl rfl ?_
         refine G_val rfl rfl rfl rfl (V_pickT rfl rfl rfl) ?_
         refine G_val rfl rfl rfl rfl (V_move rfl rfl) ?_
         refine G_call (L2 := [_, _, _]) rfl rfl rfl rfl rfl rfl Try.call13 (rl_live) [] [] rfl rfl ?_
         rintro v post ⟨rfl, rfl⟩
         show G _ _ _ [_, _, _] _
         refine G_val rfl rfl rfl rfl (V_pickT rfl rfl rfl) ?_
         refine G_val rfl rfl rfl rfl (V_assign rfl rfl) ?_
         refine G_done ?_
         refine G_ret (post := []) Try.func4 rfl (RVs_cons (RV_tmp rfl) RVs_nil) [] rfl ?_
         dsimp only [packed]
         exact ⟨rfl, rfl⟩
 · skip
   refine G_region (l := [0, 1, 2, 3, 4, 5, 6]) rfl ?_
   first
     | refine G_val rfl rfl rfl rfl (V_loadW (s := 12) rfl rfl (mem_at 1 rfl) Try.underlying25 rfl infLawReplyEncodes_25 rfl (by first | rfl | (simp [bcells_length, ltCells, ltCells, ltCells, rpCells, Sl.v]; done) | (simp [bcells_length, ltCells, ltCells, ltCells, rpCells, Sl.v]; omega) | (simp [bcells_length, *, ltCells, ltCells, ltCells, rpCells, Sl.v]; done))) ?_
     | refine G_val rfl rfl rfl rfl (V_loadA (s := 12) rfl rfl (mem_at 1 rfl) Try.underlying25 rfl infLawReplyEncodes_25 rfl rfl (by first | rfl | (simp [bcells_length, ltCells, ltCells, ltCells, rpCells, Sl.v]; done) | (simp [bcells_length, ltCells, ltCells, ltCells, rpCells, Sl.v]; omega) | (simp [bcells_length, *, ltCells, ltCells, ltCells, rpCells, Sl.v]; done))) ?_
   refine G_call (L2 := [_]) rfl rfl rfl rfl rfl rfl Try.call16 ((rep_encode _ _ _ _ _ _ _ _ h1 ok1).weaken (fun v post h => by rw [repT_yes hm] at h; exact h)) [] [0] rfl rfl ?_
   rintro v post ⟨rfl, rfl⟩
   show G _ _ _ [_] _
   refine G_val rfl rfl rfl rfl (V_move rfl rfl) ?_
   refine G_val rfl rfl rfl rfl (V_extract rfl rfl rfl) ?_
   refine G_val rfl rfl rfl rfl (V_extract rfl rfl rfl) ?_
   refine G_val rfl rfl rfl rfl (V_assign rfl rfl) ?_
   refine G_val rfl rfl rfl rfl (V_assign rfl rfl) ?_
   refine G_done ?_
   refine G_seq ?_
   refine G_region (l := [0, 1, 2, 3, 4, 5, 6]) rfl ?_
   first
     | refine G_val rfl rfl rfl rfl (V_loadW (s := 12) rfl rfl (mem_at 1 rfl) Try.underlying25 rfl infLawReplyEncodes_25 rfl (by first | rfl | (simp [bcells_length, ltCells, ltCells, ltCells, rpCells, Sl.v]; done) | (simp [bcells_length, ltCells, ltCells, ltCells, rpCells, Sl.v]; omega) | (simp [bcells_length, *, ltCells, ltCells, ltCells, rpCells, Sl.v]; done))) ?_
     | refine G_val rfl rfl rfl rfl (V_loadA (s := 12) rfl rfl (mem_at 1 rfl) Try.underlying25 rfl infLawReplyEncodes_25 rfl rfl (by first | rfl | (simp [bcells_length, ltCells, ltCells, ltCells, rpCells, Sl.v]; done) | (simp [bcells_length, ltCells, ltCells, ltCells, rpCells, Sl.v]; omega) | (simp [bcells_length, *, ltCells, ltCells, ltCells, rpCells, Sl.v]; done))) ?_
   refine G_call (L2 := [_]) rfl rfl rfl rfl rfl rfl Try.call17 ((rr_encode _ _ _ _ _ _ _ _ h1 ok1).weaken (fun v post h => by rw [repT_yes hm] at h; exact h)) [] [0] rfl rfl ?_
   rintro v post ⟨rfl, rfl⟩
   show G _ _ _ [_] _
   refine G_val rfl rfl rfl rfl (V_move rfl rfl) ?_
   refine G_val rfl rfl rfl rfl (V_extract rfl rfl rfl) ?_
   refine G_val rfl rfl rfl rfl (V_extract rfl rfl rfl) ?_
   refine G_val rfl rfl rfl rfl (V_assign rfl rfl) ?_
   refine G_val rfl rfl rfl rfl (V_assign rfl rfl) ?_
   refine G_done ?_
   refine G_seq ?_
   refine G_seq ?_
   refine GH_start (Lq := [_]) (isq := [0]) (m := 16) mixedK rfl rfl ?_
   refine GH_take 0 rfl rfl rfl rfl (by kernel_rfl) (by kernel_rfl) (by kernel_rfl) (fun _ _ => (V_move rfl rfl)) ?_
   refine GH_take 1 rfl rfl rfl rfl (by kernel_rfl) (by kernel_rfl) (by kernel_rfl) (fun _ _ => (V_move rfl rfl)) ?_
   refine GH_take 2 rfl rfl rfl rfl (by kernel_rfl) (by kernel_rfl) (by kernel_rfl) (fun _ _ => (V_sneq rfl rfl rfl)) ?_
   refine GH_take 3 rfl rfl rfl rfl (by kernel_rfl) (by kernel_rfl) (by kernel_rfl) (fun _ _ => (V_move rfl rfl)) ?_
   refine GH_splitD 27 rfl (fun hc2 => ?_) (fun hc2 => ?_)
   · (first | (exact absurd rfl hc2) | (exact absurd (hc2.symm.trans (same_self _ _)) Bool.false_ne_true) | (exfalso; omega))
   refine GH_take 4 rfl rfl rfl rfl (by kernel_rfl) (by kernel_rfl) (by kernel_rfl) (fun _ _ => (V_move rfl rfl)) ?_
   refine GH_take 6 rfl rfl rfl rfl (by kernel_rfl) (by kernel_rfl) (by kernel_rfl) (fun _ _ => (V_move rfl rfl)) ?_
   refine GH_all [5] (by kernel_rfl) (by decide) ?_
   refine (And.intro ?_ trivial)
   · skip
     refine GHop_call (L2 := [_]) rfl rfl rfl rfl rfl rfl Try.call18 (rl_num _) [] [] rfl rfl [0] (by rintro v post ⟨rfl, rfl⟩; exact ⟨_, rfl⟩) ?_
     rintro v post ⟨rfl, rfl⟩
     show GH _ _ _ _ _ _ _ [_] _
     refine GH_take 7 rfl rfl rfl rfl (by kernel_rfl) (by kernel_rfl) (by kernel_rfl) (fun _ _ => (V_neq rfl rfl rfl)) ?_
     refine GH_take 8 rfl rfl rfl rfl (by kernel_rfl) (by kernel_rfl) (by kernel_rfl) (fun _ _ => (V_pickF rfl rfl rfl)) ?_
     refine GH_take 9 rfl rfl rfl rfl (by kernel_rfl) (by kernel_rfl) (by kernel_rfl) (fun _ _ => (V_move rfl rfl)) ?_
     refine GH_splitD 33 rfl (fun hc3 => ?_) (fun hc3 => ?_)
     · (first | (exact absurd rfl hc3) | (exact absurd (hc3.symm.trans (same_self _ _)) Bool.false_ne_true) | (exfalso; omega))
     first
       | refine GH_take 10 rfl rfl rfl rfl (by kernel_rfl) (by kernel_rfl) (by kernel_rfl) (fun _ _ => (V_loadW (s := 12) rfl rfl (mem_at 1 rfl) Try.underlying25 rfl infLawReplyEncodes_25 rfl (by first | rfl | (simp [bcells_length, ltCells, ltCells, ltCells, rpCells, Sl.v]; done) | (simp [bcells_length, ltCells, ltCells, ltCells, rpCells, Sl.v]; omega) | (simp [bcells_length, *, ltCells, ltCells, ltCells, rpCells, Sl.v]; done)))) ?_
       | refine GH_take 10 rfl rfl rfl rfl (by kernel_rfl) (by kernel_rfl) (by kernel_rfl) (fun _ _ => (V_loadA (s := 12) rfl rfl (mem_at 1 rfl) Try.underlying25 rfl infLawReplyEncodes_25 rfl rfl (by first | rfl | (simp [bcells_length, ltCells, ltCells, ltCells, rpCells, Sl.v]; done) | (simp [bcells_length, ltCells, ltCells, ltCells, rpCells, Sl.v]; omega) | (simp [bcells_length, *, ltCells, ltCells, ltCells, rpCells, Sl.v]; done)))) ?_
     first
       | refine GH_take 12 rfl rfl rfl rfl (by kernel_rfl) (by kernel_rfl) (by kernel_rfl) (fun _ _ => (V_loadW (s := 12) rfl rfl (mem_at 1 rfl) Try.underlying25 rfl infLawReplyEncodes_25 rfl (by first | rfl | (simp [bcells_length, ltCells, ltCells, ltCells, rpCells, Sl.v]; done) | (simp [bcells_length, ltCells, ltCells, ltCells, rpCells, Sl.v]; omega) | (simp [bcells_length, *, ltCells, ltCells, ltCells, rpCells, Sl.v]; done)))) ?_
       | refine GH_take 12 rfl rfl rfl rfl (by kernel_rfl) (by kernel_rfl) (by kernel_rfl) (fun _ _ => (V_loadA (s := 12) rfl rfl (mem_at 1 rfl) Try.underlying25 rfl infLawReplyEncodes_25 rfl rfl (by first | rfl | (simp [bcells_length, ltCells, ltCells, ltCells, rpCells, Sl.v]; done) | (simp [bcells_length, ltCells, ltCells, ltCells, rpCells, Sl.v]; omega) | (simp [bcells_length, *, ltCells, ltCells, ltCells, rpCells, Sl.v]; done)))) ?_
     refine GH_all [11] (by kernel_rfl) (by decide) ?_
     refine (And.intro ?_ trivial)
     · skip
       refine GHop_call (L2 := [_]) rfl rfl rfl rfl rfl rfl Try.call19 (rep_may _ _ _ _ _ _ _ _ (by assumption)) [] [0] rfl rfl [0] (by rintro v post ⟨rfl, rfl⟩; exact ⟨_, rfl⟩) ?_
       rintro v post ⟨rfl, rfl⟩
       show GH _ _ _ _ _ _ _ [_] _
       refine GH_all [13] (by kernel_rfl) (by decide) ?_
       refine (And.intro ?_ trivial)
       · skip
         refine GHop_call (L2 := [_]) rfl rfl rfl rfl rfl rfl Try.call20 (rr_may _ _ _ _ _ _ _ _ (by assumption)) [] [0] rfl rfl [0] (by rintro v post ⟨rfl, rfl⟩; exact ⟨_, rfl⟩) ?_
         rintro v post ⟨rfl, rfl⟩
         show GH _ _ _ _ _ _ _ [_] _
         refine GH_take 14 rfl rfl rfl rfl (by kernel_rfl) (by kernel_rfl) (by kernel_rfl) (fun _ _ => (V_bneq rfl Try.underlying4 rfl rfl)) ?_
         refine GH_take 15 rfl rfl rfl rfl (by kernel_rfl) (by kernel_rfl) (by kernel_rfl) (fun _ _ => (V_pickF rfl rfl rfl)) ?_
         refine GH_done (by kernel_rfl) ?_
         refine G_ifD rfl (fun hc4 => ?_) (fun hc4 => ?_)
         · (first | (exact absurd rfl hc4) | (exact absurd (hc4.symm.trans (same_self _ _)) Bool.false_ne_true) | (exfalso; omega))
         refine G_skip ?_
         refine G_seq ?_
         refine G_region (l := [0, 1, 2, 3, 4, 5, 6, 7]) rfl ?_
         refine G_val rfl rfl rfl rfl (V_move rfl rfl) ?_
         refine G_call (L2 := [_]) rfl rfl rfl rfl rfl rfl Try.call21 (dec_yes hm ok1) [] [] rfl rfl ?_
         rintro v post ⟨u1, hu1, rfl, rfl⟩
         show G _ _ _ [_, _] _
         refine G_val rfl rfl rfl rfl (V_move rfl rfl) ?_
         refine G_val rfl rfl rfl rfl (V_extract rfl rfl rfl) ?_
         refine G_val rfl rfl rfl rfl (V_extract rfl rfl rfl) ?_
         refine G_new rfl rfl rfl rfl (N_allocA rfl infLawReplyEncodes_25 rfl) (fun b7 => ?_)
         refine G_put (l1 := []) (L' := [_, _, _]) rfl rfl rfl rfl (P_storeA (s := 12) rfl rfl rfl (mem_at 0 rfl) (by first | rfl | (simp [bcells_length, ltCells, ltCells, ltCells, rpCells, Sl.v]; done) | (simp [bcells_length, ltCells, ltCells, ltCells, rpCells, Sl.v]; omega) | (simp [bcells_length, *, ltCells, ltCells, ltCells, rpCells, Sl.v]; done)) infLawReplyEncodes_25 rfl (by first | rfl | (simp [bcells_length, ltCells, ltCells, ltCells, rpCells, Sl.v]; done) | (simp [bcells_length, ltCells, ltCells, ltCells, rpCells, Sl.v]; omega) | (simp [bcells_length, *, ltCells, ltCells, ltCells, rpCells, Sl.v]; done)) (by first | rfl | exact bcells_all _ | (simp [Value.oneCell', ltCells, ltCells, ltCells, rpCells, Sl.v]; done) | (simp [Value.oneCell', *, ltCells, ltCells, ltCells, rpCells, Sl.v]; done))) rfl ?_
         refine G_val rfl rfl rfl rfl (V_assign rfl rfl) ?_
         refine G_done ?_
         refine G_seq ?_
         refine G_region (l := [0, 1, 2, 3, 4, 5, 6, 7, 8, 9, 10, 11, 12, 13, 14, 15]) rfl ?_
         refine G_val rfl rfl rfl rfl (V_move rfl rfl) ?_
         refine G_val rfl rfl rfl rfl (V_neq rfl rfl rfl) ?_
         refine G_val rfl rfl rfl rfl (V_move rfl rfl) ?_
         refine G_splitD 47 rfl (fun hc5 => ?_) (fun hc5 => ?_)
         · (first | (exact absurd rfl hc5) | (exact absurd (hc5.symm.trans (same_self _ _)) Bool.false_ne_true) | (exfalso; omega))
         first
           | refine G_val rfl rfl rfl rfl (V_loadW (s := 12) rfl rfl (mem_at 1 rfl) Try.underlying25 rfl infLawReplyEncodes_25 rfl (by first | rfl | (simp [bcells_length, ltCells, ltCells, ltCells, rpCells, Sl.v]; done) | (simp [bcells_length, ltCells, ltCells, ltCells, rpCells, Sl.v]; omega) | (simp [bcells_length, *, ltCells, ltCells, ltCells, rpCells, Sl.v]; done))) ?_
           | refine G_val rfl rfl rfl rfl (V_loadA (s := 12) rfl rfl (mem_at 1 rfl) Try.underlying25 rfl infLawReplyEncodes_25 rfl rfl (by first | rfl | (simp [bcells_length, ltCells, ltCells, ltCells, rpCells, Sl.v]; done) | (simp [bcells_length, ltCells, ltCells, ltCells, rpCells, Sl.v]; omega) | (simp [bcells_length, *, ltCells, ltCells, ltCells, rpCells, Sl.v]; done))) ?_
         first
           | refine G_val rfl rfl rfl rfl (V_loadW (s := 12) rfl rfl (mem_at 3 rfl) Try.underlying25 rfl infLawReplyEncodes_25 rfl (by first | rfl | (simp [bcells_length, ltCells, ltCells, ltCells, rpCells, Sl.v]; done) | (simp [bcells_length, ltCells, ltCells, ltCells, rpCells, Sl.v]; omega) | (simp [bcells_length, *, ltCells, ltCells, ltCells, rpCells, Sl.v]; done))) ?_
           | refine G_val rfl rfl rfl rfl (V_loadA (s := 12) rfl rfl (mem_at 3 rfl) Try.underlying25 rfl infLawReplyEncodes_25 rfl rfl (by first | rfl | (simp [bcells_length, ltCells, ltCells, ltCells, rpCells, Sl.v]; done) | (simp [bcells_length, ltCells, ltCells, ltCells, rpCells, Sl.v]; omega) | (simp [bcells_length, *, ltCells, ltCells, ltCells, rpCells, Sl.v]; done))) ?_
         refine G_call (L2 := [_, _, _]) rfl rfl rfl rfl rfl rfl Try.call15 (rrep_same r r _ _ _ _ _ _ ls hu1.sees ok1 _ _ _ _ _ _ ls h1 ok1) [] [2, 0] rfl rfl ?_
         rintro v post ⟨rfl, rfl⟩
         show G _ _ _ [_, _, _] _
         refine G_val rfl rfl rfl rfl (V_move rfl rfl) ?_
         refine G_split 51 rfl (fun hc6 => ?_) (fun hc6 => ?_)
         rotate_left
         · (first | (exact absurd rfl hc6) | (exact absurd (hc6.symm.trans (same_self _ _)) Bool.false_ne_true) | (exfalso; omega))
         refine G_val rfl rfl rfl rfl (V_move rfl rfl) ?_
         refine G_call (L2 := [_, _, _]) rfl rfl rfl rfl rfl rfl Try.call18 (rl_num _) [] [] rfl rfl ?_
         rintro v post ⟨rfl, rfl⟩
         show G _ _ _ [_, _, _] _
         refine G_val rfl rfl rfl rfl (V_eql rfl rfl rfl) ?_
         refine G_val rfl rfl rfl rfl (V_pickT rfl rfl rfl) ?_
         refine G_val rfl rfl rfl rfl (V_pickF rfl rfl rfl) ?_
         refine G_val rfl rfl rfl rfl (V_move rfl rfl) ?_
         refine G_splitD 57 rfl (fun hc7 => ?_) (fun hc7 => ?_)
         rotate_left
         · (first | (exact absurd rfl hc7) | (exact absurd (hc7.symm.trans (same_self _ _)) Bool.false_ne_true) | (exfalso; omega))
         refine G_call (L2 := [_, _, _]) rfl rfl rfl rfl rfl rfl Try.call13 (rl_live) [] [] rfl rfl ?_
         rintro v post ⟨rfl, rfl⟩
         show G _ _ _ [_, _, _] _
         refine G_val rfl rfl rfl rfl (V_pickT rfl rfl rfl) ?_
         refine G_val rfl rfl rfl rfl (V_assign rfl rfl) ?_
         refine G_done ?_
         refine G_ret (post := []) Try.func4 rfl (RVs_cons (RV_tmp rfl) RVs_nil) [] rfl ?_
         dsimp only [packed]
         exact ⟨rfl, rfl⟩


set_option maxRecDepth 100000 in
theorem replyEncodes_walk : LawWalk 4 Try.f4 := lawwalk_reads (fun W base args hs hval => by
  rw [Try.params4] at hs hval
  obtain ⟨l⟩ := args
  match l, hs with
  | [a], _ =>
    obtain ⟨h0, h1⟩ := hval 0 25 a rfl rfl
    obtain ⟨r, o1, p1, q1, c1, T1, f1, ls, rfl, hr, s1, ok1, m1⟩ := rp_of h0 h1
    exact ⟨_, has_cons (has_nil _) m1, replyEncodes_all r o1 p1 q1 c1 T1 f1 ls s1 ok1⟩)


theorem replyEncodes_holds : Rows.ReplyEncodesSaid :=
  OpenClaim.holds_of_wide 4 Try.f4 rfl rfl rfl rfl rfl rfl rfl ⟨rfl, rfl, rfl, rfl, rfl⟩ rfl rfl rfl rfl rfl (by kernel_rfl) Try.func4 (by kernel_rfl)
    (of_decide_eq_true (by kernel_rfl)) (by unfold Func.isWrapper; rw [if_neg (by decide +kernel)]; exact ⟨rfl, rfl⟩)
    (fun os started H enc _ => law_lifted (s := Rows.replyEncodesSpec) os started H enc Try.func4 (by kernel_rfl)
      (ChangeSpec.witness6 (enc := enc) (C := Try.checked) false ⟨#[], #[.agg #[.string ByteArray.empty, .int .i64 0, .int .i64 0, .int .i64 0, .int .i64 0, .int .i64 0, .int .i64 0, .int .i64 0, .int .i64 0, .int .i64 0, .string ByteArray.empty, .slice none 0 0]], []⟩ 8 (by kernel_rfl) (by kernel_rfl) (by kernel_rfl) (by kernel_rfl))
      rfl (by kernel_rfl) (by kernel_rfl) (by decide +kernel) (fun ds h => by match ds, h with | [_], _ => rfl) replyEncodes_walk)
#print axioms replyEncodes_holds

end
end Go.Proofs.Ytkidmbaakdaflaa
