/- The law SuperCodes: of any super the program says as the document does whether it may be, and its block, and its place; of any bytes which super they are, or that they are none's; the call returns true and leaves its arguments as they were. -/
import Derived.Test.YtkidmbaakdaflaaSuperL
import Derived.Test.YtkidmbaakdaflaaLaw
set_option linter.unusedSimpArgs false
set_option linter.unusedVariables false
namespace Go.Proofs.Ytkidmbaakdaflaa
open Go.ChangeShapes Go.WideShapes Go.ChangeAt Go.RowKit

section
theorem infLawSuperCodes_73 : Try.prog.info? 73 = some Try.t73 := by kernel_rfl
theorem infLawSuperCodes_75 : Try.prog.info? 75 = some Try.t75 := by kernel_rfl


theorem decT_back {s : Sp} (hs : SpOk s) (h : MayS s) : decT (encS s) = .tuple #[.agg (spCells s).toArray, .bool true] := by
  obtain ⟨h1, h2⟩ := dec_enc hs h
  unfold decT; rw [h2, decide_eq_true h1]
attribute [local irreducible] decS isS encS

set_option maxRecDepth 100000 in
set_option maxHeartbeats 1000000 in
theorem superCodes_all (s : Sp) (hs : SpOk s) (b : List UInt8) (hb : b.length ≤ 9223372036854775807) :
    Ct Try.prog 10 [.agg (spCells s).toArray, .string (bs b)] [] [] fun v post => v = .bool true ∧ post = [] := by
 have hq := hs.q1
 have hdk := decS_ok b
 have hdq := hdk.q1
 refine ct_of Try.func10 rfl rfl (fun w0 => ?_)
 show G _ _ [(0, _), (1, _)] _ _
 refine G_seq ?_
 refine G_region (l := [0, 1]) rfl ?_
 refine G_new rfl rfl rfl rfl (N_boxA rfl rfl) (fun b2 => ?_)
 refine G_val rfl rfl rfl rfl (V_assign rfl rfl) ?_
 refine G_done ?_
 refine G_seq ?_
 refine G_seq ?_
 refine G_region (l := [0, 1, 2]) rfl ?_
 refine G_val rfl rfl rfl rfl (V_move rfl rfl) ?_
 refine G_val rfl rfl rfl rfl (V_slen rfl rfl Try.underlying9 rfl) ?_
 refine G_val rfl rfl rfl rfl (V_gtr rfl rfl rfl) ?_
 refine G_done ?_
 refine G_ifD rfl (fun hc1 => ?_) (fun hc1 => ?_)
 · skip
   refine G_seq ?_
   refine G_region (l := [0, 1]) rfl ?_
   refine G_call (L2 := [_]) rfl rfl rfl rfl rfl rfl Try.call47 (sl_live) [] [] rfl rfl ?_
   rintro v post ⟨rfl, rfl⟩
   show G _ _ _ [_] _
   refine G_val rfl rfl rfl rfl (V_assign rfl rfl) ?_
   refine G_done ?_
   refine G_ret (post := []) Try.func10 rfl (RVs_cons (RV_tmp rfl) RVs_nil) [] rfl ?_
   dsimp only [packed]
   exact ⟨rfl, rfl⟩
 refine G_skip ?_
 refine G_seq ?_
 by_cases hm : MayS s
 · skip
   refine G_region (l := [0, 1, 2, 3, 4, 5, 6]) rfl ?_
   first
     | refine G_val rfl rfl rfl rfl (V_loadW (s := 5) rfl rfl (mem_at 0 rfl) Try.underlying75 rfl infLawSuperCodes_75 rfl (by first | rfl | (simp [bcells_length, spCells, pCells, spCells, pCells, wCells, kCells, wCells, kCells, wCells, kCells, spCells, pCells, wCells, kCells, spCells, pCells, wCells, kCells, spCells, pCells]; done) | (simp [bcells_length, spCells, pCells, spCells, pCells, wCells, kCells, wCells, kCells, wCells, kCells, spCells, pCells, wCells, kCells, spCells, pCells, wCells, kCells, spCells, pCells]; omega) | (simp [bcells_length, *, spCells, pCells, spCells, pCells, wCells, kCells, wCells, kCells, wCells, kCells, spCells, pCells, wCells, kCells, spCells, pCells, wCells, kCells, spCells, pCells]; done))) ?_
     | refine G_val rfl rfl rfl rfl (V_loadA (s := 5) rfl rfl (mem_at 0 rfl) Try.underlying75 rfl infLawSuperCodes_75 rfl rfl (by first | rfl | (simp [bcells_length, spCells, pCells, spCells, pCells, wCells, kCells, wCells, kCells, wCells, kCells, spCells, pCells, wCells, kCells, spCells, pCells, wCells, kCells, spCells, pCells]; done) | (simp [bcells_length, spCells, pCells, spCells, pCells, wCells, kCells, wCells, kCells, wCells, kCells, spCells, pCells, wCells, kCells, spCells, pCells, wCells, kCells, spCells, pCells]; omega) | (simp [bcells_length, *, spCells, pCells, spCells, pCells, wCells, kCells, wCells, kCells, wCells, kCells, spCells, pCells, wCells, kCells, spCells, pCells, wCells, kCells, spCells, pCells]; done))) ?_
   refine G_call (L2 := [_]) rfl rfl rfl rfl rfl rfl Try.call48 ((sup_encode s hs).weaken (fun v post h => by rw [(encT_yes (decide_eq_true hm)).1, (encT_yes (decide_eq_true hm)).2] at h; exact h)) [] [] rfl rfl ?_
   rintro v post ⟨rfl, rfl⟩
   show G _ _ _ [_] _
   refine G_val rfl rfl rfl rfl (V_move rfl rfl) ?_
   refine G_val rfl rfl rfl rfl (V_extract rfl rfl rfl) ?_
   refine G_val rfl rfl rfl rfl (V_extract rfl rfl rfl) ?_
   refine G_val rfl rfl rfl rfl (V_assign rfl rfl) ?_
   refine G_val rfl rfl rfl rfl (V_assign rfl rfl) ?_
   refine G_done ?_
   refine G_seq ?_
   refine G_region (l := [0, 1, 2, 3, 4, 5, 6]) rfl ?_
   first
     | refine G_val rfl rfl rfl rfl (V_loadW (s := 5) rfl rfl (mem_at 0 rfl) Try.underlying75 rfl infLawSuperCodes_75 rfl (by first | rfl | (simp [bcells_length, spCells, pCells, spCells, pCells, wCells, kCells, wCells, kCells, wCells, kCells, spCells, pCells, wCells, kCells, spCells, pCells, wCells, kCells, spCells, pCells]; done) | (simp [bcells_length, spCells, pCells, spCells, pCells, wCells, kCells, wCells, kCells, wCells, kCells, spCells, pCells, wCells, kCells, spCells, pCells, wCells, kCells, spCells, pCells]; omega) | (simp [bcells_length, *, spCells, pCells, spCells, pCells, wCells, kCells, wCells, kCells, wCells, kCells, spCells, pCells, wCells, kCells, spCells, pCells, wCells, kCells, spCells, pCells]; done))) ?_
     | refine G_val rfl rfl rfl rfl (V_loadA (s := 5) rfl rfl (mem_at 0 rfl) Try.underlying75 rfl infLawSuperCodes_75 rfl rfl (by first | rfl | (simp [bcells_length, spCells, pCells, spCells, pCells, wCells, kCells, wCells, kCells, wCells, kCells, spCells, pCells, wCells, kCells, spCells, pCells, wCells, kCells, spCells, pCells]; done) | (simp [bcells_length, spCells, pCells, spCells, pCells, wCells, kCells, wCells, kCells, wCells, kCells, spCells, pCells, wCells, kCells, spCells, pCells, wCells, kCells, spCells, pCells]; omega) | (simp [bcells_length, *, spCells, pCells, spCells, pCells, wCells, kCells, wCells, kCells, wCells, kCells, spCells, pCells, wCells, kCells, spCells, pCells, wCells, kCells, spCells, pCells]; done))) ?_
   refine G_call (L2 := [_]) rfl rfl rfl rfl rfl rfl Try.call49 ((rsup_encode s hs).weaken (fun v post h => by rw [(encT_yes (decide_eq_true hm)).1, (encT_yes (decide_eq_true hm)).2] at h; exact h)) [] [] rfl rfl ?_
   rintro v post ⟨rfl, rfl⟩
   show G _ _ _ [_] _
   refine G_val rfl rfl rfl rfl (V_move rfl rfl) ?_
   refine G_val rfl rfl rfl rfl (V_extract rfl rfl rfl) ?_
   refine G_val rfl rfl rfl rfl (V_extract rfl rfl rfl) ?_
   refine G_val rfl rfl rfl rfl (V_assign rfl rfl) ?_
   refine G_val rfl rfl rfl rfl (V_assign rfl rfl) ?_
   refine G_done ?_
   refine G_seq ?_
   refine G_region (l := [0, 1, 2, 3, 4, 5, 6, 7]) rfl ?_
   refine G_val rfl rfl rfl rfl (V_move rfl rfl) ?_
   refine G_call (L2 := [_]) rfl rfl rfl rfl rfl rfl Try.call50 (sup_decode b hb) [] [] rfl rfl ?_
   rintro v post ⟨rfl, rfl⟩
   show G _ _ _ [_] _
   refine G_val rfl rfl rfl rfl (V_move rfl rfl) ?_
   refine G_val rfl rfl rfl rfl (V_extract rfl rfl rfl) ?_
   refine G_val rfl rfl rfl rfl (V_extract rfl rfl rfl) ?_
   refine G_new rfl rfl rfl rfl (N_allocA rfl infLawSuperCodes_75 rfl) (fun b9 => ?_)
   refine G_put (l1 := []) (L' := [_, _]) rfl rfl rfl rfl (P_storeA (s := 5) rfl rfl rfl (mem_at 0 rfl) (by first | rfl | (simp [bcells_length, spCells, pCells, spCells, pCells, wCells, kCells, wCells, kCells, wCells, kCells, spCells, pCells, wCells, kCells, spCells, pCells, wCells, kCells, spCells, pCells]; done) | (simp [bcells_length, spCells, pCells, spCells, pCells, wCells, kCells, wCells, kCells, wCells, kCells, spCells, pCells, wCells, kCells, spCells, pCells, wCells, kCells, spCells, pCells]; omega) | (simp [bcells_length, *, spCells, pCells, spCells, pCells, wCells, kCells, wCells, kCells, wCells, kCells, spCells, pCells, wCells, kCells, spCells, pCells, wCells, kCells, spCells, pCells]; done)) infLawSuperCodes_75 rfl (by first | rfl | (simp [bcells_length, spCells, pCells, spCells, pCells, wCells, kCells, wCells, kCells, wCells, kCells, spCells, pCells, wCells, kCells, spCells, pCells, wCells, kCells, spCells, pCells]; done) | (simp [bcells_length, spCells, pCells, spCells, pCells, wCells, kCells, wCells, kCells, wCells, kCells, spCells, pCells, wCells, kCells, spCells, pCells, wCells, kCells, spCells, pCells]; omega) | (simp [bcells_length, *, spCells, pCells, spCells, pCells, wCells, kCells, wCells, kCells, wCells, kCells, spCells, pCells, wCells, kCells, spCells, pCells, wCells, kCells, spCells, pCells]; done)) (by first | rfl | exact bcells_all _ | (simp [Value.oneCell', spCells, pCells, spCells, pCells, wCells, kCells, wCells, kCells, wCells, kCells, spCells, pCells, wCells, kCells, spCells, pCells, wCells, kCells, spCells, pCells]; done) | (simp [Value.oneCell', *, spCells, pCells, spCells, pCells, wCells, kCells, wCells, kCells, wCells, kCells, spCells, pCells, wCells, kCells, spCells, pCells, wCells, kCells, spCells, pCells]; done))) rfl ?_
   refine G_val rfl rfl rfl rfl (V_assign rfl rfl) ?_
   refine G_done ?_
   refine G_seq ?_
   refine G_region (l := [0, 1, 2, 3]) rfl ?_
   refine G_val rfl rfl rfl rfl (V_move rfl rfl) ?_
   refine G_call (L2 := [_, _]) rfl rfl rfl rfl rfl rfl Try.call51 (rsup_decode b hb) [] [] rfl rfl ?_
   rintro v post ⟨rfl, rfl⟩
   show G _ _ _ [_, _] _
   refine G_new rfl rfl rfl rfl (N_allocA rfl infLawSuperCodes_75 rfl) (fun b11 => ?_)
   refine G_put (l1 := []) (L' := [_, _, _]) rfl rfl rfl rfl (P_storeA (s := 5) rfl rfl rfl (mem_at 0 rfl) (by first | rfl | (simp [bcells_length, spCells, pCells, spCells, pCells, wCells, kCells, wCells, kCells, wCells, kCells, spCells, pCells, wCells, kCells, spCells, pCells, wCells, kCells, spCells, pCells]; done) | (simp [bcells_length, spCells, pCells, spCells, pCells, wCells, kCells, wCells, kCells, wCells, kCells, spCells, pCells, wCells, kCells, spCells, pCells, wCells, kCells, spCells, pCells]; omega) | (simp [bcells_length, *, spCells, pCells, spCells, pCells, wCells, kCells, wCells, kCells, wCells, kCells, spCells, pCells, wCells, kCells, spCells, pCells, wCells, kCells, spCells, pCells]; done)) infLawSuperCodes_75 rfl (by first | rfl | (simp [bcells_length, spCells, pCells, spCells, pCells, wCells, kCells, wCells, kCells, wCells, kCells, spCells, pCells, wCells, kCells, spCells, pCells, wCells, kCells, spCells, pCells]; done) | (simp [bcells_length, spCells, pCells, spCells, pCells, wCells, kCells, wCells, kCells, wCells, kCells, spCells, pCells, wCells, kCells, spCells, pCells, wCells, kCells, spCells, pCells]; omega) | (simp [bcells_length, *, spCells, pCells, spCells, pCells, wCells, kCells, wCells, kCells, wCells, kCells, spCells, pCells, wCells, kCells, spCells, pCells, wCells, kCells, spCells, pCells]; done)) (by first | rfl | exact bcells_all _ | (simp [Value.oneCell', spCells, pCells, spCells, pCells, wCells, kCells, wCells, kCells, wCells, kCells, spCells, pCells, wCells, kCells, spCells, pCells, wCells, kCells, spCells, pCells]; done) | (simp [Value.oneCell', *, spCells, pCells, spCells, pCells, wCells, kCells, wCells, kCells, wCells, kCells, spCells, pCells, wCells, kCells, spCells, pCells, wCells, kCells, spCells, pCells]; done))) rfl ?_
   refine G_done ?_
   refine G_seq ?_
   refine G_seq ?_
   refine GH_start (Lq := [_, _, _]) (isq := [2, 1, 0]) (m := 37) mixedK rfl rfl ?_
   refine GH_take 0 rfl rfl rfl rfl (by kernel_rfl) (by kernel_rfl) (by kernel_rfl) (fun _ _ => (V_move rfl rfl)) ?_
   refine GH_take 1 rfl rfl rfl rfl (by kernel_rfl) (by kernel_rfl) (by kernel_rfl) (fun _ _ => (V_move rfl rfl)) ?_
   refine GH_take 2 rfl rfl rfl rfl (by kernel_rfl) (by kernel_rfl) (by kernel_rfl) (fun _ _ => (V_sneq rfl rfl rfl)) ?_
   refine GH_take 3 rfl rfl rfl rfl (by kernel_rfl) (by kernel_rfl) (by kernel_rfl) (fun _ _ => (V_move rfl rfl)) ?_
   refine GH_splitD 38 rfl (fun hc2 => ?_) (fun hc2 => ?_)
   · (first | (exact absurd rfl hc2) | (exact absurd (decS_mayI b) hc2) | (exact absurd (by decide) hc2) | (exact absurd hc2 (by decide)) | (exfalso; omega))
   refine GH_take 4 rfl rfl rfl rfl (by kernel_rfl) (by kernel_rfl) (by kernel_rfl) (fun _ _ => (V_move rfl rfl)) ?_
   refine GH_take 6 rfl rfl rfl rfl (by kernel_rfl) (by kernel_rfl) (by kernel_rfl) (fun _ _ => (V_move rfl rfl)) ?_
   refine GH_all [5] (by kernel_rfl) (by decide) ?_
   refine (And.intro ?_ trivial)
   · skip
     refine GHop_call (L2 := [_, _, _]) rfl rfl rfl rfl rfl rfl Try.call52 (sl_num _) [] [] rfl rfl [2, 1, 0] (by rintro v post ⟨rfl, rfl⟩; exact ⟨_, rfl⟩) ?_
     rintro v post ⟨rfl, rfl⟩
     show GH _ _ _ _ _ _ _ [_, _, _] _
     refine GH_take 7 rfl rfl rfl rfl (by kernel_rfl) (by kernel_rfl) (by kernel_rfl) (fun _ _ => (V_neq rfl rfl rfl)) ?_
     refine GH_take 8 rfl rfl rfl rfl (by kernel_rfl) (by kernel_rfl) (by kernel_rfl) (fun _ _ => (V_pickF rfl rfl rfl)) ?_
     refine GH_take 9 rfl rfl rfl rfl (by kernel_rfl) (by kernel_rfl) (by kernel_rfl) (fun _ _ => (V_move rfl rfl)) ?_
     refine GH_splitD 44 rfl (fun hc3 => ?_) (fun hc3 => ?_)
     · (first | (exact absurd rfl hc3) | (exact absurd (decS_mayI b) hc3) | (exact absurd (by decide) hc3) | (exact absurd hc3 (by decide)) | (exfalso; omega))
     first
       | refine GH_take 10 rfl rfl rfl rfl (by kernel_rfl) (by kernel_rfl) (by kernel_rfl) (fun _ _ => (V_loadW (s := 5) rfl rfl (mem_at 0 rfl) Try.underlying75 rfl infLawSuperCodes_75 rfl (by first | rfl | (simp [bcells_length, spCells, pCells, spCells, pCells, wCells, kCells, wCells, kCells, wCells, kCells, spCells, pCells, wCells, kCells, spCells, pCells, wCells, kCells, spCells, pCells]; done) | (simp [bcells_length, spCells, pCells, spCells, pCells, wCells, kCells, wCells, kCells, wCells, kCells, spCells, pCells, wCells, kCells, spCells, pCells, wCells, kCells, spCells, pCells]; omega) | (simp [bcells_length, *, spCells, pCells, spCells, pCells, wCells, kCells, wCells, kCells, wCells, kCells, spCells, pCells, wCells, kCells, spCells, pCells, wCells, kCells, spCells, pCells]; done)))) ?_
       | refine GH_take 10 rfl rfl rfl rfl (by kernel_rfl) (by kernel_rfl) (by kernel_rfl) (fun _ _ => (V_loadA (s := 5) rfl rfl (mem_at 0 rfl) Try.underlying75 rfl infLawSuperCodes_75 rfl rfl (by first | rfl | (simp [bcells_length, spCells, pCells, spCells, pCells, wCells, kCells, wCells, kCells, wCells, kCells, spCells, pCells, wCells, kCells, spCells, pCells, wCells, kCells, spCells, pCells]; done) | (simp [bcells_length, spCells, pCells, spCells, pCells, wCells, kCells, wCells, kCells, wCells, kCells, spCells, pCells, wCells, kCells, spCells, pCells, wCells, kCells, spCells, pCells]; omega) | (simp [bcells_length, *, spCells, pCells, spCells, pCells, wCells, kCells, wCells, kCells, wCells, kCells, spCells, pCells, wCells, kCells, spCells, pCells, wCells, kCells, spCells, pCells]; done)))) ?_
     first
       | refine GH_take 12 rfl rfl rfl rfl (by kernel_rfl) (by kernel_rfl) (by kernel_rfl) (fun _ _ => (V_loadW (s := 5) rfl rfl (mem_at 0 rfl) Try.underlying75 rfl infLawSuperCodes_75 rfl (by first | rfl | (simp [bcells_length, spCells, pCells, spCells, pCells, wCells, kCells, wCells, kCells, wCells, kCells, spCells, pCells, wCells, kCells, spCells, pCells, wCells, kCells, spCells, pCells]; done) | (simp [bcells_length, spCells, pCells, spCells, pCells, wCells, kCells, wCells, kCells, wCells, kCells, spCells, pCells, wCells, kCells, spCells, pCells, wCells, kCells, spCells, pCells]; omega) | (simp [bcells_length, *, spCells, pCells, spCells, pCells, wCells, kCells, wCells, kCells, wCells, kCells, spCells, pCells, wCells, kCells, spCells, pCells, wCells, kCells, spCells, pCells]; done)))) ?_
       | refine GH_take 12 rfl rfl rfl rfl (by kernel_rfl) (by kernel_rfl) (by kernel_rfl) (fun _ _ => (V_loadA (s := 5) rfl rfl (mem_at 0 rfl) Try.underlying75 rfl infLawSuperCodes_75 rfl rfl (by first | rfl | (simp [bcells_length, spCells, pCells, spCells, pCells, wCells, kCells, wCells, kCells, wCells, kCells, spCells, pCells, wCells, kCells, spCells, pCells, wCells, kCells, spCells, pCells]; done) | (simp [bcells_length, spCells, pCells, spCells, pCells, wCells, kCells, wCells, kCells, wCells, kCells, spCells, pCells, wCells, kCells, spCells, pCells, wCells, kCells, spCells, pCells]; omega) | (simp [bcells_length, *, spCells, pCells, spCells, pCells, wCells, kCells, wCells, kCells, wCells, kCells, spCells, pCells, wCells, kCells, spCells, pCells, wCells, kCells, spCells, pCells]; done)))) ?_
     refine GH_all [11] (by kernel_rfl) (by decide) ?_
     refine (And.intro ?_ trivial)
     · skip
       refine GHop_call (L2 := [_, _, _]) rfl rfl rfl rfl rfl rfl Try.call53 (sup_may _ (by assumption)) [] [] rfl rfl [2, 1, 0] (by rintro v post ⟨rfl, rfl⟩; exact ⟨_, rfl⟩) ?_
       rintro v post ⟨rfl, rfl⟩
       show GH _ _ _ _ _ _ _ [_, _, _] _
       refine GH_all [13] (by kernel_rfl) (by decide) ?_
       refine (And.intro ?_ trivial)
       · skip
         refine GHop_call (L2 := [_, _, _]) rfl rfl rfl rfl rfl rfl Try.call54 (rsup_may _ (by assumption)) [] [] rfl rfl [2, 1, 0] (by rintro v post ⟨rfl, rfl⟩; exact ⟨_, rfl⟩) ?_
         rintro v post ⟨rfl, rfl⟩
         show GH _ _ _ _ _ _ _ [_, _, _] _
         refine GH_take 14 rfl rfl rfl rfl (by kernel_rfl) (by kernel_rfl) (by kernel_rfl) (fun _ _ => (V_bneq rfl Try.underlying4 rfl rfl)) ?_
         refine GH_take 15 rfl rfl rfl rfl (by kernel_rfl) (by kernel_rfl) (by kernel_rfl) (fun _ _ => (V_pickF rfl rfl rfl)) ?_
         refine GH_take 16 rfl rfl rfl rfl (by kernel_rfl) (by kernel_rfl) (by kernel_rfl) (fun _ _ => (V_move rfl rfl)) ?_
         refine GH_splitD 51 rfl (fun hc4 => ?_) (fun hc4 => ?_)
         · (first | (exact absurd rfl hc4) | (exact absurd (decS_mayI b) hc4) | (exact absurd (by decide) hc4) | (exact absurd hc4 (by decide)) | (exfalso; omega))
         first
           | refine GH_take 17 rfl rfl rfl rfl (by kernel_rfl) (by kernel_rfl) (by kernel_rfl) (fun _ _ => (V_loadW (s := 5) rfl rfl (mem_at 1 rfl) Try.underlying75 rfl infLawSuperCodes_75 rfl (by first | rfl | (simp [bcells_length, spCells, pCells, spCells, pCells, wCells, kCells, wCells, kCells, wCells, kCells, spCells, pCells, wCells, kCells, spCells, pCells, wCells, kCells, spCells, pCells]; done) | (simp [bcells_length, spCells, pCells, spCells, pCells, wCells, kCells, wCells, kCells, wCells, kCells, spCells, pCells, wCells, kCells, spCells, pCells, wCells, kCells, spCells, pCells]; omega) | (simp [bcells_length, *, spCells, pCells, spCells, pCells, wCells, kCells, wCells, kCells, wCells, kCells, spCells, pCells, wCells, kCells, spCells, pCells, wCells, kCells, spCells, pCells]; done)))) ?_
           | refine GH_take 17 rfl rfl rfl rfl (by kernel_rfl) (by kernel_rfl) (by kernel_rfl) (fun _ _ => (V_loadA (s := 5) rfl rfl (mem_at 1 rfl) Try.underlying75 rfl infLawSuperCodes_75 rfl rfl (by first | rfl | (simp [bcells_length, spCells, pCells, spCells, pCells, wCells, kCells, wCells, kCells, wCells, kCells, spCells, pCells, wCells, kCells, spCells, pCells, wCells, kCells, spCells, pCells]; done) | (simp [bcells_length, spCells, pCells, spCells, pCells, wCells, kCells, wCells, kCells, wCells, kCells, spCells, pCells, wCells, kCells, spCells, pCells, wCells, kCells, spCells, pCells]; omega) | (simp [bcells_length, *, spCells, pCells, spCells, pCells, wCells, kCells, wCells, kCells, wCells, kCells, spCells, pCells, wCells, kCells, spCells, pCells, wCells, kCells, spCells, pCells]; done)))) ?_
         first
           | refine GH_take 18 rfl rfl rfl rfl (by kernel_rfl) (by kernel_rfl) (by kernel_rfl) (fun _ _ => (V_loadW (s := 5) rfl rfl (mem_at 2 rfl) Try.underlying75 rfl infLawSuperCodes_75 rfl (by first | rfl | (simp [bcells_length, spCells, pCells, spCells, pCells, wCells, kCells, wCells, kCells, wCells, kCells, spCells, pCells, wCells, kCells, spCells, pCells, wCells, kCells, spCells, pCells]; done) | (simp [bcells_length, spCells, pCells, spCells, pCells, wCells, kCells, wCells, kCells, wCells, kCells, spCells, pCells, wCells, kCells, spCells, pCells, wCells, kCells, spCells, pCells]; omega) | (simp [bcells_length, *, spCells, pCells, spCells, pCells, wCells, kCells, wCells, kCells, wCells, kCells, spCells, pCells, wCells, kCells, spCells, pCells, wCells, kCells, spCells, pCells]; done)))) ?_
           | refine GH_take 18 rfl rfl rfl rfl (by kernel_rfl) (by kernel_rfl) (by kernel_rfl) (fun _ _ => (V_loadA (s := 5) rfl rfl (mem_at 2 rfl) Try.underlying75 rfl infLawSuperCodes_75 rfl rfl (by first | rfl | (simp [bcells_length, spCells, pCells, spCells, pCells, wCells, kCells, wCells, kCells, wCells, kCells, spCells, pCells, wCells, kCells, spCells, pCells, wCells, kCells, spCells, pCells]; done) | (simp [bcells_length, spCells, pCells, spCells, pCells, wCells, kCells, wCells, kCells, wCells, kCells, spCells, pCells, wCells, kCells, spCells, pCells, wCells, kCells, spCells, pCells]; omega) | (simp [bcells_length, *, spCells, pCells, spCells, pCells, wCells, kCells, wCells, kCells, wCells, kCells, spCells, pCells, wCells, kCells, spCells, pCells, wCells, kCells, spCells, pCells]; done)))) ?_
         refine GH_take 19 rfl rfl rfl rfl (by kernel_rfl) (by kernel_rfl) (by kernel_rfl) (fun _ _ => (V_aggneq (m := 6) rfl Try.eqGuardType75 (by kernel_rfl) (by decide) (formed_of Try.underlying75 rfl (by kernel_rfl : Try.prog.cellsOf 75 = 5) (by first | rfl | (simp [bcells_length, spCells, pCells, spCells, pCells, wCells, kCells, wCells, kCells, wCells, kCells, spCells, pCells, wCells, kCells, spCells, pCells, wCells, kCells, spCells, pCells]; done) | (simp [bcells_length, spCells, pCells, spCells, pCells, wCells, kCells, wCells, kCells, wCells, kCells, spCells, pCells, wCells, kCells, spCells, pCells, wCells, kCells, spCells, pCells]; omega) | (simp [bcells_length, *, spCells, pCells, spCells, pCells, wCells, kCells, wCells, kCells, wCells, kCells, spCells, pCells, wCells, kCells, spCells, pCells, wCells, kCells, spCells, pCells]; done))) (formed_of Try.underlying75 rfl (by kernel_rfl : Try.prog.cellsOf 75 = 5) (by first | rfl | (simp [bcells_length, spCells, pCells, spCells, pCells, wCells, kCells, wCells, kCells, wCells, kCells, spCells, pCells, wCells, kCells, spCells, pCells, wCells, kCells, spCells, pCells]; done) | (simp [bcells_length, spCells, pCells, spCells, pCells, wCells, kCells, wCells, kCells, wCells, kCells, spCells, pCells, wCells, kCells, spCells, pCells, wCells, kCells, spCells, pCells]; omega) | (simp [bcells_length, *, spCells, pCells, spCells, pCells, wCells, kCells, wCells, kCells, wCells, kCells, spCells, pCells, wCells, kCells, spCells, pCells, wCells, kCells, spCells, pCells]; done))) rfl rfl (key_sp _ hdk) (key_sp _ hdk))) ?_
         refine GH_take 20 rfl rfl rfl rfl (by kernel_rfl) (by kernel_rfl) (by kernel_rfl) (fun _ _ => (V_pickF rfl rfl rfl)) ?_
         refine GH_take 21 rfl rfl rfl rfl (by kernel_rfl) (by kernel_rfl) (by kernel_rfl) (fun _ _ => (V_move rfl rfl)) ?_
         refine GH_splitD 56 rfl (fun hc5 => ?_) (fun hc5 => ?_)
         · (first | (exact absurd rfl hc5) | (exact absurd (decS_mayI b) hc5) | (exact absurd (by decide) hc5) | (exact absurd hc5 (by decide)) | (exfalso; omega))
         refine GH_take 22 rfl rfl rfl rfl (by kernel_rfl) (by kernel_rfl) (by kernel_rfl) (fun _ _ => (V_move rfl rfl)) ?_
         refine GH_take 23 rfl rfl rfl rfl (by kernel_rfl) (by kernel_rfl) (by kernel_rfl) (fun _ _ => (V_fieldAddr (fo := 0) rfl Try.underlying75 rfl infLawSuperCodes_73 rfl rfl rfl)) ?_
         refine GH_take 24 rfl rfl rfl rfl (by kernel_rfl) (by kernel_rfl) (by kernel_rfl) (fun _ _ => (V_load1 rfl rfl (mem_at 2 rfl) rfl Try.underlying73 rfl)) ?_
         refine GH_take 25 rfl rfl rfl rfl (by kernel_rfl) (by kernel_rfl) (by kernel_rfl) (fun _ _ => (V_gtr rfl rfl rfl)) ?_
         refine GH_take 26 rfl rfl rfl rfl (by kernel_rfl) (by kernel_rfl) (by kernel_rfl) (fun _ _ => (V_bneq rfl Try.underlying4 rfl rfl)) ?_
         refine GH_take 27 rfl rfl rfl rfl (by kernel_rfl) (by kernel_rfl) (by kernel_rfl) (fun _ _ => (V_pickF rfl rfl rfl)) ?_
         refine GH_take 28 rfl rfl rfl rfl (by kernel_rfl) (by kernel_rfl) (by kernel_rfl) (fun _ _ => (V_move rfl rfl)) ?_
         refine GH_splitD 63 rfl (fun hc6 => ?_) (fun hc6 => ?_)
         · (first | (exact absurd rfl hc6) | (exact absurd (decS_mayI b) hc6) | (exact absurd (by decide) hc6) | (exact absurd hc6 (by decide)) | (exfalso; omega))
         first
           | refine GH_take 29 rfl rfl rfl rfl (by kernel_rfl) (by kernel_rfl) (by kernel_rfl) (fun _ _ => (V_loadW (s := 5) rfl rfl (mem_at 0 rfl) Try.underlying75 rfl infLawSuperCodes_75 rfl (by first | rfl | (simp [bcells_length, spCells, pCells, spCells, pCells, wCells, kCells, wCells, kCells, wCells, kCells, spCells, pCells, wCells, kCells, spCells, pCells, wCells, kCells, spCells, pCells]; done) | (simp [bcells_length, spCells, pCells, spCells, pCells, wCells, kCells, wCells, kCells, wCells, kCells, spCells, pCells, wCells, kCells, spCells, pCells, wCells, kCells, spCells, pCells]; omega) | (simp [bcells_length, *, spCells, pCells, spCells, pCells, wCells, kCells, wCells, kCells, wCells, kCells, spCells, pCells, wCells, kCells, spCells, pCells, wCells, kCells, spCells, pCells]; done)))) ?_
           | refine GH_take 29 rfl rfl rfl rfl (by kernel_rfl) (by kernel_rfl) (by kernel_rfl) (fun _ _ => (V_loadA (s := 5) rfl rfl (mem_at 0 rfl) Try.underlying75 rfl infLawSuperCodes_75 rfl rfl (by first | rfl | (simp [bcells_length, spCells, pCells, spCells, pCells, wCells, kCells, wCells, kCells, wCells, kCells, spCells, pCells, wCells, kCells, spCells, pCells, wCells, kCells, spCells, pCells]; done) | (simp [bcells_length, spCells, pCells, spCells, pCells, wCells, kCells, wCells, kCells, wCells, kCells, spCells, pCells, wCells, kCells, spCells, pCells, wCells, kCells, spCells, pCells]; omega) | (simp [bcells_length, *, spCells, pCells, spCells, pCells, wCells, kCells, wCells, kCells, wCells, kCells, spCells, pCells, wCells, kCells, spCells, pCells, wCells, kCells, spCells, pCells]; done)))) ?_
         refine GH_take 31 rfl rfl rfl rfl (by kernel_rfl) (by kernel_rfl) (by kernel_rfl) (fun _ _ => (V_fieldAddr (fo := 0) rfl Try.underlying75 rfl infLawSuperCodes_73 rfl rfl rfl)) ?_
         refine GH_take 32 rfl rfl rfl rfl (by kernel_rfl) (by kernel_rfl) (by kernel_rfl) (fun _ _ => (V_load1 rfl rfl (mem_at 0 rfl) rfl Try.underlying73 rfl)) ?_
         refine GH_take 33 rfl rfl rfl rfl (by kernel_rfl) (by kernel_rfl) (by kernel_rfl) (fun _ _ => (V_rem rfl rfl rfl (by omega) (by omega))) ?_
         first
           | refine GH_take 34 rfl rfl rfl rfl (by kernel_rfl) (by kernel_rfl) (by kernel_rfl) (fun _ _ => ((V_conv rfl rfl Try.underlying73 Try.underlying3).int (wrap_i64 (by omega)))) ?_
           | refine GH_take 34 rfl rfl rfl rfl (by kernel_rfl) (by kernel_rfl) (by kernel_rfl) (fun _ _ => (V_conv rfl rfl Try.underlying73 Try.underlying3)) ?_
         refine GH_all [30] (by kernel_rfl) (by decide) ?_
         refine (And.intro ?_ trivial)
         · skip
           refine GHop_call (L2 := [_, _, _]) rfl rfl rfl rfl rfl rfl Try.call55 (sup_place _ (by assumption)) [] [] rfl rfl [2, 1, 0] (by rintro v post ⟨rfl, rfl⟩; exact ⟨_, rfl⟩) ?_
           rintro v post ⟨rfl, rfl⟩
           show GH _ _ _ _ _ _ _ [_, _, _] _
           refine GH_take 35 rfl rfl rfl rfl (by kernel_rfl) (by kernel_rfl) (by kernel_rfl) (fun _ _ => (V_neq rfl rfl rfl)) ?_
           refine GH_take 36 rfl rfl rfl rfl (by kernel_rfl) (by kernel_rfl) (by kernel_rfl) (fun _ _ => (V_pickF rfl rfl rfl)) ?_
           refine GH_done (by kernel_rfl) ?_
           refine G_ifD rfl (fun hc7 => ?_) (fun hc7 => ?_)
           · (first | (exact absurd rfl hc7) | (exact absurd (decS_mayI b) hc7) | (exact absurd (by decide) hc7) | (exact absurd hc7 (by decide)) | (exfalso; omega))
           refine G_skip ?_
           refine G_seq ?_
           refine G_region (l := [0, 1, 2, 3, 4, 5, 6, 7]) rfl ?_
           refine G_val rfl rfl rfl rfl (V_move rfl rfl) ?_
           refine G_call (L2 := [_, _, _]) rfl rfl rfl rfl rfl rfl Try.call50 ((sup_decode (encS s) (by have := encS_len hm; omega)).weaken (fun v post h => by rw [decT_back hs hm] at h; exact h)) [] [] rfl rfl ?_
           rintro v post ⟨rfl, rfl⟩
           show G _ _ _ [_, _, _] _
           refine G_val rfl rfl rfl rfl (V_move rfl rfl) ?_
           refine G_val rfl rfl rfl rfl (V_extract rfl rfl rfl) ?_
           refine G_val rfl rfl rfl rfl (V_extract rfl rfl rfl) ?_
           refine G_new rfl rfl rfl rfl (N_allocA rfl infLawSuperCodes_75 rfl) (fun b12 => ?_)
           refine G_put (l1 := []) (L' := [_, _, _, _]) rfl rfl rfl rfl (P_storeA (s := 5) rfl rfl rfl (mem_at 0 rfl) (by first | rfl | (simp [bcells_length, spCells, pCells, spCells, pCells, wCells, kCells, wCells, kCells, wCells, kCells, spCells, pCells, wCells, kCells, spCells, pCells, wCells, kCells, spCells, pCells]; done) | (simp [bcells_length, spCells, pCells, spCells, pCells, wCells, kCells, wCells, kCells, wCells, kCells, spCells, pCells, wCells, kCells, spCells, pCells, wCells, kCells, spCells, pCells]; omega) | (simp [bcells_length, *, spCells, pCells, spCells, pCells, wCells, kCells, wCells, kCells, wCells, kCells, spCells, pCells, wCells, kCells, spCells, pCells, wCells, kCells, spCells, pCells]; done)) infLawSuperCodes_75 rfl (by first | rfl | (simp [bcells_length, spCells, pCells, spCells, pCells, wCells, kCells, wCells, kCells, wCells, kCells, spCells, pCells, wCells, kCells, spCells, pCells, wCells, kCells, spCells, pCells]; done) | (simp [bcells_length, spCells, pCells, spCells, pCells, wCells, kCells, wCells, kCells, wCells, kCells, spCells, pCells, wCells, kCells, spCells, pCells, wCells, kCells, spCells, pCells]; omega) | (simp [bcells_length, *, spCells, pCells, spCells, pCells, wCells, kCells, wCells, kCells, wCells, kCells, spCells, pCells, wCells, kCells, spCells, pCells, wCells, kCells, spCells, pCells]; done)) (by first | rfl | exact bcells_all _ | (simp [Value.oneCell', spCells, pCells, spCells, pCells, wCells, kCells, wCells, kCells, wCells, kCells, spCells, pCells, wCells, kCells, spCells, pCells, wCells, kCells, spCells, pCells]; done) | (simp [Value.oneCell', *, spCells, pCells, spCells, pCells, wCells, kCells, wCells, kCells, wCells, kCells, spCells, pCells, wCells, kCells, spCells, pCells, wCells, kCells, spCells, pCells]; done))) rfl ?_
           refine G_val rfl rfl rfl rfl (V_assign rfl rfl) ?_
           refine G_done ?_
           refine G_seq ?_
           refine G_region (l := [0, 1, 2, 3, 4, 5, 6, 7, 8, 9, 10, 11, 12, 13, 14, 15, 16]) rfl ?_
           refine G_val rfl rfl rfl rfl (V_move rfl rfl) ?_
           refine G_val rfl rfl rfl rfl (V_move rfl rfl) ?_
           refine G_val rfl rfl rfl rfl (V_eql rfl rfl rfl) ?_
           refine G_val rfl rfl rfl rfl (V_beql rfl Try.underlying4 rfl rfl) ?_
           refine G_val rfl rfl rfl rfl (V_move rfl rfl) ?_
           refine G_splitD 81 rfl (fun hc8 => ?_) (fun hc8 => ?_)
           rotate_left
           · (first | (exact absurd rfl hc8) | (exact absurd (decS_mayI b) hc8) | (exact absurd (by decide) hc8) | (exact absurd hc8 (by decide)) | (exfalso; omega))
           refine G_val rfl rfl rfl rfl (V_move rfl rfl) ?_
           refine G_val rfl rfl rfl rfl (V_not rfl rfl) ?_
           refine G_val rfl rfl rfl rfl (V_move rfl rfl) ?_
           refine G_split 84 rfl (fun hc9 => ?_) (fun hc9 => ?_)
           · (first | (exact absurd rfl hc9) | (exact absurd (decS_mayI b) hc9) | (exact absurd (by decide) hc9) | (exact absurd hc9 (by decide)) | (exfalso; omega))
           first
             | refine G_val rfl rfl rfl rfl (V_loadW (s := 5) rfl rfl (mem_at 0 rfl) Try.underlying75 rfl infLawSuperCodes_75 rfl (by first | rfl | (simp [bcells_length, spCells, pCells, spCells, pCells, wCells, kCells, wCells, kCells, wCells, kCells, spCells, pCells, wCells, kCells, spCells, pCells, wCells, kCells, spCells, pCells]; done) | (simp [bcells_length, spCells, pCells, spCells, pCells, wCells, kCells, wCells, kCells, wCells, kCells, spCells, pCells, wCells, kCells, spCells, pCells, wCells, kCells, spCells, pCells]; omega) | (simp [bcells_length, *, spCells, pCells, spCells, pCells, wCells, kCells, wCells, kCells, wCells, kCells, spCells, pCells, wCells, kCells, spCells, pCells, wCells, kCells, spCells, pCells]; done))) ?_
             | refine G_val rfl rfl rfl rfl (V_loadA (s := 5) rfl rfl (mem_at 0 rfl) Try.underlying75 rfl infLawSuperCodes_75 rfl rfl (by first | rfl | (simp [bcells_length, spCells, pCells, spCells, pCells, wCells, kCells, wCells, kCells, wCells, kCells, spCells, pCells, wCells, kCells, spCells, pCells, wCells, kCells, spCells, pCells]; done) | (simp [bcells_length, spCells, pCells, spCells, pCells, wCells, kCells, wCells, kCells, wCells, kCells, spCells, pCells, wCells, kCells, spCells, pCells, wCells, kCells, spCells, pCells]; omega) | (simp [bcells_length, *, spCells, pCells, spCells, pCells, wCells, kCells, wCells, kCells, wCells, kCells, spCells, pCells, wCells, kCells, spCells, pCells, wCells, kCells, spCells, pCells]; done))) ?_
           first
             | refine G_val rfl rfl rfl rfl (V_loadW (s := 5) rfl rfl (mem_at 3 rfl) Try.underlying75 rfl infLawSuperCodes_75 rfl (by first | rfl | (simp [bcells_length, spCells, pCells, spCells, pCells, wCells, kCells, wCells, kCells, wCells, kCells, spCells, pCells, wCells, kCells, spCells, pCells, wCells, kCells, spCells, pCells]; done) | (simp [bcells_length, spCells, pCells, spCells, pCells, wCells, kCells, wCells, kCells, wCells, kCells, spCells, pCells, wCells, kCells, spCells, pCells, wCells, kCells, spCells, pCells]; omega) | (simp [bcells_length, *, spCells, pCells, spCells, pCells, wCells, kCells, wCells, kCells, wCells, kCells, spCells, pCells, wCells, kCells, spCells, pCells, wCells, kCells, spCells, pCells]; done))) ?_
             | refine G_val rfl rfl rfl rfl (V_loadA (s := 5) rfl rfl (mem_at 3 rfl) Try.underlying75 rfl infLawSuperCodes_75 rfl rfl (by first | rfl | (simp [bcells_length, spCells, pCells, spCells, pCells, wCells, kCells, wCells, kCells, wCells, kCells, spCells, pCells, wCells, kCells, spCells, pCells, wCells, kCells, spCells, pCells]; done) | (simp [bcells_length, spCells, pCells, spCells, pCells, wCells, kCells, wCells, kCells, wCells, kCells, spCells, pCells, wCells, kCells, spCells, pCells, wCells, kCells, spCells, pCells]; omega) | (simp [bcells_length, *, spCells, pCells, spCells, pCells, wCells, kCells, wCells, kCells, wCells, kCells, spCells, pCells, wCells, kCells, spCells, pCells, wCells, kCells, spCells, pCells]; done))) ?_
           refine G_val rfl rfl rfl rfl (V_aggeql (m := 6) rfl Try.eqGuardType75 (by kernel_rfl) (by decide) (formed_of Try.underlying75 rfl (by kernel_rfl : Try.prog.cellsOf 75 = 5) (by first | rfl | (simp [bcells_length, spCells, pCells, spCells, pCells, wCells, kCells, wCells, kCells, wCells, kCells, spCells, pCells, wCells, kCells, spCells, pCells, wCells, kCells, spCells, pCells]; done) | (simp [bcells_length, spCells, pCells, spCells, pCells, wCells, kCells, wCells, kCells, wCells, kCells, spCells, pCells, wCells, kCells, spCells, pCells, wCells, kCells, spCells, pCells]; omega) | (simp [bcells_length, *, spCells, pCells, spCells, pCells, wCells, kCells, wCells, kCells, wCells, kCells, spCells, pCells, wCells, kCells, spCells, pCells, wCells, kCells, spCells, pCells]; done))) (formed_of Try.underlying75 rfl (by kernel_rfl : Try.prog.cellsOf 75 = 5) (by first | rfl | (simp [bcells_length, spCells, pCells, spCells, pCells, wCells, kCells, wCells, kCells, wCells, kCells, spCells, pCells, wCells, kCells, spCells, pCells, wCells, kCells, spCells, pCells]; done) | (simp [bcells_length, spCells, pCells, spCells, pCells, wCells, kCells, wCells, kCells, wCells, kCells, spCells, pCells, wCells, kCells, spCells, pCells, wCells, kCells, spCells, pCells]; omega) | (simp [bcells_length, *, spCells, pCells, spCells, pCells, wCells, kCells, wCells, kCells, wCells, kCells, spCells, pCells, wCells, kCells, spCells, pCells, wCells, kCells, spCells, pCells]; done))) rfl rfl (key_sp s hs) (key_sp s hs)) ?_
           refine G_val rfl rfl rfl rfl (V_pickF rfl rfl rfl) ?_
           refine G_val rfl rfl rfl rfl (V_pickT rfl rfl rfl) ?_
           refine G_val rfl rfl rfl rfl (V_move rfl rfl) ?_
           refine G_splitD 90 rfl (fun hc10 => ?_) (fun hc10 => ?_)
           rotate_left
           · (first | (exact absurd rfl hc10) | (exact absurd (decS_mayI b) hc10) | (exact absurd (by decide) hc10) | (exact absurd hc10 (by decide)) | (exfalso; omega))
           refine G_call (L2 := [_, _, _, _]) rfl rfl rfl rfl rfl rfl Try.call47 (sl_live) [] [] rfl rfl ?_
           rintro v post ⟨rfl, rfl⟩
           show G _ _ _ [_, _, _, _] _
           refine G_val rfl rfl rfl rfl (V_pickT rfl rfl rfl) ?_
           refine G_val rfl rfl rfl rfl (V_assign rfl rfl) ?_
           refine G_done ?_
           refine G_ret (post := []) Try.func10 rfl (RVs_cons (RV_tmp rfl) RVs_nil) [] rfl ?_
           dsimp only [packed]
           exact ⟨rfl, rfl⟩
 · skip
   refine G_region (l := [0, 1, 2, 3, 4, 5, 6]) rfl ?_
   first
     | refine G_val rfl rfl rfl rfl (V_loadW (s := 5) rfl rfl (mem_at 0 rfl) Try.underlying75 rfl infLawSuperCodes_75 rfl (by first | rfl | (simp [bcells_length, spCells, pCells, spCells, pCells, wCells, kCells, wCells, kCells, wCells, kCells, spCells, pCells, wCells, kCells, spCells, pCells, wCells, kCells, spCells, pCells]; done) | (simp [bcells_length, spCells, pCells, spCells, pCells, wCells, kCells, wCells, kCells, wCells, kCells, spCells, pCells, wCells, kCells, spCells, pCells, wCells, kCells, spCells, pCells]; omega) | (simp [bcells_length, *, spCells, pCells, spCells, pCells, wCells, kCells, wCells, kCells, wCells, kCells, spCells, pCells, wCells, kCells, spCells, pCells, wCells, kCells, spCells, pCells]; done))) ?_
     | refine G_val rfl rfl rfl rfl (V_loadA (s := 5) rfl rfl (mem_at 0 rfl) Try.underlying75 rfl infLawSuperCodes_75 rfl rfl (by first | rfl | (simp [bcells_length, spCells, pCells, spCells, pCells, wCells, kCells, wCells, kCells, wCells, kCells, spCells, pCells, wCells, kCells, spCells, pCells, wCells, kCells, spCells, pCells]; done) | (simp [bcells_length, spCells, pCells, spCells, pCells, wCells, kCells, wCells, kCells, wCells, kCells, spCells, pCells, wCells, kCells, spCells, pCells, wCells, kCells, spCells, pCells]; omega) | (simp [bcells_length, *, spCells, pCells, spCells, pCells, wCells, kCells, wCells, kCells, wCells, kCells, spCells, pCells, wCells, kCells, spCells, pCells, wCells, kCells, spCells, pCells]; done))) ?_
   refine G_call (L2 := [_]) rfl rfl rfl rfl rfl rfl Try.call48 ((sup_encode s hs).weaken (fun v post h => by rw [(encT_no (decide_eq_false hm)).1, (encT_no (decide_eq_false hm)).2] at h; exact h)) [] [] rfl rfl ?_
   rintro v post ⟨rfl, rfl⟩
   show G _ _ _ [_] _
   refine G_val rfl rfl rfl rfl (V_move rfl rfl) ?_
   refine G_val rfl rfl rfl rfl (V_extract rfl rfl rfl) ?_
   refine G_val rfl rfl rfl rfl (V_extract rfl rfl rfl) ?_
   refine G_val rfl rfl rfl rfl (V_assign rfl rfl) ?_
   refine G_val rfl rfl rfl rfl (V_assign rfl rfl) ?_
   refine G_done ?_
   refine G_seq ?_
   refine G_region (l := [0, 1, 2, 3, 4, 5, 6]) rfl ?_
   first
     | refine G_val rfl rfl rfl rfl (V_loadW (s := 5) rfl rfl (mem_at 0 rfl) Try.underlying75 rfl infLawSuperCodes_75 rfl (by first | rfl | (simp [bcells_length, spCells, pCells, spCells, pCells, wCells, kCells, wCells, kCells, wCells, kCells, spCells, pCells, wCells, kCells, spCells, pCells, wCells, kCells, spCells, pCells]; done) | (simp [bcells_length, spCells, pCells, spCells, pCells, wCells, kCells, wCells, kCells, wCells, kCells, spCells, pCells, wCells, kCells, spCells, pCells, wCells, kCells, spCells, pCells]; omega) | (simp [bcells_length, *, spCells, pCells, spCells, pCells, wCells, kCells, wCells, kCells, wCells, kCells, spCells, pCells, wCells, kCells, spCells, pCells, wCells, kCells, spCells, pCells]; done))) ?_
     | refine G_val rfl rfl rfl rfl (V_loadA (s := 5) rfl rfl (mem_at 0 rfl) Try.underlying75 rfl infLawSuperCodes_75 rfl rfl (by first | rfl | (simp [bcells_length, spCells, pCells, spCells, pCells, wCells, kCells, wCells, kCells, wCells, kCells, spCells, pCells, wCells, kCells, spCells, pCells, wCells, kCells, spCells, pCells]; done) | (simp [bcells_length, spCells, pCells, spCells, pCells, wCells, kCells, wCells, kCells, wCells, kCells, spCells, pCells, wCells, kCells, spCells, pCells, wCells, kCells, spCells, pCells]; omega) | (simp [bcells_length, *, spCells, pCells, spCells, pCells, wCells, kCells, wCells, kCells, wCells, kCells, spCells, pCells, wCells, kCells, spCells, pCells, wCells, kCells, spCells, pCells]; done))) ?_
   refine G_call (L2 := [_]) rfl rfl rfl rfl rfl rfl Try.call49 ((rsup_encode s hs).weaken (fun v post h => by rw [(encT_no (decide_eq_false hm)).1, (encT_no (decide_eq_false hm)).2] at h; exact h)) [] [] rfl rfl ?_
   rintro v post ⟨rfl, rfl⟩
   show G _ _ _ [_] _
   refine G_val rfl rfl rfl rfl (V_move rfl rfl) ?_
   refine G_val rfl rfl rfl rfl (V_extract rfl rfl rfl) ?_
   refine G_val rfl rfl rfl rfl (V_extract rfl rfl rfl) ?_
   refine G_val rfl rfl rfl rfl (V_assign rfl rfl) ?_
   refine G_val rfl rfl rfl rfl (V_assign rfl rfl) ?_
   refine G_done ?_
   refine G_seq ?_
   refine G_region (l := [0, 1, 2, 3, 4, 5, 6, 7]) rfl ?_
   refine G_val rfl rfl rfl rfl (V_move rfl rfl) ?_
   refine G_call (L2 := [_]) rfl rfl rfl rfl rfl rfl Try.call50 (sup_decode b hb) [] [] rfl rfl ?_
   rintro v post ⟨rfl, rfl⟩
   show G _ _ _ [_] _
   refine G_val rfl rfl rfl rfl (V_move rfl rfl) ?_
   refine G_val rfl rfl rfl rfl (V_extract rfl rfl rfl) ?_
   refine G_val rfl rfl rfl rfl (V_extract rfl rfl rfl) ?_
   refine G_new rfl rfl rfl rfl (N_allocA rfl infLawSuperCodes_75 rfl) (fun b9 => ?_)
   refine G_put (l1 := []) (L' := [_, _]) rfl rfl rfl rfl (P_storeA (s := 5) rfl rfl rfl (mem_at 0 rfl) (by first | rfl | (simp [bcells_length, spCells, pCells, spCells, pCells, wCells, kCells, wCells, kCells, wCells, kCells, spCells, pCells, wCells, kCells, spCells, pCells, wCells, kCells, spCells, pCells]; done) | (simp [bcells_length, spCells, pCells, spCells, pCells, wCells, kCells, wCells, kCells, wCells, kCells, spCells, pCells, wCells, kCells, spCells, pCells, wCells, kCells, spCells, pCells]; omega) | (simp [bcells_length, *, spCells, pCells, spCells, pCells, wCells, kCells, wCells, kCells, wCells, kCells, spCells, pCells, wCells, kCells, spCells, pCells, wCells, kCells, spCells, pCells]; done)) infLawSuperCodes_75 rfl (by first | rfl | (simp [bcells_length, spCells, pCells, spCells, pCells, wCells, kCells, wCells, kCells, wCells, kCells, spCells, pCells, wCells, kCells, spCells, pCells, wCells, kCells, spCells, pCells]; done) | (simp [bcells_length, spCells, pCells, spCells, pCells, wCells, kCells, wCells, kCells, wCells, kCells, spCells, pCells, wCells, kCells, spCells, pCells, wCells, kCells, spCells, pCells]; omega) | (simp [bcells_length, *, spCells, pCells, spCells, pCells, wCells, kCells, wCells, kCells, wCells, kCells, spCells, pCells, wCells, kCells, spCells, pCells, wCells, kCells, spCells, pCells]; done)) (by first | rfl | exact bcells_all _ | (simp [Value.oneCell', spCells, pCells, spCells, pCells, wCells, kCells, wCells, kCells, wCells, kCells, spCells, pCells, wCells, kCells, spCells, pCells, wCells, kCells, spCells, pCells]; done) | (simp [Value.oneCell', *, spCells, pCells, spCells, pCells, wCells, kCells, wCells, kCells, wCells, kCells, spCells, pCells, wCells, kCells, spCells, pCells, wCells, kCells, spCells, pCells]; done))) rfl ?_
   refine G_val rfl rfl rfl rfl (V_assign rfl rfl) ?_
   refine G_done ?_
   refine G_seq ?_
   refine G_region (l := [0, 1, 2, 3]) rfl ?_
   refine G_val rfl rfl rfl rfl (V_move rfl rfl) ?_
   refine G_call (L2 := [_, _]) rfl rfl rfl rfl rfl rfl Try.call51 (rsup_decode b hb) [] [] rfl rfl ?_
   rintro v post ⟨rfl, rfl⟩
   show G _ _ _ [_, _] _
   refine G_new rfl rfl rfl rfl (N_allocA rfl infLawSuperCodes_75 rfl) (fun b11 => ?_)
   refine G_put (l1 := []) (L' := [_, _, _]) rfl rfl rfl rfl (P_storeA (s := 5) rfl rfl rfl (mem_at 0 rfl) (by first | rfl | (simp [bcells_length, spCells, pCells, spCells, pCells, wCells, kCells, wCells, kCells, wCells, kCells, spCells, pCells, wCells, kCells, spCells, pCells, wCells, kCells, spCells, pCells]; done) | (simp [bcells_length, spCells, pCells, spCells, pCells, wCells, kCells, wCells, kCells, wCells, kCells, spCells, pCells, wCells, kCells, spCells, pCells, wCells, kCells, spCells, pCells]; omega) | (simp [bcells_length, *, spCells, pCells, spCells, pCells, wCells, kCells, wCells, kCells, wCells, kCells, spCells, pCells, wCells, kCells, spCells, pCells, wCells, kCells, spCells, pCells]; done)) infLawSuperCodes_75 rfl (by first | rfl | (simp [bcells_length, spCells, pCells, spCells, pCells, wCells, kCells, wCells, kCells, wCells, kCells, spCells, pCells, wCells, kCells, spCells, pCells, wCells, kCells, spCells, pCells]; done) | (simp [bcells_length, spCells, pCells, spCells, pCells, wCells, kCells, wCells, kCells, wCells, kCells, spCells, pCells, wCells, kCells, spCells, pCells, wCells, kCells, spCells, pCells]; omega) | (simp [bcells_length, *, spCells, pCells, spCells, pCells, wCells, kCells, wCells, kCells, wCells, kCells, spCells, pCells, wCells, kCells, spCells, pCells, wCells, kCells, spCells, pCells]; done)) (by first | rfl | exact bcells_all _ | (simp [Value.oneCell', spCells, pCells, spCells, pCells, wCells, kCells, wCells, kCells, wCells, kCells, spCells, pCells, wCells, kCells, spCells, pCells, wCells, kCells, spCells, pCells]; done) | (simp [Value.oneCell', *, spCells, pCells, spCells, pCells, wCells, kCells, wCells, kCells, wCells, kCells, spCells, pCells, wCells, kCells, spCells, pCells, wCells, kCells, spCells, pCells]; done))) rfl ?_
   refine G_done ?_
   refine G_seq ?_
   refine G_seq ?_
   refine GH_start (Lq := [_, _, _]) (isq := [2, 1, 0]) (m := 37) mixedK rfl rfl ?_
   refine GH_take 0 rfl rfl rfl rfl (by kernel_rfl) (by kernel_rfl) (by kernel_rfl) (fun _ _ => (V_move rfl rfl)) ?_
   refine GH_take 1 rfl rfl rfl rfl (by kernel_rfl) (by kernel_rfl) (by kernel_rfl) (fun _ _ => (V_move rfl rfl)) ?_
   refine GH_take 2 rfl rfl rfl rfl (by kernel_rfl) (by kernel_rfl) (by kernel_rfl) (fun _ _ => (V_sneq rfl rfl rfl)) ?_
   refine GH_take 3 rfl rfl rfl rfl (by kernel_rfl) (by kernel_rfl) (by kernel_rfl) (fun _ _ => (V_move rfl rfl)) ?_
   refine GH_splitD 38 rfl (fun hc2 => ?_) (fun hc2 => ?_)
   · (first | (exact absurd rfl hc2) | (exact absurd (decS_mayI b) hc2) | (exact absurd (by decide) hc2) | (exact absurd hc2 (by decide)) | (exfalso; omega))
   refine GH_take 4 rfl rfl rfl rfl (by kernel_rfl) (by kernel_rfl) (by kernel_rfl) (fun _ _ => (V_move rfl rfl)) ?_
   refine GH_take 6 rfl rfl rfl rfl (by kernel_rfl) (by kernel_rfl) (by kernel_rfl) (fun _ _ => (V_move rfl rfl)) ?_
   refine GH_all [5] (by kernel_rfl) (by decide) ?_
   refine (And.intro ?_ trivial)
   · skip
     refine GHop_call (L2 := [_, _, _]) rfl rfl rfl rfl rfl rfl Try.call52 (sl_num _) [] [] rfl rfl [2, 1, 0] (by rintro v post ⟨rfl, rfl⟩; exact ⟨_, rfl⟩) ?_
     rintro v post ⟨rfl, rfl⟩
     show GH _ _ _ _ _ _ _ [_, _, _] _
     refine GH_take 7 rfl rfl rfl rfl (by kernel_rfl) (by kernel_rfl) (by kernel_rfl) (fun _ _ => (V_neq rfl rfl rfl)) ?_
     refine GH_take 8 rfl rfl rfl rfl (by kernel_rfl) (by kernel_rfl) (by kernel_rfl) (fun _ _ => (V_pickF rfl rfl rfl)) ?_
     refine GH_take 9 rfl rfl rfl rfl (by kernel_rfl) (by kernel_rfl) (by kernel_rfl) (fun _ _ => (V_move rfl rfl)) ?_
     refine GH_splitD 44 rfl (fun hc3 => ?_) (fun hc3 => ?_)
     · (first | (exact absurd rfl hc3) | (exact absurd (decS_mayI b) hc3) | (exact absurd (by decide) hc3) | (exact absurd hc3 (by decide)) | (exfalso; omega))
     first
       | refine GH_take 10 rfl rfl rfl rfl (by kernel_rfl) (by kernel_rfl) (by kernel_rfl) (fun _ _ => (V_loadW (s := 5) rfl rfl (mem_at 0 rfl) Try.underlying75 rfl infLawSuperCodes_75 rfl (by first | rfl | (simp [bcells_length, spCells, pCells, spCells, pCells, wCells, kCells, wCells, kCells, wCells, kCells, spCells, pCells, wCells, kCells, spCells, pCells, wCells, kCells, spCells, pCells]; done) | (simp [bcells_length, spCells, pCells, spCells, pCells, wCells, kCells, wCells, kCells, wCells, kCells, spCells, pCells, wCells, kCells, spCells, pCells, wCells, kCells, spCells, pCells]; omega) | (simp [bcells_length, *, spCells, pCells, spCells, pCells, wCells, kCells, wCells, kCells, wCells, kCells, spCells, pCells, wCells, kCells, spCells, pCells, wCells, kCells, spCells, pCells]; done)))) ?_
       | refine GH_take 10 rfl rfl rfl rfl (by kernel_rfl) (by kernel_rfl) (by kernel_rfl) (fun _ _ => (V_loadA (s := 5) rfl rfl (mem_at 0 rfl) Try.underlying75 rfl infLawSuperCodes_75 rfl rfl (by first | rfl | (simp [bcells_length, spCells, pCells, spCells, pCells, wCells, kCells, wCells, kCells, wCells, kCells, spCells, pCells, wCells, kCells, spCells, pCells, wCells, kCells, spCells, pCells]; done) | (simp [bcells_length, spCells, pCells, spCells, pCells, wCells, kCells, wCells, kCells, wCells, kCells, spCells, pCells, wCells, kCells, spCells, pCells, wCells, kCells, spCells, pCells]; omega) | (simp [bcells_length, *, spCells, pCells, spCells, pCells, wCells, kCells, wCells, kCells, wCells, kCells, spCells, pCells, wCells, kCells, spCells, pCells, wCells, kCells, spCells, pCells]; done)))) ?_
     first
       | refine GH_take 12 rfl rfl rfl rfl (by kernel_rfl) (by kernel_rfl) (by kernel_rfl) (fun _ _ => (V_loadW (s := 5) rfl rfl (mem_at 0 rfl) Try.underlying75 rfl infLawSuperCodes_75 rfl (by first | rfl | (simp [bcells_length, spCells, pCells, spCells, pCells, wCells, kCells, wCells, kCells, wCells, kCells, spCells, pCells, wCells, kCells, spCells, pCells, wCells, kCells, spCells, pCells]; done) | (simp [bcells_length, spCells, pCells, spCells, pCells, wCells, kCells, wCells, kCells, wCells, kCells, spCells, pCells, wCells, kCells, spCells, pCells, wCells, kCells, spCells, pCells]; omega) | (simp [bcells_length, *, spCells, pCells, spCells, pCells, wCells, kCells, wCells, kCells, wCells, kCells, spCells, pCells, wCells, kCells, spCells, pCells, wCells, kCells, spCells, pCells]; done)))) ?_
       | refine GH_take 12 rfl rfl rfl rfl (by kernel_rfl) (by kernel_rfl) (by kernel_rfl) (fun _ _ => (V_loadA (s := 5) rfl rfl (mem_at 0 rfl) Try.underlying75 rfl infLawSuperCodes_75 rfl rfl (by first | rfl | (simp [bcells_length, spCells, pCells, spCells, pCells, wCells, kCells, wCells, kCells, wCells, kCells, spCells, pCells, wCells, kCells, spCells, pCells, wCells, kCells, spCells, pCells]; done) | (simp [bcells_length, spCells, pCells, spCells, pCells, wCells, kCells, wCells, kCells, wCells, kCells, spCells, pCells, wCells, kCells, spCells, pCells, wCells, kCells, spCells, pCells]; omega) | (simp [bcells_length, *, spCells, pCells, spCells, pCells, wCells, kCells, wCells, kCells, wCells, kCells, spCells, pCells, wCells, kCells, spCells, pCells, wCells, kCells, spCells, pCells]; done)))) ?_
     refine GH_all [11] (by kernel_rfl) (by decide) ?_
     refine (And.intro ?_ trivial)
     · skip
       refine GHop_call (L2 := [_, _, _]) rfl rfl rfl rfl rfl rfl Try.call53 (sup_may _ (by assumption)) [] [] rfl rfl [2, 1, 0] (by rintro v post ⟨rfl, rfl⟩; exact ⟨_, rfl⟩) ?_
       rintro v post ⟨rfl, rfl⟩
       show GH _ _ _ _ _ _ _ [_, _, _] _
       refine GH_all [13] (by kernel_rfl) (by decide) ?_
       refine (And.intro ?_ trivial)
       · skip
         refine GHop_call (L2 := [_, _, _]) rfl rfl rfl rfl rfl rfl Try.call54 (rsup_may _ (by assumption)) [] [] rfl rfl [2, 1, 0] (by rintro v post ⟨rfl, rfl⟩; exact ⟨_, rfl⟩) ?_
         rintro v post ⟨rfl, rfl⟩
         show GH _ _ _ _ _ _ _ [_, _, _] _
         refine GH_take 14 rfl rfl rfl rfl (by kernel_rfl) (by kernel_rfl) (by kernel_rfl) (fun _ _ => (V_bneq rfl Try.underlying4 rfl rfl)) ?_
         refine GH_take 15 rfl rfl rfl rfl (by kernel_rfl) (by kernel_rfl) (by kernel_rfl) (fun _ _ => (V_pickF rfl rfl rfl)) ?_
         refine GH_take 16 rfl rfl rfl rfl (by kernel_rfl) (by kernel_rfl) (by kernel_rfl) (fun _ _ => (V_move rfl rfl)) ?_
         refine GH_splitD 51 rfl (fun hc4 => ?_) (fun hc4 => ?_)
         · (first | (exact absurd rfl hc4) | (exact absurd (decS_mayI b) hc4) | (exact absurd (by decide) hc4) | (exact absurd hc4 (by decide)) | (exfalso; omega))
         first
           | refine GH_take 17 rfl rfl rfl rfl (by kernel_rfl) (by kernel_rfl) (by kernel_rfl) (fun _ _ => (V_loadW (s := 5) rfl rfl (mem_at 1 rfl) Try.underlying75 rfl infLawSuperCodes_75 rfl (by first | rfl | (simp [bcells_length, spCells, pCells, spCells, pCells, wCells, kCells, wCells, kCells, wCells, kCells, spCells, pCells, wCells, kCells, spCells, pCells, wCells, kCells, spCells, pCells]; done) | (simp [bcells_length, spCells, pCells, spCells, pCells, wCells, kCells, wCells, kCells, wCells, kCells, spCells, pCells, wCells, kCells, spCells, pCells, wCells, kCells, spCells, pCells]; omega) | (simp [bcells_length, *, spCells, pCells, spCells, pCells, wCells, kCells, wCells, kCells, wCells, kCells, spCells, pCells, wCells, kCells, spCells, pCells, wCells, kCells, spCells, pCells]; done)))) ?_
           | refine GH_take 17 rfl rfl rfl rfl (by kernel_rfl) (by kernel_rfl) (by kernel_rfl) (fun _ _ => (V_loadA (s := 5) rfl rfl (mem_at 1 rfl) Try.underlying75 rfl infLawSuperCodes_75 rfl rfl (by first | rfl | (simp [bcells_length, spCells, pCells, spCells, pCells, wCells, kCells, wCells, kCells, wCells, kCells, spCells, pCells, wCells, kCells, spCells, pCells, wCells, kCells, spCells, pCells]; done) | (simp [bcells_length, spCells, pCells, spCells, pCells, wCells, kCells, wCells, kCells, wCells, kCells, spCells, pCells, wCells, kCells, spCells, pCells, wCells, kCells, spCells, pCells]; omega) | (simp [bcells_length, *, spCells, pCells, spCells, pCells, wCells, kCells, wCells, kCells, wCells, kCells, spCells, pCells, wCells, kCells, spCells, pCells, wCells, kCells, spCells, pCells]; done)))) ?_
         first
           | refine GH_take 18 rfl rfl rfl rfl (by kernel_rfl) (by kernel_rfl) (by kernel_rfl) (fun _ _ => (V_loadW (s := 5) rfl rfl (mem_at 2 rfl) Try.underlying75 rfl infLawSuperCodes_75 rfl (by first | rfl | (simp [bcells_length, spCells, pCells, spCells, pCells, wCells, kCells, wCells, kCells, wCells, kCells, spCells, pCells, wCells, kCells, spCells, pCells, wCells, kCells, spCells, pCells]; done) | (simp [bcells_length, spCells, pCells, spCells, pCells, wCells, kCells, wCells, kCells, wCells, kCells, spCells, pCells, wCells, kCells, spCells, pCells, wCells, kCells, spCells, pCells]; omega) | (simp [bcells_length, *, spCells, pCells, spCells, pCells, wCells, kCells, wCells, kCells, wCells, kCells, spCells, pCells, wCells, kCells, spCells, pCells, wCells, kCells, spCells, pCells]; done)))) ?_
           | refine GH_take 18 rfl rfl rfl rfl (by kernel_rfl) (by kernel_rfl) (by kernel_rfl) (fun _ _ => (V_loadA (s := 5) rfl rfl (mem_at 2 rfl) Try.underlying75 rfl infLawSuperCodes_75 rfl rfl (by first | rfl | (simp [bcells_length, spCells, pCells, spCells, pCells, wCells, kCells, wCells, kCells, wCells, kCells, spCells, pCells, wCells, kCells, spCells, pCells, wCells, kCells, spCells, pCells]; done) | (simp [bcells_length, spCells, pCells, spCells, pCells, wCells, kCells, wCells, kCells, wCells, kCells, spCells, pCells, wCells, kCells, spCells, pCells, wCells, kCells, spCells, pCells]; omega) | (simp [bcells_length, *, spCells, pCells, spCells, pCells, wCells, kCells, wCells, kCells, wCells, kCells, spCells, pCells, wCells, kCells, spCells, pCells, wCells, kCells, spCells, pCells]; done)))) ?_
         refine GH_take 19 rfl rfl rfl rfl (by kernel_rfl) (by kernel_rfl) (by kernel_rfl) (fun _ _ => (V_aggneq (m := 6) rfl Try.eqGuardType75 (by kernel_rfl) (by decide) (formed_of Try.underlying75 rfl (by kernel_rfl : Try.prog.cellsOf 75 = 5) (by first | rfl | (simp [bcells_length, spCells, pCells, spCells, pCells, wCells, kCells, wCells, kCells, wCells, kCells, spCells, pCells, wCells, kCells, spCells, pCells, wCells, kCells, spCells, pCells]; done) | (simp [bcells_length, spCells, pCells, spCells, pCells, wCells, kCells, wCells, kCells, wCells, kCells, spCells, pCells, wCells, kCells, spCells, pCells, wCells, kCells, spCells, pCells]; omega) | (simp [bcells_length, *, spCells, pCells, spCells, pCells, wCells, kCells, wCells, kCells, wCells, kCells, spCells, pCells, wCells, kCells, spCells, pCells, wCells, kCells, spCells, pCells]; done))) (formed_of Try.underlying75 rfl (by kernel_rfl : Try.prog.cellsOf 75 = 5) (by first | rfl | (simp [bcells_length, spCells, pCells, spCells, pCells, wCells, kCells, wCells, kCells, wCells, kCells, spCells, pCells, wCells, kCells, spCells, pCells, wCells, kCells, spCells, pCells]; done) | (simp [bcells_length, spCells, pCells, spCells, pCells, wCells, kCells, wCells, kCells, wCells, kCells, spCells, pCells, wCells, kCells, spCells, pCells, wCells, kCells, spCells, pCells]; omega) | (simp [bcells_length, *, spCells, pCells, spCells, pCells, wCells, kCells, wCells, kCells, wCells, kCells, spCells, pCells, wCells, kCells, spCells, pCells, wCells, kCells, spCells, pCells]; done))) rfl rfl (key_sp _ hdk) (key_sp _ hdk))) ?_
         refine GH_take 20 rfl rfl rfl rfl (by kernel_rfl) (by kernel_rfl) (by kernel_rfl) (fun _ _ => (V_pickF rfl rfl rfl)) ?_
         refine GH_take 21 rfl rfl rfl rfl (by kernel_rfl) (by kernel_rfl) (by kernel_rfl) (fun _ _ => (V_move rfl rfl)) ?_
         refine GH_splitD 56 rfl (fun hc5 => ?_) (fun hc5 => ?_)
         · (first | (exact absurd rfl hc5) | (exact absurd (decS_mayI b) hc5) | (exact absurd (by decide) hc5) | (exact absurd hc5 (by decide)) | (exfalso; omega))
         refine GH_take 22 rfl rfl rfl rfl (by kernel_rfl) (by kernel_rfl) (by kernel_rfl) (fun _ _ => (V_move rfl rfl)) ?_
         refine GH_take 23 rfl rfl rfl rfl (by kernel_rfl) (by kernel_rfl) (by kernel_rfl) (fun _ _ => (V_fieldAddr (fo := 0) rfl Try.underlying75 rfl infLawSuperCodes_73 rfl rfl rfl)) ?_
         refine GH_take 24 rfl rfl rfl rfl (by kernel_rfl) (by kernel_rfl) (by kernel_rfl) (fun _ _ => (V_load1 rfl rfl (mem_at 2 rfl) rfl Try.underlying73 rfl)) ?_
         refine GH_take 25 rfl rfl rfl rfl (by kernel_rfl) (by kernel_rfl) (by kernel_rfl) (fun _ _ => (V_gtr rfl rfl rfl)) ?_
         refine GH_take 26 rfl rfl rfl rfl (by kernel_rfl) (by kernel_rfl) (by kernel_rfl) (fun _ _ => (V_bneq rfl Try.underlying4 rfl rfl)) ?_
         refine GH_take 27 rfl rfl rfl rfl (by kernel_rfl) (by kernel_rfl) (by kernel_rfl) (fun _ _ => (V_pickF rfl rfl rfl)) ?_
         refine GH_take 28 rfl rfl rfl rfl (by kernel_rfl) (by kernel_rfl) (by kernel_rfl) (fun _ _ => (V_move rfl rfl)) ?_
         refine GH_splitD 63 rfl (fun hc6 => ?_) (fun hc6 => ?_)
         · (first | (exact absurd rfl hc6) | (exact absurd (decS_mayI b) hc6) | (exact absurd (by decide) hc6) | (exact absurd hc6 (by decide)) | (exfalso; omega))
         first
           | refine GH_take 29 rfl rfl rfl rfl (by kernel_rfl) (by kernel_rfl) (by kernel_rfl) (fun _ _ => (V_loadW (s := 5) rfl rfl (mem_at 0 rfl) Try.underlying75 rfl infLawSuperCodes_75 rfl (by first | rfl | (simp [bcells_length, spCells, pCells, spCells, pCells, wCells, kCells, wCells, kCells, wCells, kCells, spCells, pCells, wCells, kCells, spCells, pCells, wCells, kCells, spCells, pCells]; done) | (simp [bcells_length, spCells, pCells, spCells, pCells, wCells, kCells, wCells, kCells, wCells, kCells, spCells, pCells, wCells, kCells, spCells, pCells, wCells, kCells, spCells, pCells]; omega) | (simp [bcells_length, *, spCells, pCells, spCells, pCells, wCells, kCells, wCells, kCells, wCells, kCells, spCells, pCells, wCells, kCells, spCells, pCells, wCells, kCells, spCells, pCells]; done)))) ?_
           | refine GH_take 29 rfl rfl rfl rfl (by kernel_rfl) (by kernel_rfl) (by kernel_rfl) (fun _ _ => (V_loadA (s := 5) rfl rfl (mem_at 0 rfl) Try.underlying75 rfl infLawSuperCodes_75 rfl rfl (by first | rfl | (simp [bcells_length, spCells, pCells, spCells, pCells, wCells, kCells, wCells, kCells, wCells, kCells, spCells, pCells, wCells, kCells, spCells, pCells, wCells, kCells, spCells, pCells]; done) | (simp [bcells_length, spCells, pCells, spCells, pCells, wCells, kCells, wCells, kCells, wCells, kCells, spCells, pCells, wCells, kCells, spCells, pCells, wCells, kCells, spCells, pCells]; omega) | (simp [bcells_length, *, spCells, pCells, spCells, pCells, wCells, kCells, wCells, kCells, wCells, kCells, spCells, pCells, wCells, kCells, spCells, pCells, wCells, kCells, spCells, pCells]; done)))) ?_
         refine GH_take 31 rfl rfl rfl rfl (by kernel_rfl) (by kernel_rfl) (by kernel_rfl) (fun _ _ => (V_fieldAddr (fo := 0) rfl Try.underlying75 rfl infLawSuperCodes_73 rfl rfl rfl)) ?_
         refine GH_take 32 rfl rfl rfl rfl (by kernel_rfl) (by kernel_rfl) (by kernel_rfl) (fun _ _ => (V_load1 rfl rfl (mem_at 0 rfl) rfl Try.underlying73 rfl)) ?_
         refine GH_take 33 rfl rfl rfl rfl (by kernel_rfl) (by kernel_rfl) (by kernel_rfl) (fun _ _ => (V_rem rfl rfl rfl (by omega) (by omega))) ?_
         first
           | refine GH_take 34 rfl rfl rfl rfl (by kernel_rfl) (by kernel_rfl) (by kernel_rfl) (fun _ _ => ((V_conv rfl rfl Try.underlying73 Try.underlying3).int (wrap_i64 (by omega)))) ?_
           | refine GH_take 34 rfl rfl rfl rfl (by kernel_rfl) (by kernel_rfl) (by kernel_rfl) (fun _ _ => (V_conv rfl rfl Try.underlying73 Try.underlying3)) ?_
         refine GH_all [30] (by kernel_rfl) (by decide) ?_
         refine (And.intro ?_ trivial)
         · skip
           refine GHop_call (L2 := [_, _, _]) rfl rfl rfl rfl rfl rfl Try.call55 (sup_place _ (by assumption)) [] [] rfl rfl [2, 1, 0] (by rintro v post ⟨rfl, rfl⟩; exact ⟨_, rfl⟩) ?_
           rintro v post ⟨rfl, rfl⟩
           show GH _ _ _ _ _ _ _ [_, _, _] _
           refine GH_take 35 rfl rfl rfl rfl (by kernel_rfl) (by kernel_rfl) (by kernel_rfl) (fun _ _ => (V_neq rfl rfl rfl)) ?_
           refine GH_take 36 rfl rfl rfl rfl (by kernel_rfl) (by kernel_rfl) (by kernel_rfl) (fun _ _ => (V_pickF rfl rfl rfl)) ?_
           refine GH_done (by kernel_rfl) ?_
           refine G_ifD rfl (fun hc7 => ?_) (fun hc7 => ?_)
           · (first | (exact absurd rfl hc7) | (exact absurd (decS_mayI b) hc7) | (exact absurd (by decide) hc7) | (exact absurd hc7 (by decide)) | (exfalso; omega))
           refine G_skip ?_
           refine G_seq ?_
           refine G_region (l := [0, 1, 2, 3, 4, 5, 6, 7]) rfl ?_
           refine G_val rfl rfl rfl rfl (V_move rfl rfl) ?_
           refine G_call (L2 := [_, _, _]) rfl rfl rfl rfl rfl rfl Try.call50 ((sup_decode [] (by simp)).weaken (fun v post h => by rw [decT_no empty_not] at h; exact h)) [] [] rfl rfl ?_
           rintro v post ⟨rfl, rfl⟩
           show G _ _ _ [_, _, _] _
           refine G_val rfl rfl rfl rfl (V_move rfl rfl) ?_
           refine G_val rfl rfl rfl rfl (V_extract rfl rfl rfl) ?_
           refine G_val rfl rfl rfl rfl (V_extract rfl rfl rfl) ?_
           refine G_new rfl rfl rfl rfl (N_allocA rfl infLawSuperCodes_75 rfl) (fun b12 => ?_)
           refine G_put (l1 := []) (L' := [_, _, _, _]) rfl rfl rfl rfl (P_storeA (s := 5) rfl rfl rfl (mem_at 0 rfl) (by first | rfl | (simp [bcells_length, spCells, pCells, spCells, pCells, wCells, kCells, wCells, kCells, wCells, kCells, spCells, pCells, wCells, kCells, spCells, pCells, wCells, kCells, spCells, pCells]; done) | (simp [bcells_length, spCells, pCells, spCells, pCells, wCells, kCells, wCells, kCells, wCells, kCells, spCells, pCells, wCells, kCells, spCells, pCells, wCells, kCells, spCells, pCells]; omega) | (simp [bcells_length, *, spCells, pCells, spCells, pCells, wCells, kCells, wCells, kCells, wCells, kCells, spCells, pCells, wCells, kCells, spCells, pCells, wCells, kCells, spCells, pCells]; done)) infLawSuperCodes_75 rfl (by first | rfl | (simp [bcells_length, spCells, pCells, spCells, pCells, wCells, kCells, wCells, kCells, wCells, kCells, spCells, pCells, wCells, kCells, spCells, pCells, wCells, kCells, spCells, pCells]; done) | (simp [bcells_length, spCells, pCells, spCells, pCells, wCells, kCells, wCells, kCells, wCells, kCells, spCells, pCells, wCells, kCells, spCells, pCells, wCells, kCells, spCells, pCells]; omega) | (simp [bcells_length, *, spCells, pCells, spCells, pCells, wCells, kCells, wCells, kCells, wCells, kCells, spCells, pCells, wCells, kCells, spCells, pCells, wCells, kCells, spCells, pCells]; done)) (by first | rfl | exact bcells_all _ | (simp [Value.oneCell', spCells, pCells, spCells, pCells, wCells, kCells, wCells, kCells, wCells, kCells, spCells, pCells, wCells, kCells, spCells, pCells, wCells, kCells, spCells, pCells]; done) | (simp [Value.oneCell', *, spCells, pCells, spCells, pCells, wCells, kCells, wCells, kCells, wCells, kCells, spCells, pCells, wCells, kCells, spCells, pCells, wCells, kCells, spCells, pCells]; done))) rfl ?_
           refine G_val rfl rfl rfl rfl (V_assign rfl rfl) ?_
           refine G_done ?_
           refine G_seq ?_
           refine G_region (l := [0, 1, 2, 3, 4, 5, 6, 7, 8, 9, 10, 11, 12, 13, 14, 15, 16]) rfl ?_
           refine G_val rfl rfl rfl rfl (V_move rfl rfl) ?_
           refine G_val rfl rfl rfl rfl (V_move rfl rfl) ?_
           refine G_val rfl rfl rfl rfl (V_eql rfl rfl rfl) ?_
           refine G_val rfl rfl rfl rfl (V_beql rfl Try.underlying4 rfl rfl) ?_
           refine G_val rfl rfl rfl rfl (V_move rfl rfl) ?_
           refine G_splitD 81 rfl (fun hc8 => ?_) (fun hc8 => ?_)
           rotate_left
           · (first | (exact absurd rfl hc8) | (exact absurd (decS_mayI b) hc8) | (exact absurd (by decide) hc8) | (exact absurd hc8 (by decide)) | (exfalso; omega))
           refine G_val rfl rfl rfl rfl (V_move rfl rfl) ?_
           refine G_val rfl rfl rfl rfl (V_not rfl rfl) ?_
           refine G_val rfl rfl rfl rfl (V_move rfl rfl) ?_
           refine G_split 84 rfl (fun hc9 => ?_) (fun hc9 => ?_)
           rotate_left
           · (first | (exact absurd rfl hc9) | (exact absurd (decS_mayI b) hc9) | (exact absurd (by decide) hc9) | (exact absurd hc9 (by decide)) | (exfalso; omega))
           refine G_off rfl rfl rfl rfl ?_
           refine G_off rfl rfl rfl rfl ?_
           refine G_off rfl rfl rfl rfl ?_
           refine G_val rfl rfl rfl rfl (V_pickT rfl rfl rfl) ?_
           refine G_val rfl rfl rfl rfl (V_pickT rfl rfl rfl) ?_
           refine G_val rfl rfl rfl rfl (V_move rfl rfl) ?_
           refine G_call (L2 := [_, _, _, _]) rfl rfl rfl rfl rfl rfl Try.call47 (sl_live) [] [] rfl rfl ?_
           rintro v post ⟨rfl, rfl⟩
           show G _ _ _ [_, _, _, _] _
           refine G_val rfl rfl rfl rfl (V_pickT rfl rfl rfl) ?_
           refine G_val rfl rfl rfl rfl (V_assign rfl rfl) ?_
           refine G_done ?_
           refine G_ret (post := []) Try.func10 rfl (RVs_cons (RV_tmp rfl) RVs_nil) [] rfl ?_
           dsimp only [packed]
           exact ⟨rfl, rfl⟩


set_option maxRecDepth 100000 in
theorem superCodes_walk : LawWalk 10 Try.f10 := lawwalk_of (fun W base args hs hval => by
  rw [Try.params10] at hs hval
  obtain ⟨l⟩ := args
  match l, hs with
  | [a, b], _ =>
    obtain ⟨s, rfl, hq⟩ := sp_of (hval 0 75 a rfl rfl)
    obtain ⟨t, rfl, p⟩ := okc_str (okv_cell (hval 1 9 b rfl rfl) Try.underlying9 rfl) Try.underlying9
    exact ⟨[], has_nil _, superCodes_all s hq t p⟩)


theorem superCodes_holds : Rows.SuperCodesSaid :=
  OpenClaim.holds_of_wide 10 Try.f10 rfl rfl rfl rfl rfl rfl rfl ⟨rfl, rfl, rfl, rfl, rfl⟩ rfl rfl rfl rfl rfl (by kernel_rfl) Try.func10 (by kernel_rfl)
    (of_decide_eq_true (by kernel_rfl)) (by unfold Func.isWrapper; rw [if_neg (by decide +kernel)]; exact ⟨rfl, rfl⟩)
    (fun os started H enc _ => law_lifted (s := Rows.superCodesSpec) os started H enc Try.func10 (by kernel_rfl)
      (ChangeSpec.witness6 (enc := enc) (C := Try.checked) false ⟨#[], #[.agg #[.int .u32 0, .int .u32 0, .int .u32 0, .int .i64 0, .int .i64 0], .string ByteArray.empty], []⟩ 8 (by kernel_rfl) (by kernel_rfl) (by kernel_rfl) (by kernel_rfl))
      rfl (by kernel_rfl) (by kernel_rfl) (by decide +kernel) (fun ds h => by match ds, h with | [_, _], _ => rfl) superCodes_walk)
#print axioms superCodes_holds

end
end Go.Proofs.Ytkidmbaakdaflaa
