/- The law WireEncodes: of any request the program says as the document does which bytes it is, or why it is none; these are read as the clean request; the call returns true and leaves its argument as it was. -/
import Derived.Test.YtkidmbaakdaflaaWireL
import Derived.Test.YtkidmbaakdaflaaLaw
set_option linter.unusedSimpArgs false
set_option linter.unusedVariables false
namespace Go.Proofs.Ytkidmbaakdaflaa
open Go.ChangeShapes Go.WideShapes Go.ChangeAt Go.RowKit

section
theorem infLawWireEncodes_40 : Try.prog.info? 40 = some Try.t40 := by kernel_rfl

set_option maxRecDepth 100000 in
set_option maxHeartbeats 1000000 in
theorem wireEncodes_all (q : Rq) (hq : RqOk q) :
    Ct Try.prog 6 [.agg (rqCells q).toArray] [] [] fun v post => v = .bool true ∧ post = [] := by
 refine ct_of Try.func6 rfl rfl (fun w0 => ?_)
 show G _ _ [(0, _)] _ _
 refine G_seq ?_
 refine G_region (l := [0, 1]) rfl ?_
 refine G_new rfl rfl rfl rfl (N_boxA rfl rfl) (fun b1 => ?_)
 refine G_val rfl rfl rfl rfl (V_assign rfl rfl) ?_
 refine G_done ?_
 refine G_seq ?_
 rcases wire3 q with ⟨hm, hv⟩ | ⟨hm, hv⟩ | ⟨hm, hv⟩
 · skip
   refine G_region (l := [0, 1, 2, 3, 4, 5, 6]) rfl ?_
   first
     | refine G_val rfl rfl rfl rfl (V_loadW (s := 17) rfl rfl (mem_at 0 rfl) Try.underlying40 rfl infLawWireEncodes_40 rfl (by first | rfl | (simp [bcells_length, rqCells, rqCells, rqCells, rqCells, rqCells, rqCells, rqCells, rqCells]; done) | (simp [bcells_length, rqCells, rqCells, rqCells, rqCells, rqCells, rqCells, rqCells, rqCells]; omega) | (simp [bcells_length, *, rqCells, rqCells, rqCells, rqCells, rqCells, rqCells, rqCells, rqCells]; done))) ?_
     | refine G_val rfl rfl rfl rfl (V_loadA (s := 17) rfl rfl (mem_at 0 rfl) Try.underlying40 rfl infLawWireEncodes_40 rfl rfl (by first | rfl | (simp [bcells_length, rqCells, rqCells, rqCells, rqCells, rqCells, rqCells, rqCells, rqCells]; done) | (simp [bcells_length, rqCells, rqCells, rqCells, rqCells, rqCells, rqCells, rqCells, rqCells]; omega) | (simp [bcells_length, *, rqCells, rqCells, rqCells, rqCells, rqCells, rqCells, rqCells, rqCells]; done))) ?_
   refine G_call (L2 := [_]) rfl rfl rfl rfl rfl rfl Try.call23 ((wire_encode q hq).weaken (fun v post h => by rw [hv] at h; exact h)) [] [] rfl rfl ?_
   rintro v post ⟨rfl, rfl⟩
   show G _ _ _ [_] _
   refine G_val rfl rfl rfl rfl (V_move rfl rfl) ?_
   refine G_val rfl rfl rfl rfl (V_extract rfl rfl rfl) ?_
   refine G_val rfl rfl rfl rfl (V_extract rfl rfl rfl) ?_
   refine G_val rfl rfl rfl rfl (V_assign rfl rfl) ?_
   refine G_val rfl rfl rfl rfl (V_assign rfl rfl) ?_
   refine G_done ?_
   refine G_seq ?_
   refine G_region (l := [0, 1, 2, 3, 4, 5, 6]) rfl ?_
   first
     | refine G_val rfl rfl rfl rfl (V_loadW (s := 17) rfl rfl (mem_at 0 rfl) Try.underlying40 rfl infLawWireEncodes_40 rfl (by first | rfl | (simp [bcells_length, rqCells, rqCells, rqCells, rqCells, rqCells, rqCells, rqCells, rqCells]; done) | (simp [bcells_length, rqCells, rqCells, rqCells, rqCells, rqCells, rqCells, rqCells, rqCells]; omega) | (simp [bcells_length, *, rqCells, rqCells, rqCells, rqCells, rqCells, rqCells, rqCells, rqCells]; done))) ?_
     | refine G_val rfl rfl rfl rfl (V_loadA (s := 17) rfl rfl (mem_at 0 rfl) Try.underlying40 rfl infLawWireEncodes_40 rfl rfl (by first | rfl | (simp [bcells_length, rqCells, rqCells, rqCells, rqCells, rqCells, rqCells, rqCells, rqCells]; done) | (simp [bcells_length, rqCells, rqCells, rqCells, rqCells, rqCells, rqCells, rqCells, rqCells]; omega) | (simp [bcells_length, *, rqCells, rqCells, rqCells, rqCells, rqCells, rqCells, rqCells, rqCells]; done))) ?_
   refine G_call (L2 := [_]) rfl rfl rfl rfl rfl rfl Try.call24 ((rw_encode q hq).weaken (fun v post h => by rw [hv] at h; exact h)) [] [] rfl rfl ?_
   rintro v post ⟨rfl, rfl⟩
   show G _ _ _ [_] _
   refine G_val rfl rfl rfl rfl (V_move rfl rfl) ?_
   refine G_val rfl rfl rfl rfl (V_extract rfl rfl rfl) ?_
   refine G_val rfl rfl rfl rfl (V_extract rfl rfl rfl) ?_
   refine G_val rfl rfl rfl rfl (V_assign rfl rfl) ?_
   refine G_val rfl rfl rfl rfl (V_assign rfl rfl) ?_
   refine G_done ?_
   refine G_seq ?_
   refine G_seq ?_
   refine G_region (l := [0, 1, 2, 3, 4, 5, 6, 7, 8]) rfl ?_
   refine G_val rfl rfl rfl rfl (V_move rfl rfl) ?_
   refine G_val rfl rfl rfl rfl (V_move rfl rfl) ?_
   refine G_val rfl rfl rfl rfl (V_sneq rfl rfl rfl) ?_
   refine G_val rfl rfl rfl rfl (V_move rfl rfl) ?_
   refine G_splitD 22 rfl (fun hc1 => ?_) (fun hc1 => ?_)
   · (first | (exact absurd rfl hc1) | (exfalso; omega))
   refine G_val rfl rfl rfl rfl (V_move rfl rfl) ?_
   refine G_call (L2 := [_]) rfl rfl rfl rfl rfl rfl Try.call25 (wl_num _) [] [] rfl rfl ?_
   rintro v post ⟨rfl, rfl⟩
   show G _ _ _ [_] _
   refine G_val rfl rfl rfl rfl (V_move rfl rfl) ?_
   refine G_val rfl rfl rfl rfl (V_neq rfl rfl rfl) ?_
   refine G_val rfl rfl rfl rfl (V_pickF rfl rfl rfl) ?_
   refine G_done ?_
   refine G_ifD rfl (fun hc2 => ?_) (fun hc2 => ?_)
   · (first | (exact absurd rfl hc2) | (exfalso; omega))
   refine G_skip ?_
   refine G_seq ?_
   refine G_region (l := [0, 1, 2, 3, 4, 5, 6, 7]) rfl ?_
   refine G_val rfl rfl rfl rfl (V_move rfl rfl) ?_
   refine G_call (L2 := [_]) rfl rfl rfl rfl rfl rfl Try.call26 (wire_decode [] (by simp)) [] [] rfl rfl ?_
   rintro v post ⟨rfl, rfl⟩
   show G _ _ _ [_] _
   refine G_val rfl rfl rfl rfl (V_move rfl rfl) ?_
   refine G_val rfl rfl rfl rfl (V_extract rfl rfl rfl) ?_
   refine G_val rfl rfl rfl rfl (V_extract rfl rfl rfl) ?_
   refine G_new rfl rfl rfl rfl (N_allocA rfl infLawWireEncodes_40 rfl) (fun b7 => ?_)
   refine G_put (l1 := []) (L' := [_, _]) rfl rfl rfl rfl (P_storeA (s := 17) rfl rfl rfl (mem_at 0 rfl) (by first | rfl | (simp [bcells_length, rqCells, rqCells, rqCells, rqCells, rqCells, rqCells, rqCells, rqCells]; done) | (simp [bcells_length, rqCells, rqCells, rqCells, rqCells, rqCells, rqCells, rqCells, rqCells]; omega) | (simp [bcells_length, *, rqCells, rqCells, rqCells, rqCells, rqCells, rqCells, rqCells, rqCells]; done)) infLawWireEncodes_40 rfl (by first | rfl | (simp [bcells_length, rqCells, rqCells, rqCells, rqCells, rqCells, rqCells, rqCells, rqCells]; done) | (simp [bcells_length, rqCells, rqCells, rqCells, rqCells, rqCells, rqCells, rqCells, rqCells]; omega) | (simp [bcells_length, *, rqCells, rqCells, rqCells, rqCells, rqCells, rqCells, rqCells, rqCells]; done)) (by first | rfl | exact bcells_all _ | (simp [Value.oneCell', rqCells, rqCells, rqCells, rqCells, rqCells, rqCells, rqCells, rqCells]; done) | (simp [Value.oneCell', *, rqCells, rqCells, rqCells, rqCells, rqCells, rqCells, rqCells, rqCells]; done))) rfl ?_
   refine G_val rfl rfl rfl rfl (V_assign rfl rfl) ?_
   refine G_done ?_
   refine G_seq ?_
   refine GH_start (Lq := [_, _]) (isq := [0, 0]) (m := 17) mixedK rfl rfl ?_
   refine GH_take 0 rfl rfl rfl rfl (by kernel_rfl) (by kernel_rfl) (by kernel_rfl) (fun _ _ => (V_move rfl rfl)) ?_
   refine GH_take 1 rfl rfl rfl rfl (by kernel_rfl) (by kernel_rfl) (by kernel_rfl) (fun _ _ => (V_neq rfl rfl rfl)) ?_
   refine GH_take 2 rfl rfl rfl rfl (by kernel_rfl) (by kernel_rfl) (by kernel_rfl) (fun _ _ => (V_move rfl rfl)) ?_
   refine GH_splitD 35 rfl (fun hc3 => ?_) (fun hc3 => ?_)
   rotate_left
   · (first | (exact absurd rfl hc3) | (exfalso; omega))
   refine GH_takeOff 3 rfl rfl rfl rfl (by kernel_rfl) (by kernel_rfl) (by kernel_rfl) ?_
   refine GH_takeOff 4 rfl rfl rfl rfl (by kernel_rfl) (by kernel_rfl) (by kernel_rfl) ?_
   refine GH_takeOff 5 rfl rfl rfl rfl (by kernel_rfl) (by kernel_rfl) (by kernel_rfl) ?_
   refine GH_takeOff 6 rfl rfl rfl rfl (by kernel_rfl) (by kernel_rfl) (by kernel_rfl) ?_
   refine GH_takeOff 7 rfl rfl rfl rfl (by kernel_rfl) (by kernel_rfl) (by kernel_rfl) ?_
   refine GH_takeOff 8 rfl rfl rfl rfl (by kernel_rfl) (by kernel_rfl) (by kernel_rfl) ?_
   refine GH_takeOff 9 rfl rfl rfl rfl (by kernel_rfl) (by kernel_rfl) (by kernel_rfl) ?_
   refine GH_takeOff 10 rfl rfl rfl rfl (by kernel_rfl) (by kernel_rfl) (by kernel_rfl) ?_
   refine GH_takeOff 11 rfl rfl rfl rfl (by kernel_rfl) (by kernel_rfl) (by kernel_rfl) ?_
   refine GH_take 12 rfl rfl rfl rfl (by kernel_rfl) (by kernel_rfl) (by kernel_rfl) (fun _ _ => (V_pickT rfl rfl rfl)) ?_
   refine GH_take 13 rfl rfl rfl rfl (by kernel_rfl) (by kernel_rfl) (by kernel_rfl) (fun _ _ => (V_move rfl rfl)) ?_
   refine GH_all [14] (by kernel_rfl) (by decide) ?_
   refine (And.intro ?_ trivial)
   · skip
     refine GHop_call (L2 := [_, _]) rfl rfl rfl rfl rfl rfl Try.call28 (wl_live) [] [] rfl rfl [0, 0] (by rintro v post ⟨rfl, rfl⟩; exact ⟨_, rfl⟩) ?_
     rintro v post ⟨rfl, rfl⟩
     show GH _ _ _ _ _ _ _ [_, _] _
     refine GH_take 15 rfl rfl rfl rfl (by kernel_rfl) (by kernel_rfl) (by kernel_rfl) (fun _ _ => (V_pickT rfl rfl rfl)) ?_
     refine GH_take 16 rfl rfl rfl rfl (by kernel_rfl) (by kernel_rfl) (by kernel_rfl) (fun _ _ => (V_assign rfl rfl)) ?_
     refine GH_done (by kernel_rfl) ?_
     refine G_ret (post := []) Try.func6 rfl (RVs_cons (RV_tmp rfl) RVs_nil) [] rfl ?_
     dsimp only [packed]
     exact ⟨rfl, rfl⟩
 · skip
   refine G_region (l := [0, 1, 2, 3, 4, 5, 6]) rfl ?_
   first
     | refine G_val rfl rfl rfl rfl (V_loadW (s := 17) rfl rfl (mem_at 0 rfl) Try.underlying40 rfl infLawWireEncodes_40 rfl (by first | rfl | (simp [bcells_length, rqCells, rqCells, rqCells, rqCells, rqCells, rqCells, rqCells, rqCells]; done) | (simp [bcells_length, rqCells, rqCells, rqCells, rqCells, rqCells, rqCells, rqCells, rqCells]; omega) | (simp [bcells_length, *, rqCells, rqCells, rqCells, rqCells, rqCells, rqCells, rqCells, rqCells]; done))) ?_
     | refine G_val rfl rfl rfl rfl (V_loadA (s := 17) rfl rfl (mem_at 0 rfl) Try.underlying40 rfl infLawWireEncodes_40 rfl rfl (by first | rfl | (simp [bcells_length, rqCells, rqCells, rqCells, rqCells, rqCells, rqCells, rqCells, rqCells]; done) | (simp [bcells_length, rqCells, rqCells, rqCells, rqCells, rqCells, rqCells, rqCells, rqCells]; omega) | (simp [bcells_length, *, rqCells, rqCells, rqCells, rqCells, rqCells, rqCells, rqCells, rqCells]; done))) ?_
   refine G_call (L2 := [_]) rfl rfl rfl rfl rfl rfl Try.call23 ((wire_encode q hq).weaken (fun v post h => by rw [hv] at h; exact h)) [] [] rfl rfl ?_
   rintro v post ⟨rfl, rfl⟩
   show G _ _ _ [_] _
   refine G_val rfl rfl rfl rfl (V_move rfl rfl) ?_
   refine G_val rfl rfl rfl rfl (V_extract rfl rfl rfl) ?_
   refine G_val rfl rfl rfl rfl (V_extract rfl rfl rfl) ?_
   refine G_val rfl rfl rfl rfl (V_assign rfl rfl) ?_
   refine G_val rfl rfl rfl rfl (V_assign rfl rfl) ?_
   refine G_done ?_
   refine G_seq ?_
   refine G_region (l := [0, 1, 2, 3, 4, 5, 6]) rfl ?_
   first
     | refine G_val rfl rfl rfl rfl (V_loadW (s := 17) rfl rfl (mem_at 0 rfl) Try.underlying40 rfl infLawWireEncodes_40 rfl (by first | rfl | (simp [bcells_length, rqCells, rqCells, rqCells, rqCells, rqCells, rqCells, rqCells, rqCells]; done) | (simp [bcells_length, rqCells, rqCells, rqCells, rqCells, rqCells, rqCells, rqCells, rqCells]; omega) | (simp [bcells_length, *, rqCells, rqCells, rqCells, rqCells, rqCells, rqCells, rqCells, rqCells]; done))) ?_
     | refine G_val rfl rfl rfl rfl (V_loadA (s := 17) rfl rfl (mem_at 0 rfl) Try.underlying40 rfl infLawWireEncodes_40 rfl rfl (by first | rfl | (simp [bcells_length, rqCells, rqCells, rqCells, rqCells, rqCells, rqCells, rqCells, rqCells]; done) | (simp [bcells_length, rqCells, rqCells, rqCells, rqCells, rqCells, rqCells, rqCells, rqCells]; omega) | (simp [bcells_length, *, rqCells, rqCells, rqCells, rqCells, rqCells, rqCells, rqCells, rqCells]; done))) ?_
   refine G_call (L2 := [_]) rfl rfl rfl rfl rfl rfl Try.call24 ((rw_encode q hq).weaken (fun v post h => by rw [hv] at h; exact h)) [] [] rfl rfl ?_
   rintro v post ⟨rfl, rfl⟩
   show G _ _ _ [_] _
   refine G_val rfl rfl rfl rfl (V_move rfl rfl) ?_
   refine G_val rfl rfl rfl rfl (V_extract rfl rfl rfl) ?_
   refine G_val rfl rfl rfl rfl (V_extract rfl rfl rfl) ?_
   refine G_val rfl rfl rfl rfl (V_assign rfl rfl) ?_
   refine G_val rfl rfl rfl rfl (V_assign rfl rfl) ?_
   refine G_done ?_
   refine G_seq ?_
   refine G_seq ?_
   refine G_region (l := [0, 1, 2, 3, 4, 5, 6, 7, 8]) rfl ?_
   refine G_val rfl rfl rfl rfl (V_move rfl rfl) ?_
   refine G_val rfl rfl rfl rfl (V_move rfl rfl) ?_
   refine G_val rfl rfl rfl rfl (V_sneq rfl rfl rfl) ?_
   refine G_val rfl rfl rfl rfl (V_move rfl rfl) ?_
   refine G_splitD 22 rfl (fun hc1 => ?_) (fun hc1 => ?_)
   · (first | (exact absurd rfl hc1) | (exfalso; omega))
   refine G_val rfl rfl rfl rfl (V_move rfl rfl) ?_
   refine G_call (L2 := [_]) rfl rfl rfl rfl rfl rfl Try.call25 (wl_num _) [] [] rfl rfl ?_
   rintro v post ⟨rfl, rfl⟩
   show G _ _ _ [_] _
   refine G_val rfl rfl rfl rfl (V_move rfl rfl) ?_
   refine G_val rfl rfl rfl rfl (V_neq rfl rfl rfl) ?_
   refine G_val rfl rfl rfl rfl (V_pickF rfl rfl rfl) ?_
   refine G_done ?_
   refine G_ifD rfl (fun hc2 => ?_) (fun hc2 => ?_)
   · (first | (exact absurd rfl hc2) | (exfalso; omega))
   refine G_skip ?_
   refine G_seq ?_
   refine G_region (l := [0, 1, 2, 3, 4, 5, 6, 7]) rfl ?_
   refine G_val rfl rfl rfl rfl (V_move rfl rfl) ?_
   refine G_call (L2 := [_]) rfl rfl rfl rfl rfl rfl Try.call26 (wire_decode [] (by simp)) [] [] rfl rfl ?_
   rintro v post ⟨rfl, rfl⟩
   show G _ _ _ [_] _
   refine G_val rfl rfl rfl rfl (V_move rfl rfl) ?_
   refine G_val rfl rfl rfl rfl (V_extract rfl rfl rfl) ?_
   refine G_val rfl rfl rfl rfl (V_extract rfl rfl rfl) ?_
   refine G_new rfl rfl rfl rfl (N_allocA rfl infLawWireEncodes_40 rfl) (fun b7 => ?_)
   refine G_put (l1 := []) (L' := [_, _]) rfl rfl rfl rfl (P_storeA (s := 17) rfl rfl rfl (mem_at 0 rfl) (by first | rfl | (simp [bcells_length, rqCells, rqCells, rqCells, rqCells, rqCells, rqCells, rqCells, rqCells]; done) | (simp [bcells_length, rqCells, rqCells, rqCells, rqCells, rqCells, rqCells, rqCells, rqCells]; omega) | (simp [bcells_length, *, rqCells, rqCells, rqCells, rqCells, rqCells, rqCells, rqCells, rqCells]; done)) infLawWireEncodes_40 rfl (by first | rfl | (simp [bcells_length, rqCells, rqCells, rqCells, rqCells, rqCells, rqCells, rqCells, rqCells]; done) | (simp [bcells_length, rqCells, rqCells, rqCells, rqCells, rqCells, rqCells, rqCells, rqCells]; omega) | (simp [bcells_length, *, rqCells, rqCells, rqCells, rqCells, rqCells, rqCells, rqCells, rqCells]; done)) (by first | rfl | exact bcells_all _ | (simp [Value.oneCell', rqCells, rqCells, rqCells, rqCells, rqCells, rqCells, rqCells, rqCells]; done) | (simp [Value.oneCell', *, rqCells, rqCells, rqCells, rqCells, rqCells, rqCells, rqCells, rqCells]; done))) rfl ?_
   refine G_val rfl rfl rfl rfl (V_assign rfl rfl) ?_
   refine G_done ?_
   refine G_seq ?_
   refine GH_start (Lq := [_, _]) (isq := [0, 0]) (m := 17) mixedK rfl rfl ?_
   refine GH_take 0 rfl rfl rfl rfl (by kernel_rfl) (by kernel_rfl) (by kernel_rfl) (fun _ _ => (V_move rfl rfl)) ?_
   refine GH_take 1 rfl rfl rfl rfl (by kernel_rfl) (by kernel_rfl) (by kernel_rfl) (fun _ _ => (V_neq rfl rfl rfl)) ?_
   refine GH_take 2 rfl rfl rfl rfl (by kernel_rfl) (by kernel_rfl) (by kernel_rfl) (fun _ _ => (V_move rfl rfl)) ?_
   refine GH_splitD 35 rfl (fun hc3 => ?_) (fun hc3 => ?_)
   rotate_left
   · (first | (exact absurd rfl hc3) | (exfalso; omega))
   refine GH_takeOff 3 rfl rfl rfl rfl (by kernel_rfl) (by kernel_rfl) (by kernel_rfl) ?_
   refine GH_takeOff 4 rfl rfl rfl rfl (by kernel_rfl) (by kernel_rfl) (by kernel_rfl) ?_
   refine GH_takeOff 5 rfl rfl rfl rfl (by kernel_rfl) (by kernel_rfl) (by kernel_rfl) ?_
   refine GH_takeOff 6 rfl rfl rfl rfl (by kernel_rfl) (by kernel_rfl) (by kernel_rfl) ?_
   refine GH_takeOff 7 rfl rfl rfl rfl (by kernel_rfl) (by kernel_rfl) (by kernel_rfl) ?_
   refine GH_takeOff 8 rfl rfl rfl rfl (by kernel_rfl) (by kernel_rfl) (by kernel_rfl) ?_
   refine GH_takeOff 9 rfl rfl rfl rfl (by kernel_rfl) (by kernel_rfl) (by kernel_rfl) ?_
   refine GH_takeOff 10 rfl rfl rfl rfl (by kernel_rfl) (by kernel_rfl) (by kernel_rfl) ?_
   refine GH_takeOff 11 rfl rfl rfl rfl (by kernel_rfl) (by kernel_rfl) (by kernel_rfl) ?_
   refine GH_take 12 rfl rfl rfl rfl (by kernel_rfl) (by kernel_rfl) (by kernel_rfl) (fun _ _ => (V_pickT rfl rfl rfl)) ?_
   refine GH_take 13 rfl rfl rfl rfl (by kernel_rfl) (by kernel_rfl) (by kernel_rfl) (fun _ _ => (V_move rfl rfl)) ?_
   refine GH_all [14] (by kernel_rfl) (by decide) ?_
   refine (And.intro ?_ trivial)
   · skip
     refine GHop_call (L2 := [_, _]) rfl rfl rfl rfl rfl rfl Try.call28 (wl_live) [] [] rfl rfl [0, 0] (by rintro v post ⟨rfl, rfl⟩; exact ⟨_, rfl⟩) ?_
     rintro v post ⟨rfl, rfl⟩
     show GH _ _ _ _ _ _ _ [_, _] _
     refine GH_take 15 rfl rfl rfl rfl (by kernel_rfl) (by kernel_rfl) (by kernel_rfl) (fun _ _ => (V_pickT rfl rfl rfl)) ?_
     refine GH_take 16 rfl rfl rfl rfl (by kernel_rfl) (by kernel_rfl) (by kernel_rfl) (fun _ _ => (V_assign rfl rfl)) ?_
     refine GH_done (by kernel_rfl) ?_
     refine G_ret (post := []) Try.func6 rfl (RVs_cons (RV_tmp rfl) RVs_nil) [] rfl ?_
     dsimp only [packed]
     exact ⟨rfl, rfl⟩
 · skip
   refine G_region (l := [0, 1, 2, 3, 4, 5, 6]) rfl ?_
   first
     | refine G_val rfl rfl rfl rfl (V_loadW (s := 17) rfl rfl (mem_at 0 rfl) Try.underlying40 rfl infLawWireEncodes_40 rfl (by first | rfl | (simp [bcells_length, rqCells, rqCells, rqCells, rqCells, rqCells, rqCells, rqCells, rqCells]; done) | (simp [bcells_length, rqCells, rqCells, rqCells, rqCells, rqCells, rqCells, rqCells, rqCells]; omega) | (simp [bcells_length, *, rqCells, rqCells, rqCells, rqCells, rqCells, rqCells, rqCells, rqCells]; done))) ?_
     | refine G_val rfl rfl rfl rfl (V_loadA (s := 17) rfl rfl (mem_at 0 rfl) Try.underlying40 rfl infLawWireEncodes_40 rfl rfl (by first | rfl | (simp [bcells_length, rqCells, rqCells, rqCells, rqCells, rqCells, rqCells, rqCells, rqCells]; done) | (simp [bcells_length, rqCells, rqCells, rqCells, rqCells, rqCells, rqCells, rqCells, rqCells]; omega) | (simp [bcells_length, *, rqCells, rqCells, rqCells, rqCells, rqCells, rqCells, rqCells, rqCells]; done))) ?_
   refine G_call (L2 := [_]) rfl rfl rfl rfl rfl rfl Try.call23 ((wire_encode q hq).weaken (fun v post h => by rw [hv] at h; exact h)) [] [] rfl rfl ?_
   rintro v post ⟨rfl, rfl⟩
   show G _ _ _ [_] _
   refine G_val rfl rfl rfl rfl (V_move rfl rfl) ?_
   refine G_val rfl rfl rfl rfl (V_extract rfl rfl rfl) ?_
   refine G_val rfl rfl rfl rfl (V_extract rfl rfl rfl) ?_
   refine G_val rfl rfl rfl rfl (V_assign rfl rfl) ?_
   refine G_val rfl rfl rfl rfl (V_assign rfl rfl) ?_
   refine G_done ?_
   refine G_seq ?_
   refine G_region (l := [0, 1, 2, 3, 4, 5, 6]) rfl ?_
   first
     | refine G_val rfl rfl rfl rfl (V_loadW (s := 17) rfl rfl (mem_at 0 rfl) Try.underlying40 rfl infLawWireEncodes_40 rfl (by first | rfl | (simp [bcells_length, rqCells, rqCells, rqCells, rqCells, rqCells, rqCells, rqCells, rqCells]; done) | (simp [bcells_length, rqCells, rqCells, rqCells, rqCells, rqCells, rqCells, rqCells, rqCells]; omega) | (simp [bcells_length, *, rqCells, rqCells, rqCells, rqCells, rqCells, rqCells, rqCells, rqCells]; done))) ?_
     | refine G_val rfl rfl rfl rfl (V_loadA (s := 17) rfl rfl (mem_at 0 rfl) Try.underlying40 rfl infLawWireEncodes_40 rfl rfl (by first | rfl | (simp [bcells_length, rqCells, rqCells, rqCells, rqCells, rqCells, rqCells, rqCells, rqCells]; done) | (simp [bcells_length, rqCells, rqCells, rqCells, rqCells, rqCells, rqCells, rqCells, rqCells]; omega) | (simp [bcells_length, *, rqCells, rqCells, rqCells, rqCells, rqCells, rqCells, rqCells, rqCells]; done))) ?_
   refine G_call (L2 := [_]) rfl rfl rfl rfl rfl rfl Try.call24 ((rw_encode q hq).weaken (fun v post h => by rw [hv] at h; exact h)) [] [] rfl rfl ?_
   rintro v post ⟨rfl, rfl⟩
   show G _ _ _ [_] _
   refine G_val rfl rfl rfl rfl (V_move rfl rfl) ?_
   refine G_val rfl rfl rfl rfl (V_extract rfl rfl rfl) ?_
   refine G_val rfl rfl rfl rfl (V_extract rfl rfl rfl) ?_
   refine G_val rfl rfl rfl rfl (V_assign rfl rfl) ?_
   refine G_val rfl rfl rfl rfl (V_assign rfl rfl) ?_
   refine G_done ?_
   refine G_seq ?_
   refine G_seq ?_
   refine G_region (l := [0, 1, 2, 3, 4, 5, 6, 7, 8]) rfl ?_
   refine G_val rfl rfl rfl rfl (V_move rfl rfl) ?_
   refine G_val rfl rfl rfl rfl (V_move rfl rfl) ?_
   refine G_val rfl rfl rfl rfl (V_sneq rfl rfl rfl) ?_
   refine G_val rfl rfl rfl rfl (V_move rfl rfl) ?_
   refine G_splitD 22 rfl (fun hc1 => ?_) (fun hc1 => ?_)
   · (first | (exact absurd rfl hc1) | (exfalso; omega))
   refine G_val rfl rfl rfl rfl (V_move rfl rfl) ?_
   refine G_call (L2 := [_]) rfl rfl rfl rfl rfl rfl Try.call25 (wl_num _) [] [] rfl rfl ?_
   rintro v post ⟨rfl, rfl⟩
   show G _ _ _ [_] _
   refine G_val rfl rfl rfl rfl (V_move rfl rfl) ?_
   refine G_val rfl rfl rfl rfl (V_neq rfl rfl rfl) ?_
   refine G_val rfl rfl rfl rfl (V_pickF rfl rfl rfl) ?_
   refine G_done ?_
   refine G_ifD rfl (fun hc2 => ?_) (fun hc2 => ?_)
   · (first | (exact absurd rfl hc2) | (exfalso; omega))
   refine G_skip ?_
   refine G_seq ?_
   refine G_region (l := [0, 1, 2, 3, 4, 5, 6, 7]) rfl ?_
   refine G_val rfl rfl rfl rfl (V_move rfl rfl) ?_
   refine G_call (L2 := [_]) rfl rfl rfl rfl rfl rfl Try.call26 (wire_decode3 q hm.1 hm.2) [] [] rfl rfl ?_
   rintro v post ⟨rfl, rfl⟩
   show G _ _ _ [_] _
   refine G_val rfl rfl rfl rfl (V_move rfl rfl) ?_
   refine G_val rfl rfl rfl rfl (V_extract rfl rfl rfl) ?_
   refine G_val rfl rfl rfl rfl (V_extract rfl rfl rfl) ?_
   refine G_new rfl rfl rfl rfl (N_allocA rfl infLawWireEncodes_40 rfl) (fun b7 => ?_)
   refine G_put (l1 := []) (L' := [_, _]) rfl rfl rfl rfl (P_storeA (s := 17) rfl rfl rfl (mem_at 0 rfl) (by first | rfl | (simp [bcells_length, rqCells, rqCells, rqCells, rqCells, rqCells, rqCells, rqCells, rqCells]; done) | (simp [bcells_length, rqCells, rqCells, rqCells, rqCells, rqCells, rqCells, rqCells, rqCells]; omega) | (simp [bcells_length, *, rqCells, rqCells, rqCells, rqCells, rqCells, rqCells, rqCells, rqCells]; done)) infLawWireEncodes_40 rfl (by first | rfl | (simp [bcells_length, rqCells, rqCells, rqCells, rqCells, rqCells, rqCells, rqCells, rqCells]; done) | (simp [bcells_length, rqCells, rqCells, rqCells, rqCells, rqCells, rqCells, rqCells, rqCells]; omega) | (simp [bcells_length, *, rqCells, rqCells, rqCells, rqCells, rqCells, rqCells, rqCells, rqCells]; done)) (by first | rfl | exact bcells_all _ | (simp [Value.oneCell', rqCells, rqCells, rqCells, rqCells, rqCells, rqCells, rqCells, rqCells]; done) | (simp [Value.oneCell', *, rqCells, rqCells, rqCells, rqCells, rqCells, rqCells, rqCells, rqCells]; done))) rfl ?_
   refine G_val rfl rfl rfl rfl (V_assign rfl rfl) ?_
   refine G_done ?_
   refine G_seq ?_
   refine GH_start (Lq := [_, _]) (isq := [0, 0]) (m := 17) mixedK rfl rfl ?_
   refine GH_take 0 rfl rfl rfl rfl (by kernel_rfl) (by kernel_rfl) (by kernel_rfl) (fun _ _ => (V_move rfl rfl)) ?_
   refine GH_take 1 rfl rfl rfl rfl (by kernel_rfl) (by kernel_rfl) (by kernel_rfl) (fun _ _ => (V_neq rfl rfl rfl)) ?_
   refine GH_take 2 rfl rfl rfl rfl (by kernel_rfl) (by kernel_rfl) (by kernel_rfl) (fun _ _ => (V_move rfl rfl)) ?_
   refine GH_splitD 35 rfl (fun hc3 => ?_) (fun hc3 => ?_)
   · (first | (exact absurd rfl hc3) | (exfalso; omega))
   first
     | refine GH_take 3 rfl rfl rfl rfl (by kernel_rfl) (by kernel_rfl) (by kernel_rfl) (fun _ _ => (V_loadW (s := 17) rfl rfl (mem_at 0 rfl) Try.underlying40 rfl infLawWireEncodes_40 rfl (by first | rfl | (simp [bcells_length, rqCells, rqCells, rqCells, rqCells, rqCells, rqCells, rqCells, rqCells]; done) | (simp [bcells_length, rqCells, rqCells, rqCells, rqCells, rqCells, rqCells, rqCells, rqCells]; omega) | (simp [bcells_length, *, rqCells, rqCells, rqCells, rqCells, rqCells, rqCells, rqCells, rqCells]; done)))) ?_
     | refine GH_take 3 rfl rfl rfl rfl (by kernel_rfl) (by kernel_rfl) (by kernel_rfl) (fun _ _ => (V_loadA (s := 17) rfl rfl (mem_at 0 rfl) Try.underlying40 rfl infLawWireEncodes_40 rfl rfl (by first | rfl | (simp [bcells_length, rqCells, rqCells, rqCells, rqCells, rqCells, rqCells, rqCells, rqCells]; done) | (simp [bcells_length, rqCells, rqCells, rqCells, rqCells, rqCells, rqCells, rqCells, rqCells]; omega) | (simp [bcells_length, *, rqCells, rqCells, rqCells, rqCells, rqCells, rqCells, rqCells, rqCells]; done)))) ?_
   first
     | refine GH_take 4 rfl rfl rfl rfl (by kernel_rfl) (by kernel_rfl) (by kernel_rfl) (fun _ _ => (V_loadW (s := 17) rfl rfl (mem_at 1 rfl) Try.underlying40 rfl infLawWireEncodes_40 rfl (by first | rfl | (simp [bcells_length, rqCells, rqCells, rqCells, rqCells, rqCells, rqCells, rqCells, rqCells]; done) | (simp [bcells_length, rqCells, rqCells, rqCells, rqCells, rqCells, rqCells, rqCells, rqCells]; omega) | (simp [bcells_length, *, rqCells, rqCells, rqCells, rqCells, rqCells, rqCells, rqCells, rqCells]; done)))) ?_
     | refine GH_take 4 rfl rfl rfl rfl (by kernel_rfl) (by kernel_rfl) (by kernel_rfl) (fun _ _ => (V_loadA (s := 17) rfl rfl (mem_at 1 rfl) Try.underlying40 rfl infLawWireEncodes_40 rfl rfl (by first | rfl | (simp [bcells_length, rqCells, rqCells, rqCells, rqCells, rqCells, rqCells, rqCells, rqCells]; done) | (simp [bcells_length, rqCells, rqCells, rqCells, rqCells, rqCells, rqCells, rqCells, rqCells]; omega) | (simp [bcells_length, *, rqCells, rqCells, rqCells, rqCells, rqCells, rqCells, rqCells, rqCells]; done)))) ?_
   refine GH_all [5] (by kernel_rfl) (by decide) ?_
   refine (And.intro ?_ trivial)
   · skip
     refine GHop_call (L2 := [_, _]) rfl rfl rfl rfl rfl rfl Try.call27 (rmsg_clean q) [] [] rfl rfl [0, 0] (by rintro v post ⟨rfl, rfl⟩; exact ⟨_, rfl⟩) ?_
     rintro v post ⟨rfl, rfl⟩
     show GH _ _ _ _ _ _ _ [_, _] _
     refine GH_take 6 rfl rfl rfl rfl (by kernel_rfl) (by kernel_rfl) (by kernel_rfl) (fun _ _ => (V_aggeql (m := 6) rfl Try.eqGuardType40 (by kernel_rfl) (by decide) (formed_of Try.underlying40 rfl (by kernel_rfl : Try.prog.cellsOf 40 = 17) (by first | rfl | (simp [bcells_length, rqCells, rqCells, rqCells, rqCells, rqCells, rqCells, rqCells, rqCells]; done) | (simp [bcells_length, rqCells, rqCells, rqCells, rqCells, rqCells, rqCells, rqCells, rqCells]; omega) | (simp [bcells_length, *, rqCells, rqCells, rqCells, rqCells, rqCells, rqCells, rqCells, rqCells]; done))) (formed_of Try.underlying40 rfl (by kernel_rfl : Try.prog.cellsOf 40 = 17) (by first | rfl | (simp [bcells_length, rqCells, rqCells, rqCells, rqCells, rqCells, rqCells, rqCells, rqCells]; done) | (simp [bcells_length, rqCells, rqCells, rqCells, rqCells, rqCells, rqCells, rqCells, rqCells]; omega) | (simp [bcells_length, *, rqCells, rqCells, rqCells, rqCells, rqCells, rqCells, rqCells, rqCells]; done))) rfl rfl (key_rq _ (refRq_ok hq)) (key_rq _ (refRq_ok hq)))) ?_
     refine GH_take 7 rfl rfl rfl rfl (by kernel_rfl) (by kernel_rfl) (by kernel_rfl) (fun _ _ => (V_move rfl rfl)) ?_
     refine GH_splitD 40 rfl (fun hc4 => ?_) (fun hc4 => ?_)
     rotate_left
     · (first | (exact absurd rfl hc4) | (exfalso; omega))
     refine GH_take 8 rfl rfl rfl rfl (by kernel_rfl) (by kernel_rfl) (by kernel_rfl) (fun _ _ => (V_move rfl rfl)) ?_
     refine GH_all [9] (by kernel_rfl) (by decide) ?_
     refine (And.intro ?_ trivial)
     · skip
       refine GHop_call (L2 := [_, _]) rfl rfl rfl rfl rfl rfl Try.call25 (wl_num _) [] [] rfl rfl [0, 0] (by rintro v post ⟨rfl, rfl⟩; exact ⟨_, rfl⟩) ?_
       rintro v post ⟨rfl, rfl⟩
       show GH _ _ _ _ _ _ _ [_, _] _
       refine GH_take 10 rfl rfl rfl rfl (by kernel_rfl) (by kernel_rfl) (by kernel_rfl) (fun _ _ => (V_eql rfl rfl rfl)) ?_
       refine GH_take 11 rfl rfl rfl rfl (by kernel_rfl) (by kernel_rfl) (by kernel_rfl) (fun _ _ => (V_pickT rfl rfl rfl)) ?_
       refine GH_take 12 rfl rfl rfl rfl (by kernel_rfl) (by kernel_rfl) (by kernel_rfl) (fun _ _ => (V_pickF rfl rfl rfl)) ?_
       refine GH_take 13 rfl rfl rfl rfl (by kernel_rfl) (by kernel_rfl) (by kernel_rfl) (fun _ _ => (V_move rfl rfl)) ?_
       refine GH_splitD 46 rfl (fun hc5 => ?_) (fun hc5 => ?_)
       rotate_left
       · (first | (exact absurd rfl hc5) | (exfalso; omega))
       refine GH_all [14] (by kernel_rfl) (by decide) ?_
       refine (And.intro ?_ trivial)
       · skip
         refine GHop_call (L2 := [_, _]) rfl rfl rfl rfl rfl rfl Try.call28 (wl_live) [] [] rfl rfl [0, 0] (by rintro v post ⟨rfl, rfl⟩; exact ⟨_, rfl⟩) ?_
         rintro v post ⟨rfl, rfl⟩
         show GH _ _ _ _ _ _ _ [_, _] _
         refine GH_take 15 rfl rfl rfl rfl (by kernel_rfl) (by kernel_rfl) (by kernel_rfl) (fun _ _ => (V_pickT rfl rfl rfl)) ?_
         refine GH_take 16 rfl rfl rfl rfl (by kernel_rfl) (by kernel_rfl) (by kernel_rfl) (fun _ _ => (V_assign rfl rfl)) ?_
         refine GH_done (by kernel_rfl) ?_
         refine G_ret (post := []) Try.func6 rfl (RVs_cons (RV_tmp rfl) RVs_nil) [] rfl ?_
         dsimp only [packed]
         exact ⟨rfl, rfl⟩


set_option maxRecDepth 100000 in
theorem wireEncodes_walk : LawWalk 6 Try.f6 := lawwalk_of (fun W base args hs hval => by
  rw [Try.params6] at hs hval
  obtain ⟨l⟩ := args
  match l, hs with
  | [a], _ =>
    obtain ⟨q, rfl, hq⟩ := rq_of (hval 0 40 a rfl rfl)
    exact ⟨[], has_nil _, wireEncodes_all q hq⟩)


theorem wireEncodes_holds : Rows.WireEncodesSaid :=
  OpenClaim.holds_of_wide 6 Try.f6 rfl rfl rfl rfl rfl rfl rfl ⟨rfl, rfl, rfl, rfl, rfl⟩ rfl rfl rfl rfl rfl (by kernel_rfl) Try.func6 (by kernel_rfl)
    (of_decide_eq_true (by kernel_rfl)) (by unfold Func.isWrapper; rw [if_neg (by decide +kernel)]; exact ⟨rfl, rfl⟩)
    (fun os started H enc _ => law_lifted (s := Rows.wireEncodesSpec) os started H enc Try.func6 (by kernel_rfl)
      (ChangeSpec.witness6 (enc := enc) (C := Try.checked) false ⟨#[], #[.agg #[.int .i64 0, .string ByteArray.empty, .string ByteArray.empty, .string ByteArray.empty, .string ByteArray.empty, .string ByteArray.empty, .string ByteArray.empty, .int .i64 0, .int .i64 0, .int .i64 0, .int .i64 0, .int .i64 0, .int .i64 0, .int .i64 0, .int .i64 0, .int .i64 0, .bool false]], []⟩ 8 (by kernel_rfl) (by kernel_rfl) (by kernel_rfl) (by kernel_rfl))
      rfl (by kernel_rfl) (by kernel_rfl) (by decide +kernel) (fun ds h => by match ds, h with | [_], _ => rfl) wireEncodes_walk)
#print axioms wireEncodes_holds

end
end Go.Proofs.Ytkidmbaakdaflaa
