/- The law FrameCodes: of any text the program makes the pieces that the document makes, or none, and of any number up to 2^20 as many; what has these pieces ahead of any others is decoded as the text; the call returns true and leaves its arguments as they were. -/
import Derived.Test.YtkidmbaakdaflaaDoorFrameL
import Derived.Test.YtkidmbaakdaflaaDoorLawT
set_option linter.unusedSimpArgs false
set_option linter.unusedVariables false
namespace Go.Proofs.YtkidmbaakdaflaaDoor
open Go.ChangeShapes Go.WideShapes Go.ChangeAt Go.RowKit

section
theorem infLawFrameCodes_9 : Tryd.prog.info? 9 = some Tryd.t9 := by kernel_rfl

theorem enc_cases (s : List UInt8) (ms : List (List UInt8)) : (decS (encF s ++ ms) = s ∧ decM (encF s ++ ms) = (encF s).length ∧ decE (encF s ++ ms) = 0 ∧ encFE s = 0) ∨ encFE s = 4 := by
  by_cases h : s.length ≤ 1000
  · obtain ⟨d1, d2, d3⟩ := dec_enc h ms
    exact .inl ⟨d1, d2, d3, (encF_yes h).2⟩
  · exact .inr (encF_no h).2
attribute [local irreducible] decS decM decE encF encFE manyN
set_option maxRecDepth 100000 in
set_option maxHeartbeats 4000000 in
theorem frameCodes_all (s : List UInt8) (hsl : s.length ≤ 9223372036854775807) (o1 : Option Nat) (p1 q1 : Nat) (c1 : Array Value) (T1 : TypeId) (f1 : Nat × Nat) (ms : List (List UInt8)) (hs : Sees 1 o1 p1 q1 c1 (ms.map strC) ms.length) (hl : ∀ x ∈ ms, x.length ≤ 9223372036854775807) (z : Int) (hz0 : -9223372036854775808 ≤ z) (hz1 : z ≤ 9223372036854775807) :
    Ct Tryd.prog 3 [.string (bs s), sv o1 p1 ms.length q1, .int .i64 z] [(o1, .cells c1 T1 f1)] [] fun v post => v = .bool true ∧ post = [] := by
 have hk1 := hs.le
 have hk2 := hs.max
 have hsm := enc_small s
 refine ct_of Tryd.func3 rfl rfl (fun w0 => ?_)
 show G _ _ [(0, _), (1, _), (2, _)] _ _
 refine G_seq ?_
 refine G_region (l := [0]) rfl ?_
 refine G_val rfl rfl rfl rfl (V_assign rfl rfl) ?_
 refine G_done ?_
 refine G_seq ?_
 refine G_seq ?_
 refine G_region (l := [0, 1, 2, 3, 4, 5, 6, 7]) rfl ?_
 refine G_val rfl rfl rfl rfl (V_move rfl rfl) ?_
 refine G_val rfl rfl rfl rfl (V_slen rfl rfl Tryd.underlying9 rfl) ?_
 refine G_val rfl rfl rfl rfl (V_gtr rfl rfl rfl) ?_
 refine G_val rfl rfl rfl rfl (V_move rfl rfl) ?_
 refine G_splitD 17 rfl (fun hc1 => ?_) (fun hc1 => ?_)
 · skip
   refine G_off rfl rfl rfl rfl ?_
   refine G_off rfl rfl rfl rfl ?_
   refine G_off rfl rfl rfl rfl ?_
   refine G_val rfl rfl rfl rfl (V_pickT rfl rfl rfl) ?_
   refine G_done ?_
   refine G_then rfl ?_
   refine G_seq ?_
   refine G_region (l := [0, 1]) rfl ?_
   refine G_call (L2 := []) rfl rfl rfl rfl rfl rfl Tryd.call5 (fl_live) [] [] rfl rfl ?_
   rintro v post ⟨rfl, rfl⟩
   refine G_val rfl rfl rfl rfl (V_assign rfl rfl) ?_
   refine G_done ?_
   refine G_ret (post := []) Tryd.func3 rfl (RVs_cons (RV_tmp rfl) RVs_nil) [] rfl ?_
   dsimp only [packed]
   exact ⟨rfl, rfl⟩
 refine G_val rfl rfl rfl rfl (V_move rfl rfl) ?_
 refine G_val rfl rfl rfl rfl (V_len rfl rfl Tryd.underlying22 rfl) ?_
 refine G_val rfl rfl rfl rfl (V_gtr rfl rfl rfl) ?_
 refine G_val rfl rfl rfl rfl (V_pickF rfl rfl rfl) ?_
 refine G_done ?_
 refine G_ifD rfl (fun hc2 => ?_) (fun hc2 => ?_)
 · skip
   refine G_seq ?_
   refine G_region (l := [0, 1]) rfl ?_
   refine G_call (L2 := []) rfl rfl rfl rfl rfl rfl Tryd.call5 (fl_live) [] [] rfl rfl ?_
   rintro v post ⟨rfl, rfl⟩
   refine G_val rfl rfl rfl rfl (V_assign rfl rfl) ?_
   refine G_done ?_
   refine G_ret (post := []) Tryd.func3 rfl (RVs_cons (RV_tmp rfl) RVs_nil) [] rfl ?_
   dsimp only [packed]
   exact ⟨rfl, rfl⟩
 refine G_skip ?_
 refine G_seq ?_
 refine G_region (l := [0, 1, 2, 3, 4, 5, 6]) rfl ?_
 refine G_val rfl rfl rfl rfl (V_move rfl rfl) ?_
 refine G_call (L2 := []) rfl rfl rfl rfl rfl rfl Tryd.call6 (fr_encode s (by omega)) [] [] rfl rfl ?_
 rintro v post ⟨ua, hua, rfl, rfl⟩
 show G _ _ _ [_] _
 refine G_val rfl rfl rfl rfl (V_move rfl rfl) ?_
 refine G_val rfl rfl rfl rfl (V_extract rfl rfl rfl) ?_
 refine G_val rfl rfl rfl rfl (V_extract rfl rfl rfl) ?_
 refine G_val rfl rfl rfl rfl (V_assign rfl rfl) ?_
 refine G_val rfl rfl rfl rfl (V_assign rfl rfl) ?_
 refine G_done ?_
 refine G_seq ?_
 refine G_region (l := [0, 1, 2, 3, 4, 5, 6]) rfl ?_
 refine G_val rfl rfl rfl rfl (V_move rfl rfl) ?_
 refine G_call (L2 := [_]) rfl rfl rfl rfl rfl rfl Tryd.call7 (rfr_encode s (by omega)) [] [] rfl rfl ?_
 rintro v post ⟨ub, hub, rfl, rfl⟩
 show G _ _ _ [_, _] _
 refine G_val rfl rfl rfl rfl (V_move rfl rfl) ?_
 refine G_val rfl rfl rfl rfl (V_extract rfl rfl rfl) ?_
 refine G_val rfl rfl rfl rfl (V_extract rfl rfl rfl) ?_
 refine G_val rfl rfl rfl rfl (V_assign rfl rfl) ?_
 refine G_val rfl rfl rfl rfl (V_assign rfl rfl) ?_
 refine G_done ?_
 refine G_seq ?_
 refine G_seq ?_
 refine G_region (l := [0, 1, 2, 3, 4, 5, 6, 7, 8, 9, 10, 11, 12, 13, 14, 15, 16, 17, 18, 19, 20, 21, 22, 23, 24, 25, 26, 27, 28, 29, 30, 31, 32, 33]) rfl ?_
 refine G_val rfl rfl rfl rfl (V_move rfl rfl) ?_
 refine G_val rfl rfl rfl rfl (V_move rfl rfl) ?_
 refine G_call (L2 := [_, _]) rfl rfl rfl rfl rfl rfl Tryd.call8 (ref_texts ua.ob 0 ua.cap ua.cs 9 ua.fz ub.ob 0 ub.cap ub.cs 9 ub.fz (encF s) (encF s) hua.sees hub.sees) [] [2, 1] rfl rfl ?_
 rintro v post ⟨rfl, rfl⟩
 show G _ _ _ [_, _] _
 refine G_val rfl rfl rfl rfl (V_notD rfl rfl) ?_
 refine G_val rfl rfl rfl rfl (V_move rfl rfl) ?_
 refine G_splitD 37 rfl (fun hc3 => ?_) (fun hc3 => ?_)
 · (first | (exact absurd rfl hc3) | (exact absurd (many_neg (by omega)) hc3) | (exfalso; omega))
 refine G_val rfl rfl rfl rfl (V_move rfl rfl) ?_
 refine G_call (L2 := [_, _]) rfl rfl rfl rfl rfl rfl Tryd.call9 (fl_num _) [] [] rfl rfl ?_
 rintro v post ⟨rfl, rfl⟩
 show G _ _ _ [_, _] _
 refine G_val rfl rfl rfl rfl (V_move rfl rfl) ?_
 refine G_val rfl rfl rfl rfl (V_neq rfl rfl rfl) ?_
 refine G_val rfl rfl rfl rfl (V_pickF rfl rfl rfl) ?_
 refine G_val rfl rfl rfl rfl (V_move rfl rfl) ?_
 refine G_splitD 43 rfl (fun hc4 => ?_) (fun hc4 => ?_)
 · (first | (exact absurd rfl hc4) | (exact absurd (many_neg (by omega)) hc4) | (exfalso; omega))
 refine G_val rfl rfl rfl rfl (V_move rfl rfl) ?_
 refine G_val rfl rfl rfl rfl (V_lss rfl rfl rfl) ?_
 refine G_val rfl rfl rfl rfl (V_move rfl rfl) ?_
 refine G_splitD 46 rfl (fun hc5 => ?_) (fun hc5 => ?_)
 · skip
   refine G_val rfl rfl rfl rfl (V_move rfl rfl) ?_
   refine G_val rfl rfl rfl rfl (V_gtr rfl rfl rfl) ?_
   refine G_val rfl rfl rfl rfl (V_pickT rfl rfl rfl) ?_
   refine G_val rfl rfl rfl rfl (V_move rfl rfl) ?_
   refine G_splitD 50 rfl (fun hc6 => ?_) (fun hc6 => ?_)
   · skip
     refine G_val rfl rfl rfl rfl (V_move rfl rfl) ?_
     refine G_call (L2 := [_, _]) rfl rfl rfl rfl rfl rfl Tryd.call10 (fr_manyZ z (by omega) (by omega)) [] [] rfl rfl ?_
     rintro v post ⟨rfl, rfl⟩
     show G _ _ _ [_, _] _
     refine G_val rfl rfl rfl rfl (V_move rfl rfl) ?_
     refine G_call (L2 := [_, _]) rfl rfl rfl rfl rfl rfl Tryd.call11 (rfr_manyZ z (by omega) (by omega)) [] [] rfl rfl ?_
     rintro v post ⟨rfl, rfl⟩
     show G _ _ _ [_, _] _
     refine G_val rfl rfl rfl rfl (V_neq rfl rfl rfl) ?_
     refine G_val rfl rfl rfl rfl (V_pickT rfl rfl rfl) ?_
     refine G_val rfl rfl rfl rfl (V_pickF rfl rfl rfl) ?_
     refine G_val rfl rfl rfl rfl (V_move rfl rfl) ?_
     refine G_splitD 58 rfl (fun hc7 => ?_) (fun hc7 => ?_)
     · (first | (exact absurd rfl hc7) | (exact absurd (many_neg (by omega)) hc7) | (exfalso; omega))
     refine G_val rfl rfl rfl rfl (V_move rfl rfl) ?_
     refine G_val rfl rfl rfl rfl (V_leq rfl rfl rfl) ?_
     refine G_val rfl rfl rfl rfl (V_move rfl rfl) ?_
     refine G_splitD 61 rfl (fun hc8 => ?_) (fun hc8 => ?_)
     · (first | (exact absurd rfl hc8) | (exact absurd (many_neg (by omega)) hc8) | (exfalso; omega))
     refine G_off rfl rfl rfl rfl ?_
     refine G_off rfl rfl rfl rfl ?_
     refine G_off rfl rfl rfl rfl ?_
     refine G_val rfl rfl rfl rfl (V_pickF rfl rfl rfl) ?_
     refine G_val rfl rfl rfl rfl (V_pickF rfl rfl rfl) ?_
     refine G_done ?_
     refine G_else rfl ?_
     refine G_skip ?_
     refine G_seq ?_
     rcases enc_cases s ms with ⟨d1, d2, d3, en2⟩ | en2
     · skip
       refine G_region (l := [0, 1, 2, 3, 4, 5, 6, 7, 8, 9, 10, 11, 12]) rfl ?_
       refine G_new rfl rfl rfl rfl (N_build0 rfl Tryd.underlying22 infLawFrameCodes_9) (fun b68 => ?_)
       refine G_val rfl rfl rfl rfl (V_move rfl rfl) ?_
       refine G_append (l1 := []) (s := ⟨some b68, #[], (0, 0), 0⟩) (nn := 0) (m := (encF s).length) (news := ((encF s).map strC)) (bt := 16) rfl rfl rfl rfl Tryd.underlying22 Tryd.underlying22 (by first | exact .inl rfl | exact .inr ⟨_, rfl⟩) infLawFrameCodes_9 rfl rfl rfl rfl rfl rfl (own_empty 1 b68) rfl (src_sees hua.sees (by first | exact mem_at 0 rfl | exact mem_at 1 rfl | exact mem_at 2 rfl | exact mem_at 3 rfl) (strs_one _)) (by omega) (by omega) ?_
       intro u3 hu3 _
       show G _ _ _ [_, _, _] _
       rw [List.nil_append, Nat.zero_add] at hu3
       rw [Nat.zero_add]
       refine G_val rfl rfl rfl rfl (V_move rfl rfl) ?_
       refine G_append (l1 := []) (s := u3) (nn := (encF s).length) (m := ms.length) (news := (ms.map strC)) (bt := 16) rfl rfl rfl rfl Tryd.underlying22 Tryd.underlying22 (by first | exact .inl rfl | exact .inr ⟨_, rfl⟩) infLawFrameCodes_9 rfl rfl rfl rfl rfl rfl hu3 rfl (src_sees hs (mem_at 0 rfl) (strs_one _)) (by omega) (by omega) ?_
       intro u4 hu4 _
       show G _ _ _ [_, _, _] _
       rw [← List.map_append, ← List.length_append] at hu4
       rw [← List.length_append]
       refine G_call (L2 := [_, _, _]) rfl rfl rfl rfl rfl rfl Tryd.call12 (fr_decode u4.ob 0 u4.cap u4.cs 9 u4.fz (encF s ++ ms) hu4.sees (enc_all hl)) [] [1] rfl rfl ?_
       rintro v post ⟨rfl, rfl⟩
       show G _ _ _ [_, _, _] _
       refine G_val rfl rfl rfl rfl (V_move rfl rfl) ?_
       refine G_val rfl rfl rfl rfl (V_extract rfl rfl rfl) ?_
       refine G_val rfl rfl rfl rfl (V_extract rfl rfl rfl) ?_
       refine G_val rfl rfl rfl rfl (V_extract rfl rfl rfl) ?_
       refine G_val rfl rfl rfl rfl (V_assign rfl rfl) ?_
       refine G_val rfl rfl rfl rfl (V_assign rfl rfl) ?_
       refine G_val rfl rfl rfl rfl (V_assign rfl rfl) ?_
       refine G_done ?_
       refine G_seq ?_
       try rw [d1, d2, d3]
       refine G_region (l := [0, 1, 2, 3, 4, 5, 6, 7, 8, 9, 10, 11, 12, 13, 14, 15, 16, 17, 18, 19, 20, 21]) rfl ?_
       refine G_val rfl rfl rfl rfl (V_move rfl rfl) ?_
       refine G_val rfl rfl rfl rfl (V_neq rfl rfl rfl) ?_
       refine G_val rfl rfl rfl rfl (V_move rfl rfl) ?_
       refine G_splitD 79 rfl (fun hc9 => ?_) (fun hc9 => ?_)
       · (first | (exact absurd rfl hc9) | (exact absurd (many_neg (by omega)) hc9) | (exfalso; omega))
       refine G_val rfl rfl rfl rfl (V_move rfl rfl) ?_
       refine G_val rfl rfl rfl rfl (V_move rfl rfl) ?_
       refine G_val rfl rfl rfl rfl (V_seql rfl rfl rfl) ?_
       refine G_val rfl rfl rfl rfl (V_move rfl rfl) ?_
       refine G_splitD 83 rfl (fun hc10 => ?_) (fun hc10 => ?_)
       rotate_left
       · (first | (exact absurd rfl hc10) | (exact absurd (many_neg (by omega)) hc10) | (exfalso; omega))
       refine G_val rfl rfl rfl rfl (V_move rfl rfl) ?_
       refine G_val rfl rfl rfl rfl (V_move rfl rfl) ?_
       refine G_val rfl rfl rfl rfl (V_len rfl rfl Tryd.underlying22 rfl) ?_
       refine G_val rfl rfl rfl rfl (V_eql rfl rfl rfl) ?_
       refine G_val rfl rfl rfl rfl (V_pickT rfl rfl rfl) ?_
       refine G_val rfl rfl rfl rfl (V_move rfl rfl) ?_
       refine G_splitD 89 rfl (fun hc11 => ?_) (fun hc11 => ?_)
       rotate_left
       · (first | (exact absurd rfl hc11) | (exact absurd (many_neg (by omega)) hc11) | (exfalso; omega))
       refine G_val rfl rfl rfl rfl (V_move rfl rfl) ?_
       refine G_call (L2 := [_, _, _]) rfl rfl rfl rfl rfl rfl Tryd.call9 (fl_num _) [] [] rfl rfl ?_
       rintro v post ⟨rfl, rfl⟩
       show G _ _ _ [_, _, _] _
       refine G_val rfl rfl rfl rfl (V_eql rfl rfl rfl) ?_
       refine G_val rfl rfl rfl rfl (V_pickT rfl rfl rfl) ?_
       refine G_val rfl rfl rfl rfl (V_pickF rfl rfl rfl) ?_
       refine G_val rfl rfl rfl rfl (V_move rfl rfl) ?_
       refine G_splitD 95 rfl (fun hc12 => ?_) (fun hc12 => ?_)
       rotate_left
       · (first | (exact absurd rfl hc12) | (exact absurd (many_neg (by omega)) hc12) | (exfalso; omega))
       refine G_call (L2 := [_, _, _]) rfl rfl rfl rfl rfl rfl Tryd.call5 (fl_live) [] [] rfl rfl ?_
       rintro v post ⟨rfl, rfl⟩
       show G _ _ _ [_, _, _] _
       refine G_val rfl rfl rfl rfl (V_pickT rfl rfl rfl) ?_
       refine G_val rfl rfl rfl rfl (V_assign rfl rfl) ?_
       refine G_done ?_
       refine G_ret (post := []) Tryd.func3 rfl (RVs_cons (RV_tmp rfl) RVs_nil) [] rfl ?_
       dsimp only [packed]
       exact ⟨rfl, rfl⟩
     · skip
       refine G_region (l := [0, 1, 2, 3, 4, 5, 6, 7, 8, 9, 10, 11, 12]) rfl ?_
       refine G_new rfl rfl rfl rfl (N_build0 rfl Tryd.underlying22 infLawFrameCodes_9) (fun b68 => ?_)
       refine G_val rfl rfl rfl rfl (V_move rfl rfl) ?_
       refine G_append (l1 := []) (s := ⟨some b68, #[], (0, 0), 0⟩) (nn := 0) (m := (encF s).length) (news := ((encF s).map strC)) (bt := 16) rfl rfl rfl rfl Tryd.underlying22 Tryd.underlying22 (by first | exact .inl rfl | exact .inr ⟨_, rfl⟩) infLawFrameCodes_9 rfl rfl rfl rfl rfl rfl (own_empty 1 b68) rfl (src_sees hua.sees (by first | exact mem_at 0 rfl | exact mem_at 1 rfl | exact mem_at 2 rfl | exact mem_at 3 rfl) (strs_one _)) (by omega) (by omega) ?_
       intro u3 hu3 _
       show G _ _ _ [_, _, _] _
       rw [List.nil_append, Nat.zero_add] at hu3
       rw [Nat.zero_add]
       refine G_val rfl rfl rfl rfl (V_move rfl rfl) ?_
       refine G_append (l1 := []) (s := u3) (nn := (encF s).length) (m := ms.length) (news := (ms.map strC)) (bt := 16) rfl rfl rfl rfl Tryd.underlying22 Tryd.underlying22 (by first | exact .inl rfl | exact .inr ⟨_, rfl⟩) infLawFrameCodes_9 rfl rfl rfl rfl rfl rfl hu3 rfl (src_sees hs (mem_at 0 rfl) (strs_one _)) (by omega) (by omega) ?_
       intro u4 hu4 _
       show G _ _ _ [_, _, _] _
       rw [← List.map_append, ← List.length_append] at hu4
       rw [← List.length_append]
       refine G_call (L2 := [_, _, _]) rfl rfl rfl rfl rfl rfl Tryd.call12 (fr_decode u4.ob 0 u4.cap u4.cs 9 u4.fz (encF s ++ ms) hu4.sees (enc_all hl)) [] [1] rfl rfl ?_
       rintro v post ⟨rfl, rfl⟩
       show G _ _ _ [_, _, _] _
       refine G_val rfl rfl rfl rfl (V_move rfl rfl) ?_
       refine G_val rfl rfl rfl rfl (V_extract rfl rfl rfl) ?_
       refine G_val rfl rfl rfl rfl (V_extract rfl rfl rfl) ?_
       refine G_val rfl rfl rfl rfl (V_extract rfl rfl rfl) ?_
       refine G_val rfl rfl rfl rfl (V_assign rfl rfl) ?_
       refine G_val rfl rfl rfl rfl (V_assign rfl rfl) ?_
       refine G_val rfl rfl rfl rfl (V_assign rfl rfl) ?_
       refine G_done ?_
       refine G_seq ?_
       try rw [d1, d2, d3]
       refine G_region (l := [0, 1, 2, 3, 4, 5, 6, 7, 8, 9, 10, 11, 12, 13, 14, 15, 16, 17, 18, 19, 20, 21]) rfl ?_
       refine G_val rfl rfl rfl rfl (V_move rfl rfl) ?_
       refine G_val rfl rfl rfl rfl (V_neq rfl rfl rfl) ?_
       refine G_val rfl rfl rfl rfl (V_move rfl rfl) ?_
       refine G_splitD 79 rfl (fun hc9 => ?_) (fun hc9 => ?_)
       rotate_left
       · (first | (exact absurd rfl hc9) | (exact absurd (many_neg (by omega)) hc9) | (exfalso; omega))
       refine G_off rfl rfl rfl rfl ?_
       refine G_off rfl rfl rfl rfl ?_
       refine G_off rfl rfl rfl rfl ?_
       refine G_off rfl rfl rfl rfl ?_
       refine G_off rfl rfl rfl rfl ?_
       refine G_off rfl rfl rfl rfl ?_
       refine G_off rfl rfl rfl rfl ?_
       refine G_off rfl rfl rfl rfl ?_
       refine G_off rfl rfl rfl rfl ?_
       refine G_off rfl rfl rfl rfl ?_
       refine G_off rfl rfl rfl rfl ?_
       refine G_off rfl rfl rfl rfl ?_
       refine G_off rfl rfl rfl rfl ?_
       refine G_off rfl rfl rfl rfl ?_
       refine G_val rfl rfl rfl rfl (V_pickT rfl rfl rfl) ?_
       refine G_val rfl rfl rfl rfl (V_move rfl rfl) ?_
       refine G_call (L2 := [_, _, _]) rfl rfl rfl rfl rfl rfl Tryd.call5 (fl_live) [] [] rfl rfl ?_
       rintro v post ⟨rfl, rfl⟩
       show G _ _ _ [_, _, _] _
       refine G_val rfl rfl rfl rfl (V_pickT rfl rfl rfl) ?_
       refine G_val rfl rfl rfl rfl (V_assign rfl rfl) ?_
       refine G_done ?_
       refine G_ret (post := []) Tryd.func3 rfl (RVs_cons (RV_tmp rfl) RVs_nil) [] rfl ?_
       dsimp only [packed]
       exact ⟨rfl, rfl⟩
   refine G_off rfl rfl rfl rfl ?_
   refine G_off rfl rfl rfl rfl ?_
   refine G_off rfl rfl rfl rfl ?_
   refine G_off rfl rfl rfl rfl ?_
   refine G_off rfl rfl rfl rfl ?_
   refine G_val rfl rfl rfl rfl (V_pickF rfl rfl rfl) ?_
   refine G_val rfl rfl rfl rfl (V_pickF rfl rfl rfl) ?_
   refine G_val rfl rfl rfl rfl (V_move rfl rfl) ?_
   refine G_val rfl rfl rfl rfl (V_move rfl rfl) ?_
   refine G_val rfl rfl rfl rfl (V_leq rfl rfl rfl) ?_
   refine G_val rfl rfl rfl rfl (V_move rfl rfl) ?_
   refine G_splitD 61 rfl (fun hc7 => ?_) (fun hc7 => ?_)
   rotate_left
   · (first | (exact absurd rfl hc7) | (exact absurd (many_neg (by omega)) hc7) | (exfalso; omega))
   refine G_val rfl rfl rfl rfl (V_move rfl rfl) ?_
   refine G_call (L2 := [_, _]) rfl rfl rfl rfl rfl rfl Tryd.call10 (fr_manyZ z (by omega) (by omega)) [] [] rfl rfl ?_
   rintro v post ⟨rfl, rfl⟩
   show G _ _ _ [_, _] _
   refine G_val rfl rfl rfl rfl (V_neq rfl rfl rfl) ?_
   refine G_val rfl rfl rfl rfl (V_pickT rfl rfl rfl) ?_
   refine G_val rfl rfl rfl rfl (V_pickF rfl rfl rfl) ?_
   refine G_done ?_
   refine G_ifD rfl (fun hc8 => ?_) (fun hc8 => ?_)
   · (first | (exact absurd rfl hc8) | (exact absurd (many_neg (by omega)) hc8) | (exfalso; omega))
   refine G_skip ?_
   refine G_seq ?_
   rcases enc_cases s ms with ⟨d1, d2, d3, en2⟩ | en2
   · skip
     refine G_region (l := [0, 1, 2, 3, 4, 5, 6, 7, 8, 9, 10, 11, 12]) rfl ?_
     refine G_new rfl rfl rfl rfl (N_build0 rfl Tryd.underlying22 infLawFrameCodes_9) (fun b68 => ?_)
     refine G_val rfl rfl rfl rfl (V_move rfl rfl) ?_
     refine G_append (l1 := []) (s := ⟨some b68, #[], (0, 0), 0⟩) (nn := 0) (m := (encF s).length) (news := ((encF s).map strC)) (bt := 16) rfl rfl rfl rfl Tryd.underlying22 Tryd.underlying22 (by first | exact .inl rfl | exact .inr ⟨_, rfl⟩) infLawFrameCodes_9 rfl rfl rfl rfl rfl rfl (own_empty 1 b68) rfl (src_sees hua.sees (by first | exact mem_at 0 rfl | exact mem_at 1 rfl | exact mem_at 2 rfl | exact mem_at 3 rfl) (strs_one _)) (by omega) (by omega) ?_
     intro u3 hu3 _
     show G _ _ _ [_, _, _] _
     rw [List.nil_append, Nat.zero_add] at hu3
     rw [Nat.zero_add]
     refine G_val rfl rfl rfl rfl (V_move rfl rfl) ?_
     refine G_append (l1 := []) (s := u3) (nn := (encF s).length) (m := ms.length) (news := (ms.map strC)) (bt := 16) rfl rfl rfl rfl Tryd.underlying22 Tryd.underlying22 (by first | exact .inl rfl | exact .inr ⟨_, rfl⟩) infLawFrameCodes_9 rfl rfl rfl rfl rfl rfl hu3 rfl (src_sees hs (mem_at 0 rfl) (strs_one _)) (by omega) (by omega) ?_
     intro u4 hu4 _
     show G _ _ _ [_, _, _] _
     rw [← List.map_append, ← List.length_append] at hu4
     rw [← List.length_append]
     refine G_call (L2 := [_, _, _]) rfl rfl rfl rfl rfl rfl Tryd.call12 (fr_decode u4.ob 0 u4.cap u4.cs 9 u4.fz (encF s ++ ms) hu4.sees (enc_all hl)) [] [1] rfl rfl ?_
     rintro v post ⟨rfl, rfl⟩
     show G _ _ _ [_, _, _] _
     refine G_val rfl rfl rfl rfl (V_move rfl rfl) ?_
     refine G_val rfl rfl rfl rfl (V_extract rfl rfl rfl) ?_
     refine G_val rfl rfl rfl rfl (V_extract rfl rfl rfl) ?_
     refine G_val rfl rfl rfl rfl (V_extract rfl rfl rfl) ?_
     refine G_val rfl rfl rfl rfl (V_assign rfl rfl) ?_
     refine G_val rfl rfl rfl rfl (V_assign rfl rfl) ?_
     refine G_val rfl rfl rfl rfl (V_assign rfl rfl) ?_
     refine G_done ?_
     refine G_seq ?_
     try rw [d1, d2, d3]
     refine G_region (l := [0, 1, 2, 3, 4, 5, 6, 7, 8, 9, 10, 11, 12, 13, 14, 15, 16, 17, 18, 19, 20, 21]) rfl ?_
     refine G_val rfl rfl rfl rfl (V_move rfl rfl) ?_
     refine G_val rfl rfl rfl rfl (V_neq rfl rfl rfl) ?_
     refine G_val rfl rfl rfl rfl (V_move rfl rfl) ?_
     refine G_splitD 79 rfl (fun hc9 => ?_) (fun hc9 => ?_)
     · (first | (exact absurd rfl hc9) | (exact absurd (many_neg (by omega)) hc9) | (exfalso; omega))
     refine G_val rfl rfl rfl rfl (V_move rfl rfl) ?_
     refine G_val rfl rfl rfl rfl (V_move rfl rfl) ?_
     refine G_val rfl rfl rfl rfl (V_seql rfl rfl rfl) ?_
     refine G_val rfl rfl rfl rfl (V_move rfl rfl) ?_
     refine G_splitD 83 rfl (fun hc10 => ?_) (fun hc10 => ?_)
     rotate_left
     · (first | (exact absurd rfl hc10) | (exact absurd (many_neg (by omega)) hc10) | (exfalso; omega))
     refine G_val rfl rfl rfl rfl (V_move rfl rfl) ?_
     refine G_val rfl rfl rfl rfl (V_move rfl rfl) ?_
     refine G_val rfl rfl rfl rfl (V_len rfl rfl Tryd.underlying22 rfl) ?_
     refine G_val rfl rfl rfl rfl (V_eql rfl rfl rfl) ?_
     refine G_val rfl rfl rfl rfl (V_pickT rfl rfl rfl) ?_
     refine G_val rfl rfl rfl rfl (V_move rfl rfl) ?_
     refine G_splitD 89 rfl (fun hc11 => ?_) (fun hc11 => ?_)
     rotate_left
     · (first | (exact absurd rfl hc11) | (exact absurd (many_neg (by omega)) hc11) | (exfalso; omega))
     refine G_val rfl rfl rfl rfl (V_move rfl rfl) ?_
     refine G_call (L2 := [_, _, _]) rfl rfl rfl rfl rfl rfl Tryd.call9 (fl_num _) [] [] rfl rfl ?_
     rintro v post ⟨rfl, rfl⟩
     show G _ _ _ [_, _, _] _
     refine G_val rfl rfl rfl rfl (V_eql rfl rfl rfl) ?_
     refine G_val rfl rfl rfl rfl (V_pickT rfl rfl rfl) ?_
     refine G_val rfl rfl rfl rfl (V_pickF rfl rfl rfl) ?_
     refine G_val rfl rfl rfl rfl (V_move rfl rfl) ?_
     refine G_splitD 95 rfl (fun hc12 => ?_) (fun hc12 => ?_)
     rotate_left
     · (first | (exact absurd rfl hc12) | (exact absurd (many_neg (by omega)) hc12) | (exfalso; omega))
     refine G_call (L2 := [_, _, _]) rfl rfl rfl rfl rfl rfl Tryd.call5 (fl_live) [] [] rfl rfl ?_
     rintro v post ⟨rfl, rfl⟩
     show G _ _ _ [_, _, _] _
     refine G_val rfl rfl rfl rfl (V_pickT rfl rfl rfl) ?_
     refine G_val rfl rfl rfl rfl (V_assign rfl rfl) ?_
     refine G_done ?_
     refine G_ret (post := []) Tryd.func3 rfl (RVs_cons (RV_tmp rfl) RVs_nil) [] rfl ?_
     dsimp only [packed]
     exact ⟨rfl, rfl⟩
   · skip
     refine G_region (l := [0, 1, 2, 3, 4, 5, 6, 7, 8, 9, 10, 11, 12]) rfl ?_
     refine G_new rfl rfl rfl rfl (N_build0 rfl Tryd.underlying22 infLawFrameCodes_9) (fun b68 => ?_)
     refine G_val rfl rfl rfl rfl (V_move rfl rfl) ?_
     refine G_append (l1 := []) (s := ⟨some b68, #[], (0, 0), 0⟩) (nn := 0) (m := (encF s).length) (news := ((encF s).map strC)) (bt := 16) rfl rfl rfl rfl Tryd.underlying22 Tryd.underlying22 (by first | exact .inl rfl | exact .inr ⟨_, rfl⟩) infLawFrameCodes_9 rfl rfl rfl rfl rfl rfl (own_empty 1 b68) rfl (src_sees hua.sees (by first | exact mem_at 0 rfl | exact mem_at 1 rfl | exact mem_at 2 rfl | exact mem_at 3 rfl) (strs_one _)) (by omega) (by omega) ?_
     intro u3 hu3 _
     show G _ _ _ [_, _, _] _
     rw [List.nil_append, Nat.zero_add] at hu3
     rw [Nat.zero_add]
     refine G_val rfl rfl rfl rfl (V_move rfl rfl) ?_
     refine G_append (l1 := []) (s := u3) (nn := (encF s).length) (m := ms.length) (news := (ms.map strC)) (bt := 16) rfl rfl rfl rfl Tryd.underlying22 Tryd.underlying22 (by first | exact .inl rfl | exact .inr ⟨_, rfl⟩) infLawFrameCodes_9 rfl rfl rfl rfl rfl rfl hu3 rfl (src_sees hs (mem_at 0 rfl) (strs_one _)) (by omega) (by omega) ?_
     intro u4 hu4 _
     show G _ _ _ [_, _, _] _
     rw [← List.map_append, ← List.length_append] at hu4
     rw [← List.length_append]
     refine G_call (L2 := [_, _, _]) rfl rfl rfl rfl rfl rfl Tryd.call12 (fr_decode u4.ob 0 u4.cap u4.cs 9 u4.fz (encF s ++ ms) hu4.sees (enc_all hl)) [] [1] rfl rfl ?_
     rintro v post ⟨rfl, rfl⟩
     show G _ _ _ [_, _, _] _
     refine G_val rfl rfl rfl rfl (V_move rfl rfl) ?_
     refine G_val rfl rfl rfl rfl (V_extract rfl rfl rfl) ?_
     refine G_val rfl rfl rfl rfl (V_extract rfl rfl rfl) ?_
     refine G_val rfl rfl rfl rfl (V_extract rfl rfl rfl) ?_
     refine G_val rfl rfl rfl rfl (V_assign rfl rfl) ?_
     refine G_val rfl rfl rfl rfl (V_assign rfl rfl) ?_
     refine G_val rfl rfl rfl rfl (V_assign rfl rfl) ?_
     refine G_done ?_
     refine G_seq ?_
     try rw [d1, d2, d3]
     refine G_region (l := [0, 1, 2, 3, 4, 5, 6, 7, 8, 9, 10, 11, 12, 13, 14, 15, 16, 17, 18, 19, 20, 21]) rfl ?_
     refine G_val rfl rfl rfl rfl (V_move rfl rfl) ?_
     refine G_val rfl rfl rfl rfl (V_neq rfl rfl rfl) ?_
     refine G_val rfl rfl rfl rfl (V_move rfl rfl) ?_
     refine G_splitD 79 rfl (fun hc9 => ?_) (fun hc9 => ?_)
     rotate_left
     · (first | (exact absurd rfl hc9) | (exact absurd (many_neg (by omega)) hc9) | (exfalso; omega))
     refine G_off rfl rfl rfl rfl ?_
     refine G_off rfl rfl rfl rfl ?_
     refine G_off rfl rfl rfl rfl ?_
     refine G_off rfl rfl rfl rfl ?_
     refine G_off rfl rfl rfl rfl ?_
     refine G_off rfl rfl rfl rfl ?_
     refine G_off rfl rfl rfl rfl ?_
     refine G_off rfl rfl rfl rfl ?_
     refine G_off rfl rfl rfl rfl ?_
     refine G_off rfl rfl rfl rfl ?_
     refine G_off rfl rfl rfl rfl ?_
     refine G_off rfl rfl rfl rfl ?_
     refine G_off rfl rfl rfl rfl ?_
     refine G_off rfl rfl rfl rfl ?_
     refine G_val rfl rfl rfl rfl (V_pickT rfl rfl rfl) ?_
     refine G_val rfl rfl rfl rfl (V_move rfl rfl) ?_
     refine G_call (L2 := [_, _, _]) rfl rfl rfl rfl rfl rfl Tryd.call5 (fl_live) [] [] rfl rfl ?_
     rintro v post ⟨rfl, rfl⟩
     show G _ _ _ [_, _, _] _
     refine G_val rfl rfl rfl rfl (V_pickT rfl rfl rfl) ?_
     refine G_val rfl rfl rfl rfl (V_assign rfl rfl) ?_
     refine G_done ?_
     refine G_ret (post := []) Tryd.func3 rfl (RVs_cons (RV_tmp rfl) RVs_nil) [] rfl ?_
     dsimp only [packed]
     exact ⟨rfl, rfl⟩
 refine G_off rfl rfl rfl rfl ?_
 refine G_off rfl rfl rfl rfl ?_
 refine G_val rfl rfl rfl rfl (V_pickF rfl rfl rfl) ?_
 refine G_val rfl rfl rfl rfl (V_move rfl rfl) ?_
 refine G_off rfl rfl rfl rfl ?_
 refine G_off rfl rfl rfl rfl ?_
 refine G_off rfl rfl rfl rfl ?_
 refine G_off rfl rfl rfl rfl ?_
 refine G_off rfl rfl rfl rfl ?_
 refine G_val rfl rfl rfl rfl (V_pickF rfl rfl rfl) ?_
 refine G_val rfl rfl rfl rfl (V_pickF rfl rfl rfl) ?_
 refine G_val rfl rfl rfl rfl (V_move rfl rfl) ?_
 refine G_val rfl rfl rfl rfl (V_move rfl rfl) ?_
 refine G_val rfl rfl rfl rfl (V_leq rfl rfl rfl) ?_
 refine G_val rfl rfl rfl rfl (V_move rfl rfl) ?_
 refine G_splitD 61 rfl (fun hc6 => ?_) (fun hc6 => ?_)
 · (first | (exact absurd rfl hc6) | (exact absurd (many_neg (by omega)) hc6) | (exfalso; omega))
 refine G_off rfl rfl rfl rfl ?_
 refine G_off rfl rfl rfl rfl ?_
 refine G_off rfl rfl rfl rfl ?_
 refine G_val rfl rfl rfl rfl (V_pickF rfl rfl rfl) ?_
 refine G_val rfl rfl rfl rfl (V_pickF rfl rfl rfl) ?_
 refine G_done ?_
 refine G_else rfl ?_
 refine G_skip ?_
 refine G_seq ?_
 rcases enc_cases s ms with ⟨d1, d2, d3, en2⟩ | en2
 · skip
   refine G_region (l := [0, 1, 2, 3, 4, 5, 6, 7, 8, 9, 10, 11, 12]) rfl ?_
   refine G_new rfl rfl rfl rfl (N_build0 rfl Tryd.underlying22 infLawFrameCodes_9) (fun b68 => ?_)
   refine G_val rfl rfl rfl rfl (V_move rfl rfl) ?_
   refine G_append (l1 := []) (s := ⟨some b68, #[], (0, 0), 0⟩) (nn := 0) (m := (encF s).length) (news := ((encF s).map strC)) (bt := 16) rfl rfl rfl rfl Tryd.underlying22 Tryd.underlying22 (by first | exact .inl rfl | exact .inr ⟨_, rfl⟩) infLawFrameCodes_9 rfl rfl rfl rfl rfl rfl (own_empty 1 b68) rfl (src_sees hua.sees (by first | exact mem_at 0 rfl | exact mem_at 1 rfl | exact mem_at 2 rfl | exact mem_at 3 rfl) (strs_one _)) (by omega) (by omega) ?_
   intro u3 hu3 _
   show G _ _ _ [_, _, _] _
   rw [List.nil_append, Nat.zero_add] at hu3
   rw [Nat.zero_add]
   refine G_val rfl rfl rfl rfl (V_move rfl rfl) ?_
   refine G_append (l1 := []) (s := u3) (nn := (encF s).length) (m := ms.length) (news := (ms.map strC)) (bt := 16) rfl rfl rfl rfl Tryd.underlying22 Tryd.underlying22 (by first | exact .inl rfl | exact .inr ⟨_, rfl⟩) infLawFrameCodes_9 rfl rfl rfl rfl rfl rfl hu3 rfl (src_sees hs (mem_at 0 rfl) (strs_one _)) (by omega) (by omega) ?_
   intro u4 hu4 _
   show G _ _ _ [_, _, _] _
   rw [← List.map_append, ← List.length_append] at hu4
   rw [← List.length_append]
   refine G_call (L2 := [_, _, _]) rfl rfl rfl rfl rfl rfl Tryd.call12 (fr_decode u4.ob 0 u4.cap u4.cs 9 u4.fz (encF s ++ ms) hu4.sees (enc_all hl)) [] [1] rfl rfl ?_
   rintro v post ⟨rfl, rfl⟩
   show G _ _ _ [_, _, _] _
   refine G_val rfl rfl rfl rfl (V_move rfl rfl) ?_
   refine G_val rfl rfl rfl rfl (V_extract rfl rfl rfl) ?_
   refine G_val rfl rfl rfl rfl (V_extract rfl rfl rfl) ?_
   refine G_val rfl rfl rfl rfl (V_extract rfl rfl rfl) ?_
   refine G_val rfl rfl rfl rfl (V_assign rfl rfl) ?_
   refine G_val rfl rfl rfl rfl (V_assign rfl rfl) ?_
   refine G_val rfl rfl rfl rfl (V_assign rfl rfl) ?_
   refine G_done ?_
   refine G_seq ?_
   try rw [d1, d2, d3]
   refine G_region (l := [0, 1, 2, 3, 4, 5, 6, 7, 8, 9, 10, 11, 12, 13, 14, 15, 16, 17, 18, 19, 20, 21]) rfl ?_
   refine G_val rfl rfl rfl rfl (V_move rfl rfl) ?_
   refine G_val rfl rfl rfl rfl (V_neq rfl rfl rfl) ?_
   refine G_val rfl rfl rfl rfl (V_move rfl rfl) ?_
   refine G_splitD 79 rfl (fun hc7 => ?_) (fun hc7 => ?_)
   · (first | (exact absurd rfl hc7) | (exact absurd (many_neg (by omega)) hc7) | (exfalso; omega))
   refine G_val rfl rfl rfl rfl (V_move rfl rfl) ?_
   refine G_val rfl rfl rfl rfl (V_move rfl rfl) ?_
   refine G_val rfl rfl rfl rfl (V_seql rfl rfl rfl) ?_
   refine G_val rfl rfl rfl rfl (V_move rfl rfl) ?_
   refine G_splitD 83 rfl (fun hc8 => ?_) (fun hc8 => ?_)
   rotate_left
   · (first | (exact absurd rfl hc8) | (exact absurd (many_neg (by omega)) hc8) | (exfalso; omega))
   refine G_val rfl rfl rfl rfl (V_move rfl rfl) ?_
   refine G_val rfl rfl rfl rfl (V_move rfl rfl) ?_
   refine G_val rfl rfl rfl rfl (V_len rfl rfl Tryd.underlying22 rfl) ?_
   refine G_val rfl rfl rfl rfl (V_eql rfl rfl rfl) ?_
   refine G_val rfl rfl rfl rfl (V_pickT rfl rfl rfl) ?_
   refine G_val rfl rfl rfl rfl (V_move rfl rfl) ?_
   refine G_splitD 89 rfl (fun hc9 => ?_) (fun hc9 => ?_)
   rotate_left
   · (first | (exact absurd rfl hc9) | (exact absurd (many_neg (by omega)) hc9) | (exfalso; omega))
   refine G_val rfl rfl rfl rfl (V_move rfl rfl) ?_
   refine G_call (L2 := [_, _, _]) rfl rfl rfl rfl rfl rfl Tryd.call9 (fl_num _) [] [] rfl rfl ?_
   rintro v post ⟨rfl, rfl⟩
   show G _ _ _ [_, _, _] _
   refine G_val rfl rfl rfl rfl (V_eql rfl rfl rfl) ?_
   refine G_val rfl rfl rfl rfl (V_pickT rfl rfl rfl) ?_
   refine G_val rfl rfl rfl rfl (V_pickF rfl rfl rfl) ?_
   refine G_val rfl rfl rfl rfl (V_move rfl rfl) ?_
   refine G_splitD 95 rfl (fun hc10 => ?_) (fun hc10 => ?_)
   rotate_left
   · (first | (exact absurd rfl hc10) | (exact absurd (many_neg (by omega)) hc10) | (exfalso; omega))
   refine G_call (L2 := [_, _, _]) rfl rfl rfl rfl rfl rfl Tryd.call5 (fl_live) [] [] rfl rfl ?_
   rintro v post ⟨rfl, rfl⟩
   show G _ _ _ [_, _, _] _
   refine G_val rfl rfl rfl rfl (V_pickT rfl rfl rfl) ?_
   refine G_val rfl rfl rfl rfl (V_assign rfl rfl) ?_
   refine G_done ?_
   refine G_ret (post := []) Tryd.func3 rfl (RVs_cons (RV_tmp rfl) RVs_nil) [] rfl ?_
   dsimp only [packed]
   exact ⟨rfl, rfl⟩
 · skip
   refine G_region (l := [0, 1, 2, 3, 4, 5, 6, 7, 8, 9, 10, 11, 12]) rfl ?_
   refine G_new rfl rfl rfl rfl (N_build0 rfl Tryd.underlying22 infLawFrameCodes_9) (fun b68 => ?_)
   refine G_val rfl rfl rfl rfl (V_move rfl rfl) ?_
   refine G_append (l1 := []) (s := ⟨some b68, #[], (0, 0), 0⟩) (nn := 0) (m := (encF s).length) (news := ((encF s).map strC)) (bt := 16) rfl rfl rfl rfl Tryd.underlying22 Tryd.underlying22 (by first | exact .inl rfl | exact .inr ⟨_, rfl⟩) infLawFrameCodes_9 rfl rfl rfl rfl rfl rfl (own_empty 1 b68) rfl (src_sees hua.sees (by first | exact mem_at 0 rfl | exact mem_at 1 rfl | exact mem_at 2 rfl | exact mem_at 3 rfl) (strs_one _)) (by omega) (by omega) ?_
   intro u3 hu3 _
   show G _ _ _ [_, _, _] _
   rw [List.nil_append, Nat.zero_add] at hu3
   rw [Nat.zero_add]
   refine G_val rfl rfl rfl rfl (V_move rfl rfl) ?_
   refine G_append (l1 := []) (s := u3) (nn := (encF s).length) (m := ms.length) (news := (ms.map strC)) (bt := 16) rfl rfl rfl rfl Tryd.underlying22 Tryd.underlying22 (by first | exact .inl rfl | exact .inr ⟨_, rfl⟩) infLawFrameCodes_9 rfl rfl rfl rfl rfl rfl hu3 rfl (src_sees hs (mem_at 0 rfl) (strs_one _)) (by omega) (by omega) ?_
   intro u4 hu4 _
   show G _ _ _ [_, _, _] _
   rw [← List.map_append, ← List.length_append] at hu4
   rw [← List.length_append]
   refine G_call (L2 := [_, _, _]) rfl rfl rfl rfl rfl rfl Tryd.call12 (fr_decode u4.ob 0 u4.cap u4.cs 9 u4.fz (encF s ++ ms) hu4.sees (enc_all hl)) [] [1] rfl rfl ?_
   rintro v post ⟨rfl, rfl⟩
   show G _ _ _ [_, _, _] _
   refine G_val rfl rfl rfl rfl (V_move rfl rfl) ?_
   refine G_val rfl rfl rfl rfl (V_extract rfl rfl rfl) ?_
   refine G_val rfl rfl rfl rfl (V_extract rfl rfl rfl) ?_
   refine G_val rfl rfl rfl rfl (V_extract rfl rfl rfl) ?_
   refine G_val rfl rfl rfl rfl (V_assign rfl rfl) ?_
   refine G_val rfl rfl rfl rfl (V_assign rfl rfl) ?_
   refine G_val rfl rfl rfl rfl (V_assign rfl rfl) ?_
   refine G_done ?_
   refine G_seq ?_
   try rw [d1, d2, d3]
   refine G_region (l := [0, 1, 2, 3, 4, 5, 6, 7, 8, 9, 10, 11, 12, 13, 14, 15, 16, 17, 18, 19, 20, 21]) rfl ?_
   refine G_val rfl rfl rfl rfl (V_move rfl rfl) ?_
   refine G_val rfl rfl rfl rfl (V_neq rfl rfl rfl) ?_
   refine G_val rfl rfl rfl rfl (V_move rfl rfl) ?_
   refine G_splitD 79 rfl (fun hc7 => ?_) (fun hc7 => ?_)
   rotate_left
   · (first | (exact absurd rfl hc7) | (exact absurd (many_neg (by omega)) hc7) | (exfalso; omega))
   refine G_off rfl rfl rfl rfl ?_
   refine G_off rfl rfl rfl rfl ?_
   refine G_off rfl rfl rfl rfl ?_
   refine G_off rfl rfl rfl rfl ?_
   refine G_off rfl rfl rfl rfl ?_
   refine G_off rfl rfl rfl rfl ?_
   refine G_off rfl rfl rfl rfl ?_
   refine G_off rfl rfl rfl rfl ?_
   refine G_off rfl rfl rfl rfl ?_
   refine G_off rfl rfl rfl rfl ?_
   refine G_off rfl rfl rfl rfl ?_
   refine G_off rfl rfl rfl rfl ?_
   refine G_off rfl rfl rfl rfl ?_
   refine G_off rfl rfl rfl rfl ?_
   refine G_val rfl rfl rfl rfl (V_pickT rfl rfl rfl) ?_
   refine G_val rfl rfl rfl rfl (V_move rfl rfl) ?_
   refine G_call (L2 := [_, _, _]) rfl rfl rfl rfl rfl rfl Tryd.call5 (fl_live) [] [] rfl rfl ?_
   rintro v post ⟨rfl, rfl⟩
   show G _ _ _ [_, _, _] _
   refine G_val rfl rfl rfl rfl (V_pickT rfl rfl rfl) ?_
   refine G_val rfl rfl rfl rfl (V_assign rfl rfl) ?_
   refine G_done ?_
   refine G_ret (post := []) Tryd.func3 rfl (RVs_cons (RV_tmp rfl) RVs_nil) [] rfl ?_
   dsimp only [packed]
   exact ⟨rfl, rfl⟩


set_option maxRecDepth 100000 in
theorem frameCodes_walk : LawWalk 3 Tryd.f3 := lawwalk_reads (fun W base args hs hval => by
  rw [Tryd.params3] at hs hval
  obtain ⟨l⟩ := args
  match l, hs with
  | [a, b, c], _ =>
    obtain ⟨t, rfl, pt⟩ := okc_str (okv_cell (hval 0 9 a rfl rfl).1 Tryd.underlying9 rfl) Tryd.underlying9
    obtain ⟨hv, hr⟩ := hval 1 22 b rfl rfl
    obtain ⟨p, i, j, rfl, hv⟩ := okv_slice hv Tryd.underlying22
    obtain ⟨z, rfl, hz0, hz1⟩ := okc_int (okv_cell (hval 2 3 c rfl rfl).1 Tryd.underlying3 rfl) Tryd.underlying3
    obtain ⟨o1, p1, q1, c1, T1, f1, ls, e, hk, hg, hb⟩ := reads_slice (sz := 1) hr Tryd.underlying22 (by kernel_rfl) rfl hv (fun l => [strC l]) (fun _ => rfl) (fun l => l.length ≤ 9223372036854775807) (fun es hl h => by
      obtain ⟨l, rfl, hq⟩ := reads_str h Tryd.underlying9
      exact ⟨l, rfl, hq⟩)
    rw [flat_str] at hk
    rw [e]
    exact ⟨_, has_cons (has_nil _) hb, frameCodes_all t pt o1 p1 q1 c1 T1 f1 ls hk hg z hz0 hz1⟩)


set_option maxRecDepth 100000 in
theorem frameCodes_lifted (os : Os) (started : os.Started) (H : Type) (enc : TypeId × Value → H) :
    ReturnsInHanded {} Tryd.checked os 3 .any (fun w args => (Rows.frameCodesSpec.pre enc Tryd.prog Tryd.f3 [] false w args ∧ laidMetH Tryd.prog Rows.frameCodesRow.laid w) ∧ sizedMet enc Tryd.prog Tryd.f3 (OpenSpec.ofChange Rows.frameCodesSpec) false w args)
      (Rows.frameCodesSpec.post enc Tryd.prog Tryd.f3 false true false false) := by
  refine returnsInHanded_of_change_and (C := Tryd.checked) (X := fun w _ => laidMetH Tryd.prog Rows.frameCodesRow.laid w) (fun _ _ _ hh h => h.of_heap hh) Tryd.ownK started (by kernel_rfl) Tryd.func3
    (ChangeSpec.witness_shaped (enc := enc) (C := Tryd.checked) (os := os) (X := fun w _ => laidMetH Tryd.prog Rows.frameCodesRow.laid w) false (World.laidAll Tryd.prog os Rows.frameCodesRow.laid) #[.string ByteArray.empty, .slice none 0 0, .int .i64 0] 8 (World.laidAll_os _ _ _)
      (World.shaped_of_ZipB (by kernel_rfl) (by kernel_rfl)) (by kernel_rfl) (by kernel_rfl) (by kernel_rfl)
      (by rw [MakeChecks.laidMetH_plain _ _ _ (by kernel_rfl)]; exact laidMet_laidAll _ (by kernel_rfl) (by kernel_rfl))) ?_
  intro W base args ds gs before hval hW _ _ _ _
  exact law_end (s := Rows.frameCodesSpec) rfl (by kernel_rfl) (by kernel_rfl) (by decide +kernel) (fun ds h => by match ds, h with | [_, _, _], _ => rfl) frameCodes_walk W base args ds gs before hval hW
theorem frameCodes_said : Rows.FrameCodesSaid :=
  OpenClaim.holds_of_wide 3 Tryd.f3 rfl rfl rfl rfl rfl rfl rfl ⟨rfl, rfl, rfl, rfl, rfl⟩ rfl rfl rfl rfl rfl (by kernel_rfl) Tryd.func3 (by kernel_rfl)
    (of_decide_eq_true (by kernel_rfl)) (by unfold Func.isWrapper; first | (rw [if_pos (by decide +kernel)]; kernel_rfl) | (rw [if_neg (by decide +kernel)]; exact ⟨rfl, rfl⟩))
    (fun os started H enc _ => frameCodes_lifted os started H enc)
theorem frameCodes_holds : Rows.FrameCodesCardSaid :=
  Claim7.holds_tied_plain_at .later [] _ _ _ _ frameCodes_said (fun _ h => by cases h) (by kernel_rfl) (fun _ h => by cases h) frameCodes_row_tie rfl ⟨rfl, rfl⟩ (by kernel_rfl) rfl
    (fun f fn hf hfn => by
      obtain rfl : f = 3 := Option.some.inj ((show Tryd.prog.funcNamed "billet/billetlaw25.FrameCodes" = some 3 by kernel_rfl).symm.trans hf) |>.symm
      obtain rfl : fn = Tryd.f3 := (Option.some.inj (Tryd.func3.symm.trans hfn)).symm
      exact ⟨by kernel_rfl, fun j t ht => by
        rw [Tryd.params3] at ht
        have hm : t ∈ [9, 22, 3] := by simpa using Array.mem_of_getElem? ht
        have hall : ([9, 22, 3].all fun u => !Tryd.prog.wantsStandIn u) = true := by kernel_rfl
        exact (show Tryd.prog.wantsStandIn t = false by simpa using List.all_eq_true.1 hall t hm)⟩)
    (by kernel_rfl)
#print axioms frameCodes_holds

end
end Go.Proofs.YtkidmbaakdaflaaDoor
