/- The walk of reply.Decode. -/
import Derived.Test.YtkidmbaakdaflaaReplyD
set_option linter.unusedSimpArgs false
set_option linter.unusedVariables false
namespace Go.Proofs.Ytkidmbaakdaflaa
open Go Go.RowKit

section
theorem infReplyE_9 : Try.prog.info? 9 = some Try.t9 := by kernel_rfl
theorem infReplyE_23 : Try.prog.info? 23 = some Try.t23 := by kernel_rfl
theorem infReplyE_25 : Try.prog.info? 25 = some Try.t25 := by kernel_rfl
theorem infReplyE_94 : Try.prog.info? 94 = some Try.t94 := by kernel_rfl
theorem infReplyE_96 : Try.prog.info? 96 = some Try.t96 := by kernel_rfl
theorem infReplyE_127 : Try.prog.info? 127 = some Try.t127 := by kernel_rfl
theorem plcReplyE_25 : placesOf Try.prog (Try.prog.fieldsOf 25) = some [(0, 1), (1, 1), (2, 1), (3, 1), (4, 1), (5, 1), (6, 1), (7, 1), (8, 1), (9, 1), (10, 1), (11, 1)] := by kernel_rfl


attribute [local irreducible] dTo dCode dNums dCmd dLen ltNs ltTx ltN
theorem rdLs_next (l : List UInt8) (e i : Nat) : (rdLs l e i).1.flatMap ltCells ++ ltCells (ltOf (rdLs l e i).2.1 (rdLs l e i).2.2) = (rdLs l e (i + 1)).1.flatMap ltCells := by simp [rdLs]

set_option maxRecDepth 100000 in
set_option maxHeartbeats 1000000 in
theorem rep_decode (l : List UInt8) (hl : l.length ≤ 140737488350000) :
    Ct Try.prog 21 [.string (bs l)] [] [] fun r post => ∃ u : Sl, Own 6 u ((decLs l).flatMap ltCells) (decLs l).length ∧ r = .tuple #[.agg (rpCells (decRp l) (u.v (decLs l).length)).toArray, .int .i64 (decE l)] ∧ post = [(u.ob, .cells u.cs 96 u.fz)] := by
 have h1 := dTo_bd l
 have h2 := dCode_bd l
 have h3 := dNums_bd l
 have h4 := dCmd_bd l
 have h5 := dLen_bd l
 refine ct_of Try.func21 rfl rfl (fun w0 => ?_)
 show G _ _ [(0, _)] _ _
 refine G_seq ?_
 refine G_region (l := [0, 1]) rfl ?_
 refine G_new rfl rfl rfl rfl (N_allocA rfl infReplyE_25 rfl) (fun b2 => ?_)
 refine G_val rfl rfl rfl rfl (V_assign rfl rfl) ?_
 refine G_done ?_
 refine G_seq ?_
 refine G_region (l := [0, 1, 2, 3]) rfl ?_
 refine G_val rfl rfl rfl rfl (V_move rfl rfl) ?_
 refine G_call (L2 := [_]) rfl rfl rfl rfl rfl rfl Try.call84 (rd_new _) [] [] rfl rfl ?_
 rintro v post ⟨br, rfl, rfl⟩
 show G _ _ _ [_, _] _
 refine G_new rfl rfl rfl rfl (N_alloc1 rfl infReplyE_127 rfl rfl) (fun b4 => ?_)
 refine G_put (l1 := []) (L' := [_, _, _]) rfl rfl rfl rfl (P_store1 rfl rfl rfl (mem_at 0 rfl) (by first | exact of_decide_eq_true rfl | omega | (simp [ltCells, rpCells, Sl.v]; done) | (simp [ltCells, rpCells, Sl.v]; omega) | (simp [ltCells, rpCells, Sl.v] at *; omega)) infReplyE_127 rfl rfl) rfl ?_
 refine G_done ?_
 refine G_seq ?_
 refine G_region (l := [0, 1]) rfl ?_
 refine G_val rfl rfl rfl rfl (V_func rfl rfl rfl) ?_
 refine G_val rfl rfl rfl rfl (V_assign rfl rfl) ?_
 refine G_done ?_
 refine G_seq ?_
 refine GH_start (Lq := [_]) (isq := [0]) (m := 7) mixedK rfl rfl ?_
 refine GH_take 0 rfl rfl rfl rfl (by kernel_rfl) (by kernel_rfl) (by kernel_rfl) (fun _ _ => (V_load1 rfl rfl (mem_at 0 rfl) rfl Try.underlying127 rfl)) ?_
 refine GH_take 2 rfl rfl rfl rfl (by kernel_rfl) (by kernel_rfl) (by kernel_rfl) (fun _ _ => (V_load1 rfl rfl (mem_at 0 rfl) rfl Try.underlying127 rfl)) ?_
 refine GH_all [1, 5] (by kernel_rfl) (by decide) ?_
 refine (And.intro ?_ (And.intro ?_ trivial))
 · skip
   refine GHop_call (L2 := [_, _]) rfl rfl rfl rfl rfl rfl Try.call87 (c_to _ l hl) [1] [] rfl rfl [1] (by rintro v post ⟨rfl, rfl⟩; exact ⟨_, rfl⟩) ?_
   rintro v post ⟨rfl, rfl⟩
   show GH _ _ _ _ _ _ _ [_, _, _] _
   refine GH_all [3, 5] (by kernel_rfl) (by decide) ?_
   refine (And.intro ?_ (And.intro ?_ trivial))
   · skip
     refine GHop_call (L2 := [_, _]) rfl rfl rfl rfl rfl rfl Try.call86 (c_code _ l hl) [0] [] rfl rfl [1] (by rintro v post ⟨rfl, rfl⟩; exact ⟨_, rfl⟩) ?_
     rintro v post ⟨rfl, rfl⟩
     show GH _ _ _ _ _ _ _ [_, _, _] _
     refine GH_take 4 rfl rfl rfl rfl (by kernel_rfl) (by kernel_rfl) (by kernel_rfl) (fun _ _ => (V_buildS (cs := [_, _, _, _, _, _, _, _, _, _, _, _]) rfl Try.underlying25 infReplyE_25 rfl plcReplyE_25 rfl rfl rfl)) ?_
     refine GH_all [5] (by kernel_rfl) (by decide) ?_
     refine (And.intro ?_ trivial)
     · skip
       refine GHop_new rfl rfl rfl rfl (N_allocA rfl infReplyE_25 rfl) [2] (fun _ => ⟨_, rfl⟩) (fun b6 => ?_)
       refine GH_all [6] (by kernel_rfl) (by decide) ?_
       refine (And.intro ?_ trivial)
       · skip
         refine GHop_put (l1 := []) (L' := [_, _, _, _]) rfl rfl rfl rfl (P_storeA (s := 12) rfl rfl rfl (mem_at 0 rfl) (by first | rfl | (simp [bcells_length, ltCells, rpCells, Sl.v]; done) | (simp [bcells_length, ltCells, rpCells, Sl.v]; omega) | (simp [bcells_length, *, ltCells, rpCells, Sl.v]; done)) infReplyE_25 rfl (by first | rfl | (simp [bcells_length, ltCells, rpCells, Sl.v]; done) | (simp [bcells_length, ltCells, rpCells, Sl.v]; omega) | (simp [bcells_length, *, ltCells, rpCells, Sl.v]; done)) (by first | rfl | exact bcells_all _ | (simp [Value.oneCell', ltCells, rpCells, Sl.v]; done) | (simp [Value.oneCell', *, ltCells, rpCells, Sl.v]; done))) rfl [2] rfl ?_
         refine GH_done (by kernel_rfl) ?_
         refine G_seq ?_
         refine G_region (l := [0, 1, 2]) rfl ?_
         refine G_val rfl rfl rfl rfl (V_move rfl rfl) ?_
         refine G_call (L2 := [_, _, _, _]) rfl rfl rfl rfl rfl rfl Try.call62 (rep_numbers _) [] [] rfl rfl ?_
         rintro v post ⟨bn0, rfl, rfl⟩
         show G _ _ _ [_, _, _, _, _] _
         refine G_callC (L2 := [_, _, _]) rfl rfl rfl rfl rfl rfl Try.call85 rfl (c_nums _ _ _ _ l hl _ _) [1, 1] [0, 1] rfl rfl ?_
         rintro v post ⟨rfl, rfl⟩
         show G _ _ _ [_, _, _, _, _] _
         refine G_done ?_
         refine G_seq ?_
         refine G_region (l := [0, 1, 2, 3]) rfl ?_
         refine G_val rfl rfl rfl rfl (V_load1 rfl rfl (mem_at 3 rfl) rfl Try.underlying127 rfl) ?_
         refine G_call (L2 := [_, _, _, _]) rfl rfl rfl rfl rfl rfl Try.call87 (c_cmd _ l hl) [1] [] rfl rfl ?_
         rintro v post ⟨rfl, rfl⟩
         show G _ _ _ [_, _, _, _, _] _
         refine G_val rfl rfl rfl rfl (V_fieldAddr (fo := 10) rfl Try.underlying25 rfl infReplyE_9 rfl rfl rfl) ?_
         refine G_put (l1 := [_]) (L' := [_, _, _, _, _]) rfl rfl rfl rfl (P_store1 rfl rfl rfl (mem_at 1 rfl) (by first | exact of_decide_eq_true rfl | omega | (simp [ltCells, rpCells, Sl.v]; done) | (simp [ltCells, rpCells, Sl.v]; omega) | (simp [ltCells, rpCells, Sl.v] at *; omega)) infReplyE_9 rfl rfl) rfl ?_
         refine G_done ?_
         refine G_seq ?_
         refine G_seq ?_
         rw [set_cmd2]
         refine G_addNone (.cells #[] 96 (0, 0)) ?_
         refine G_region (l := [0, 1, 2]) rfl ?_
         refine G_val rfl rfl rfl rfl (V_load1 rfl rfl (mem_at 4 rfl) rfl Try.underlying127 rfl) ?_
         refine G_call (L2 := [_, _, _, _, _]) rfl rfl rfl rfl rfl rfl Try.call86 (c_len _ l hl) [1] [] rfl rfl ?_
         rintro v post ⟨rfl, rfl⟩
         show G _ _ _ [_, _, _, _, _, _] _
         refine G_val rfl rfl rfl rfl (V_move rfl rfl) ?_
         refine G_done ?_
         refine G_block ?_
         refine G_sub ?he7 [2, 1, 0, 1, 1] ?hl7 (G_loop (X := Nat × Sl) (fun x => match x with | ⟨i, u⟩ => i ≤ (dLen l).1 ∧ Own 6 u ((rdLs (dLen l).2.1 (dLen l).2.2 i).1.flatMap ltCells) i) (fun x => match x with | ⟨i, u⟩ => (dLen l).1 - i) (fun x => match x with | ⟨i, u⟩ => [(2, .pointer (some ⟨b2, 0, none⟩)), (4, .pointer (some ⟨b4, 0, none⟩)), (5, .func (.func 85) #[] #[.pointer (some ⟨b4, 0, none⟩)]), (6, .pointer (some ⟨b6, 0, none⟩)), (23, .int .i64 (((dLen l).1 : Nat) : Int)), (24, .int .i64 (i : Int))]) (fun x => match x with | ⟨i, u⟩ => [(some b6, .cells (rpCells (dRp l) (u.v i)).toArray 25 (0, 0)), (u.ob, .cells u.cs 96 u.fz), (some br, .cells #[.string (bs (rdLs (dLen l).2.1 (dLen l).2.2 i).2.1), .int .i64 (((rdLs (dLen l).2.1 (dLen l).2.2 i).2.2 : Nat) : Int)] 175 (0, 0)), (some b4, .cells #[.pointer (some ⟨br, 0, none⟩)] 127 (0, 0)), (some b2, .cells (rpCells zeroRp (.slice none 0 0)).toArray 25 (0, 0))]) ?round7 (0, slNil) ?h07)
         case he7 => exact (And.intro rfl (And.intro rfl (And.intro rfl (And.intro rfl (And.intro rfl (And.intro rfl trivial))))))
         case hl7 => exact ⟨_, by simp only [rdLs_zero]; rfl⟩
         case h07 => exact ⟨Nat.zero_le _, by rw [rdLs_zero]; exact own_nil 6⟩
         case round7 =>
          intro x hJ ih
          try dsimp only at hJ ih
          obtain ⟨i, u⟩ := x
          try dsimp only at hJ ih
          obtain ⟨hi, hux⟩ := hJ
          show G _ _ [(2, .pointer (some ⟨b2, 0, none⟩)), (4, .pointer (some ⟨b4, 0, none⟩)), (5, .func (.func 85) #[] #[.pointer (some ⟨b4, 0, none⟩)]), (6, .pointer (some ⟨b6, 0, none⟩)), (23, .int .i64 (((dLen l).1 : Nat) : Int)), (24, .int .i64 (i : Int))] [(some b6, .cells (rpCells (dRp l) (u.v i)).toArray 25 (0, 0)), (u.ob, .cells u.cs 96 u.fz), (some br, .cells #[.string (bs (rdLs (dLen l).2.1 (dLen l).2.2 i).2.1), .int .i64 (((rdLs (dLen l).2.1 (dLen l).2.2 i).2.2 : Nat) : Int)] 175 (0, 0)), (some b4, .cells #[.pointer (some ⟨br, 0, none⟩)] 127 (0, 0)), (some b2, .cells (rpCells zeroRp (.slice none 0 0)).toArray 25 (0, 0))] _
          refine G_seq ?_
          refine G_region (l := [0]) rfl ?_
          refine G_val rfl rfl rfl rfl (V_lss rfl rfl rfl) ?_
          refine G_done ?_
          refine G_seq ?_
          refine G_ifD rfl (fun hc1 => ?_) (fun hc1 => ?_)
          · skip
            refine G_skip ?_
            refine G_seq ?_
            refine G_block ?_
            refine G_seq ?_
            obtain ⟨k1, k2, k3⟩ := rdLs_bd (dLen l).2.1 (dLen l).2.2 h5.2.2 i
            obtain ⟨q1, q2, q3, q4, q5, q6, q7, q8, q9, q10⟩ := ltOf_bd (rdLs (dLen l).2.1 (dLen l).2.2 i).2.1 (rdLs (dLen l).2.1 (dLen l).2.2 i).2.2 k3
            refine G_region (l := [0]) rfl ?_
            refine G_new rfl rfl rfl rfl (N_allocA rfl infReplyE_96 rfl) (fun b7 => ?_)
            refine G_done ?_
            refine G_seq ?_
            refine G_region (l := [0, 1, 2]) rfl ?_
            refine G_val rfl rfl rfl rfl (V_move rfl rfl) ?_
            refine G_call (L2 := [_, _, _, _, _, _]) rfl rfl rfl rfl rfl rfl Try.call72 (rep_letter _) [] [] rfl rfl ?_
            rintro v post ⟨bn0, rfl, rfl⟩
            show G _ _ _ [_, _, _, _, _, _, _] _
            refine G_callC (L2 := [_, _, _, _, _]) rfl rfl rfl rfl rfl rfl Try.call85 rfl (c_ltns _ _ _ _ (rdLs (dLen l).2.1 (dLen l).2.2 i).2.1 (rdLs (dLen l).2.1 (dLen l).2.2 i).2.2 (by omega) (by omega)) [1, 3] [0, 3] rfl rfl ?_
            rintro v post ⟨rfl, rfl⟩
            show G _ _ _ [_, _, _, _, _, _, _] _
            refine G_done ?_
            refine G_seq ?_
            refine GH_start (Lq := [_]) (isq := [5]) (m := 8) mixedK rfl rfl ?_
            refine GH_take 0 rfl rfl rfl rfl (by kernel_rfl) (by kernel_rfl) (by kernel_rfl) (fun _ _ => (V_load1 rfl rfl (mem_at 0 rfl) rfl Try.underlying127 rfl)) ?_
            refine GH_take 2 rfl rfl rfl rfl (by kernel_rfl) (by kernel_rfl) (by kernel_rfl) (fun _ _ => (V_load1 rfl rfl (mem_at 0 rfl) rfl Try.underlying127 rfl)) ?_
            refine GH_all [1] (by kernel_rfl) (by decide) ?_
            refine (And.intro ?_ trivial)
            · skip
              refine GHop_call (L2 := [_, _, _, _, _, _]) rfl rfl rfl rfl rfl rfl Try.call87 (c_lttx _ (rdLs (dLen l).2.1 (dLen l).2.2 i).2.1 (rdLs (dLen l).2.1 (dLen l).2.2 i).2.2 (by omega) (by omega)) [1] [] rfl rfl [5] (by rintro v post ⟨rfl, rfl⟩; exact ⟨_, rfl⟩) ?_
              rintro v post ⟨rfl, rfl⟩
              show GH _ _ _ _ _ _ _ [_, _, _, _, _, _, _] _
              refine GH_all [3] (by kernel_rfl) (by decide) ?_
              refine (And.intro ?_ trivial)
              · skip
                refine GHop_call (L2 := [_, _, _, _, _, _]) rfl rfl rfl rfl rfl rfl Try.call88 (c_ltn _ (rdLs (dLen l).2.1 (dLen l).2.2 i).2.1 (rdLs (dLen l).2.1 (dLen l).2.2 i).2.2 (by omega) (by omega)) [0] [] rfl rfl [5] (by rintro v post ⟨rfl, rfl⟩; exact ⟨_, rfl⟩) ?_
                rintro v post ⟨rfl, rfl⟩
                show GH _ _ _ _ _ _ _ [_, _, _, _, _, _, _] _
                refine GH_take 4 rfl rfl rfl rfl (by kernel_rfl) (by kernel_rfl) (by kernel_rfl) (fun _ _ => (V_fieldAddr (fo := 4) rfl Try.underlying96 rfl infReplyE_9 rfl rfl rfl)) ?_
                refine GH_all [5] (by kernel_rfl) (by decide) ?_
                refine (And.intro ?_ trivial)
                · skip
                  refine GHop_put (l1 := [_]) (L' := [_, _, _, _, _, _, _]) rfl rfl rfl rfl (P_store1 rfl rfl rfl (mem_at 1 rfl) (by first | exact of_decide_eq_true rfl | omega | (simp [ltCells, rpCells, Sl.v]; done) | (simp [ltCells, rpCells, Sl.v]; omega) | (simp [ltCells, rpCells, Sl.v] at *; omega)) infReplyE_9 rfl rfl) rfl [5] rfl ?_
                  refine GH_take 6 rfl rfl rfl rfl (by kernel_rfl) (by kernel_rfl) (by kernel_rfl) (fun _ _ => (V_fieldAddr (fo := 5) rfl Try.underlying96 rfl infReplyE_94 rfl rfl rfl)) ?_
                  refine GH_all [7] (by kernel_rfl) (by decide) ?_
                  refine (And.intro ?_ trivial)
                  · skip
                    refine GHop_put (l1 := [_]) (L' := [_, _, _, _, _, _, _]) rfl rfl rfl rfl (P_store1 rfl rfl rfl (mem_at 1 rfl) (by first | exact of_decide_eq_true rfl | omega | (simp [ltCells, rpCells, Sl.v]; done) | (simp [ltCells, rpCells, Sl.v]; omega) | (simp [ltCells, rpCells, Sl.v] at *; omega)) infReplyE_94 rfl rfl) rfl [5] rfl ?_
                    refine GH_done (by kernel_rfl) ?_
                    rw [set_lt2]
                    refine G_region (l := [0, 1, 2, 3, 4, 5, 6]) rfl ?_
                    refine G_val rfl rfl rfl rfl (V_fieldAddr (fo := 11) rfl Try.underlying25 rfl infReplyE_23 rfl rfl rfl) ?_
                    refine G_val rfl rfl rfl rfl (V_load1 rfl rfl (mem_at 3 rfl) rfl Try.underlying23 rfl) ?_
                    first
                      | refine G_val rfl rfl rfl rfl (V_loadW (s := 6) rfl rfl (mem_at 1 rfl) Try.underlying96 rfl infReplyE_96 rfl (by first | rfl | (simp [bcells_length, ltCells, rpCells, Sl.v]; done) | (simp [bcells_length, ltCells, rpCells, Sl.v]; omega) | (simp [bcells_length, *, ltCells, rpCells, Sl.v]; done))) ?_
                      | refine G_val rfl rfl rfl rfl (V_loadA (s := 6) rfl rfl (mem_at 1 rfl) Try.underlying96 rfl infReplyE_96 rfl rfl (by first | rfl | (simp [bcells_length, ltCells, rpCells, Sl.v]; done) | (simp [bcells_length, ltCells, rpCells, Sl.v]; omega) | (simp [bcells_length, *, ltCells, rpCells, Sl.v]; done))) ?_
                    refine G_new rfl rfl rfl rfl (N_buildAll (s := 6) (cs := [_, _, _, _, _, _]) rfl Try.underlying23 infReplyE_96 rfl rfl rfl rfl rfl rfl rfl rfl rfl) (fun b38 => ?_)
                    refine G_append (l1 := [_, _, _, _, _]) (s := u) (nn := i) (m := 1) (news := ltCells (ltOf (rdLs (dLen l).2.1 (dLen l).2.2 i).2.1 (rdLs (dLen l).2.1 (dLen l).2.2 i).2.2)) (bt := 56) rfl rfl rfl rfl Try.underlying23 Try.underlying23 (by first | exact .inl rfl | exact .inr ⟨_, rfl⟩) infReplyE_96 rfl rfl rfl rfl rfl rfl hux rfl (src_mem (mem_at 0 rfl) rfl rfl (by simp [ltCells, Value.oneCell'])) (by omega) (by omega) ?_
                    intro u1 hu1 _
                    show G _ _ _ [_, _, _, _, _, _, _, _] _
                    refine G_val rfl rfl rfl rfl (V_fieldAddr (fo := 11) rfl Try.underlying25 rfl infReplyE_23 rfl rfl rfl) ?_
                    refine G_put (l1 := [_, _, _, _]) (L' := [_, _, _, _, _, _, _, _]) rfl rfl rfl rfl (P_store1 rfl rfl rfl (mem_at 4 rfl) (by first | exact of_decide_eq_true rfl | omega | (simp [ltCells, rpCells, Sl.v]; done) | (simp [ltCells, rpCells, Sl.v]; omega) | (simp [ltCells, rpCells, Sl.v] at *; omega)) infReplyE_23 rfl rfl) rfl ?_
                    refine G_done ?_
                    refine G_inBlock ?_
                    rw [set_ls]
                    refine G_region (l := [0, 1]) rfl ?_
                    first
                      | refine G_val rfl rfl rfl rfl ((V_add rfl rfl rfl).int (wrap_i64 (by omega))) ?_
                      | refine G_val rfl rfl rfl rfl (V_add rfl rfl rfl) ?_
                    refine G_val rfl rfl rfl rfl (V_move rfl rfl) ?_
                    refine G_done ?_
                    refine G_sub ?_ [4, 4, 1, 3, 3] ?_ (ih (i + 1, u1) ?_ ?_)
                    · (refine (And.intro ?_ (And.intro ?_ (And.intro ?_ (And.intro ?_ (And.intro ?_ (And.intro ?_ trivial)))))) <;> first | rfl | exact slot_int (by omega) | exact slot_int (by simp))
                    · exact ⟨_, rfl⟩
                    · exact ⟨by omega, by rw [← rdLs_next]; exact hu1⟩
                    · (first | omega | (dsimp only; omega))
          refine G_exit rfl ?_
          refine G_seq ?_
          refine G_seq ?_
          refine G_region (l := [0, 1, 2]) rfl ?_
          refine G_val rfl rfl rfl rfl (V_load1 rfl rfl (mem_at 3 rfl) rfl Try.underlying127 rfl) ?_
          refine G_call (L2 := [_, _, _, _, _]) rfl rfl rfl rfl rfl rfl Try.call89 (rd_end _ _ _) [] [2] rfl rfl ?_
          rintro v post ⟨rfl, rfl⟩
          show G _ _ _ [_, _, _, _, _] _
          refine G_val rfl rfl rfl rfl (V_neq rfl rfl rfl) ?_
          refine G_done ?_
          refine G_ifD rfl (fun hc2 => ?_) (fun hc2 => ?_)
          · skip
            refine G_seq ?_
            refine G_addNone (.cells #[] 96 (0, 0)) ?_
            refine G_region (l := [0, 1, 2]) rfl ?_
            refine G_val rfl rfl rfl rfl (V_buildS (cs := [_, _, _, _, _, _, _, _, _, _, _, _]) rfl Try.underlying25 infReplyE_25 rfl plcReplyE_25 rfl rfl rfl) ?_
            refine G_put (l1 := [_, _, _, _, _]) (L' := [_, _, _, _, _, _]) rfl rfl rfl rfl (P_storeA (s := 12) rfl rfl rfl (mem_at 5 rfl) (by first | rfl | (simp [bcells_length, ltCells, rpCells, Sl.v]; done) | (simp [bcells_length, ltCells, rpCells, Sl.v]; omega) | (simp [bcells_length, *, ltCells, rpCells, Sl.v]; done)) infReplyE_25 rfl (by first | rfl | (simp [bcells_length, ltCells, rpCells, Sl.v]; done) | (simp [bcells_length, ltCells, rpCells, Sl.v]; omega) | (simp [bcells_length, *, ltCells, rpCells, Sl.v]; done)) (by first | rfl | exact bcells_all _ | (simp [Value.oneCell', ltCells, rpCells, Sl.v]; done) | (simp [Value.oneCell', *, ltCells, rpCells, Sl.v]; done))) rfl ?_
            refine G_val rfl rfl rfl rfl (V_assign rfl rfl) ?_
            refine G_done ?_
            refine G_ret (post := [_]) Try.func21 rfl (RVs_cons (RV_cell (s := 12) rfl (mem_at 5 rfl) Try.underlying25 rfl infReplyE_25 rfl (by first | rfl | (simp [bcells_length, ltCells, rpCells, Sl.v]; done) | (simp [bcells_length, ltCells, rpCells, Sl.v]; omega) | (simp [bcells_length, *, ltCells, rpCells, Sl.v]; done))) (RVs_cons (RV_tmp rfl) RVs_nil)) [0] rfl ?_
            dsimp only [packed]
            obtain rfl : i = (dLen l).1 := by omega
            have hk := (rdLs_bd (dLen l).2.1 (dLen l).2.2 h5.2.2 (dLen l).1).1
            first
              | (have hE : dEnd l = 0 := by unfold dEnd dLs; omega
                 refine ⟨u, ?_, ?_, rfl⟩
                 · unfold decLs dLs; rw [if_pos hE, hk]; exact hux
                 · unfold decE decRp decLs dLs; rw [if_pos hE, if_pos hE, if_pos hE, hk])
              | (have hE : ¬ dEnd l = 0 := by unfold dEnd dLs; omega
                 refine ⟨slNil, ?_, ?_, rfl⟩
                 · unfold decLs; rw [if_neg hE]; exact own_nil 6
                 · unfold decE decRp decLs; rw [if_neg hE, if_neg hE, if_neg hE]; rfl)
          refine G_skip ?_
          refine G_seq ?_
          refine G_region (l := [0, 1, 2]) rfl ?_
          first
            | refine G_val rfl rfl rfl rfl (V_loadW (s := 12) rfl rfl (mem_at 0 rfl) Try.underlying25 rfl infReplyE_25 rfl (by first | rfl | (simp [bcells_length, ltCells, rpCells, Sl.v]; done) | (simp [bcells_length, ltCells, rpCells, Sl.v]; omega) | (simp [bcells_length, *, ltCells, rpCells, Sl.v]; done))) ?_
            | refine G_val rfl rfl rfl rfl (V_loadA (s := 12) rfl rfl (mem_at 0 rfl) Try.underlying25 rfl infReplyE_25 rfl rfl (by first | rfl | (simp [bcells_length, ltCells, rpCells, Sl.v]; done) | (simp [bcells_length, ltCells, rpCells, Sl.v]; omega) | (simp [bcells_length, *, ltCells, rpCells, Sl.v]; done))) ?_
          refine G_put (l1 := [_, _, _, _]) (L' := [_, _, _, _, _]) rfl rfl rfl rfl (P_storeA (s := 12) rfl rfl rfl (mem_at 4 rfl) (by first | rfl | (simp [bcells_length, ltCells, rpCells, Sl.v]; done) | (simp [bcells_length, ltCells, rpCells, Sl.v]; omega) | (simp [bcells_length, *, ltCells, rpCells, Sl.v]; done)) infReplyE_25 rfl (by first | rfl | (simp [bcells_length, ltCells, rpCells, Sl.v]; done) | (simp [bcells_length, ltCells, rpCells, Sl.v]; omega) | (simp [bcells_length, *, ltCells, rpCells, Sl.v]; done)) (by first | rfl | exact bcells_all _ | (simp [Value.oneCell', ltCells, rpCells, Sl.v]; done) | (simp [Value.oneCell', *, ltCells, rpCells, Sl.v]; done))) rfl ?_
          refine G_val rfl rfl rfl rfl (V_assign rfl rfl) ?_
          refine G_done ?_
          refine G_ret (post := [_]) Try.func21 rfl (RVs_cons (RV_cell (s := 12) rfl (mem_at 4 rfl) Try.underlying25 rfl infReplyE_25 rfl (by first | rfl | (simp [bcells_length, ltCells, rpCells, Sl.v]; done) | (simp [bcells_length, ltCells, rpCells, Sl.v]; omega) | (simp [bcells_length, *, ltCells, rpCells, Sl.v]; done))) (RVs_cons (RV_tmp rfl) RVs_nil)) [1] rfl ?_
          dsimp only [packed]
          obtain rfl : i = (dLen l).1 := by omega
          have hk := (rdLs_bd (dLen l).2.1 (dLen l).2.2 h5.2.2 (dLen l).1).1
          first
            | (have hE : dEnd l = 0 := by unfold dEnd dLs; omega
               refine ⟨u, ?_, ?_, rfl⟩
               · unfold decLs dLs; rw [if_pos hE, hk]; exact hux
               · unfold decE decRp decLs dLs; rw [if_pos hE, if_pos hE, if_pos hE, hk])
            | (have hE : ¬ dEnd l = 0 := by unfold dEnd dLs; omega
               refine ⟨slNil, ?_, ?_, rfl⟩
               · unfold decLs; rw [if_neg hE]; exact own_nil 6
               · unfold decE decRp decLs; rw [if_neg hE, if_neg hE, if_neg hE]; rfl)
   · skip
     refine GHop_new rfl rfl rfl rfl (N_allocA rfl infReplyE_25 rfl) [2] (fun _ => ⟨_, rfl⟩) (fun b6 => ?_)
     refine GH_all [3] (by kernel_rfl) (by decide) ?_
     refine (And.intro ?_ trivial)
     · skip
       refine GHop_call (L2 := [_, _, _]) rfl rfl rfl rfl rfl rfl Try.call86 (c_code _ l hl) [1] [] rfl rfl [2] (by rintro v post ⟨rfl, rfl⟩; exact ⟨_, rfl⟩) ?_
       rintro v post ⟨rfl, rfl⟩
       show GH _ _ _ _ _ _ _ [_, _, _, _] _
       refine GH_take 4 rfl rfl rfl rfl (by kernel_rfl) (by kernel_rfl) (by kernel_rfl) (fun _ _ => (V_buildS (cs := [_, _, _, _, _, _, _, _, _, _, _, _]) rfl Try.underlying25 infReplyE_25 rfl plcReplyE_25 rfl rfl rfl)) ?_
       refine GH_all [6] (by kernel_rfl) (by decide) ?_
       refine (And.intro ?_ trivial)
       · skip
         refine GHop_put (l1 := [_]) (L' := [_, _, _, _]) rfl rfl rfl rfl (P_storeA (s := 12) rfl rfl rfl (mem_at 1 rfl) (by first | rfl | (simp [bcells_length, ltCells, rpCells, Sl.v]; done) | (simp [bcells_length, ltCells, rpCells, Sl.v]; omega) | (simp [bcells_length, *, ltCells, rpCells, Sl.v]; done)) infReplyE_25 rfl (by first | rfl | (simp [bcells_length, ltCells, rpCells, Sl.v]; done) | (simp [bcells_length, ltCells, rpCells, Sl.v]; omega) | (simp [bcells_length, *, ltCells, rpCells, Sl.v]; done)) (by first | rfl | exact bcells_all _ | (simp [Value.oneCell', ltCells, rpCells, Sl.v]; done) | (simp [Value.oneCell', *, ltCells, rpCells, Sl.v]; done))) rfl [2] rfl ?_
         refine GH_done (by kernel_rfl) ?_
         refine G_seq ?_
         refine G_region (l := [0, 1, 2]) rfl ?_
         refine G_val rfl rfl rfl rfl (V_move rfl rfl) ?_
         refine G_call (L2 := [_, _, _, _]) rfl rfl rfl rfl rfl rfl Try.call62 (rep_numbers _) [] [] rfl rfl ?_
         rintro v post ⟨bn0, rfl, rfl⟩
         show G _ _ _ [_, _, _, _, _] _
         refine G_callC (L2 := [_, _, _]) rfl rfl rfl rfl rfl rfl Try.call85 rfl (c_nums _ _ _ _ l hl _ _) [2, 1] [0, 1] rfl rfl ?_
         rintro v post ⟨rfl, rfl⟩
         show G _ _ _ [_, _, _, _, _] _
         refine G_done ?_
         refine G_seq ?_
         refine G_region (l := [0, 1, 2, 3]) rfl ?_
         refine G_val rfl rfl rfl rfl (V_load1 rfl rfl (mem_at 3 rfl) rfl Try.underlying127 rfl) ?_
         refine G_call (L2 := [_, _, _, _]) rfl rfl rfl rfl rfl rfl Try.call87 (c_cmd _ l hl) [1] [] rfl rfl ?_
         rintro v post ⟨rfl, rfl⟩
         show G _ _ _ [_, _, _, _, _] _
         refine G_val rfl rfl rfl rfl (V_fieldAddr (fo := 10) rfl Try.underlying25 rfl infReplyE_9 rfl rfl rfl) ?_
         refine G_put (l1 := [_]) (L' := [_, _, _, _, _]) rfl rfl rfl rfl (P_store1 rfl rfl rfl (mem_at 1 rfl) (by first | exact of_decide_eq_true rfl | omega | (simp [ltCells, rpCells, Sl.v]; done) | (simp [ltCells, rpCells, Sl.v]; omega) | (simp [ltCells, rpCells, Sl.v] at *; omega)) infReplyE_9 rfl rfl) rfl ?_
         refine G_done ?_
         refine G_seq ?_
         refine G_seq ?_
         rw [set_cmd2]
         refine G_addNone (.cells #[] 96 (0, 0)) ?_
         refine G_region (l := [0, 1, 2]) rfl ?_
         refine G_val rfl rfl rfl rfl (V_load1 rfl rfl (mem_at 4 rfl) rfl Try.underlying127 rfl) ?_
         refine G_call (L2 := [_, _, _, _, _]) rfl rfl rfl rfl rfl rfl Try.call86 (c_len _ l hl) [1] [] rfl rfl ?_
         rintro v post ⟨rfl, rfl⟩
         show G _ _ _ [_, _, _, _, _, _] _
         refine G_val rfl rfl rfl rfl (V_move rfl rfl) ?_
         refine G_done ?_
         refine G_block ?_
         refine G_sub ?he7 [2, 1, 0, 1, 1] ?hl7 (G_loop (X := Nat × Sl) (fun x => match x with | ⟨i, u⟩ => i ≤ (dLen l).1 ∧ Own 6 u ((rdLs (dLen l).2.1 (dLen l).2.2 i).1.flatMap ltCells) i) (fun x => match x with | ⟨i, u⟩ => (dLen l).1 - i) (fun x => match x with | ⟨i, u⟩ => [(2, .pointer (some ⟨b2, 0, none⟩)), (4, .pointer (some ⟨b4, 0, none⟩)), (5, .func (.func 85) #[] #[.pointer (some ⟨b4, 0, none⟩)]), (6, .pointer (some ⟨b6, 0, none⟩)), (23, .int .i64 (((dLen l).1 : Nat) : Int)), (24, .int .i64 (i : Int))]) (fun x => match x with | ⟨i, u⟩ => [(some b6, .cells (rpCells (dRp l) (u.v i)).toArray 25 (0, 0)), (u.ob, .cells u.cs 96 u.fz), (some br, .cells #[.string (bs (rdLs (dLen l).2.1 (dLen l).2.2 i).2.1), .int .i64 (((rdLs (dLen l).2.1 (dLen l).2.2 i).2.2 : Nat) : Int)] 175 (0, 0)), (some b4, .cells #[.pointer (some ⟨br, 0, none⟩)] 127 (0, 0)), (some b2, .cells (rpCells zeroRp (.slice none 0 0)).toArray 25 (0, 0))]) ?round7 (0, slNil) ?h07)
         case he7 => exact (And.intro rfl (And.intro rfl (And.intro rfl (And.intro rfl (And.intro rfl (And.intro rfl trivial))))))
         case hl7 => exact ⟨_, by simp only [rdLs_zero]; rfl⟩
         case h07 => exact ⟨Nat.zero_le _, by rw [rdLs_zero]; exact own_nil 6⟩
         case round7 =>
          intro x hJ ih
          try dsimp only at hJ ih
          obtain ⟨i, u⟩ := x
          try dsimp only at hJ ih
          obtain ⟨hi, hux⟩ := hJ
          show G _ _ [(2, .pointer (some ⟨b2, 0, none⟩)), (4, .pointer (some ⟨b4, 0, none⟩)), (5, .func (.func 85) #[] #[.pointer (some ⟨b4, 0, none⟩)]), (6, .pointer (some ⟨b6, 0, none⟩)), (23, .int .i64 (((dLen l).1 : Nat) : Int)), (24, .int .i64 (i : Int))] [(some b6, .cells (rpCells (dRp l) (u.v i)).toArray 25 (0, 0)), (u.ob, .cells u.cs 96 u.fz), (some br, .cells #[.string (bs (rdLs (dLen l).2.1 (dLen l).2.2 i).2.1), .int .i64 (((rdLs (dLen l).2.1 (dLen l).2.2 i).2.2 : Nat) : Int)] 175 (0, 0)), (some b4, .cells #[.pointer (some ⟨br, 0, none⟩)] 127 (0, 0)), (some b2, .cells (rpCells zeroRp (.slice none 0 0)).toArray 25 (0, 0))] _
          refine G_seq ?_
          refine G_region (l := [0]) rfl ?_
          refine G_val rfl rfl rfl rfl (V_lss rfl rfl rfl) ?_
          refine G_done ?_
          refine G_seq ?_
          refine G_ifD rfl (fun hc1 => ?_) (fun hc1 => ?_)
          · skip
            refine G_skip ?_
            refine G_seq ?_
            refine G_block ?_
            refine G_seq ?_
            obtain ⟨k1, k2, k3⟩ := rdLs_bd (dLen l).2.1 (dLen l).2.2 h5.2.2 i
            obtain ⟨q1, q2, q3, q4, q5, q6, q7, q8, q9, q10⟩ := ltOf_bd (rdLs (dLen l).2.1 (dLen l).2.2 i).2.1 (rdLs (dLen l).2.1 (dLen l).2.2 i).2.2 k3
            refine G_region (l := [0]) rfl ?_
            refine G_new rfl rfl rfl rfl (N_allocA rfl infReplyE_96 rfl) (fun b7 => ?_)
            refine G_done ?_
            refine G_seq ?_
            refine G_region (l := [0, 1, 2]) rfl ?_
            refine G_val rfl rfl rfl rfl (V_move rfl rfl) ?_
            refine G_call (L2 := [_, _, _, _, _, _]) rfl rfl rfl rfl rfl rfl Try.call72 (rep_letter _) [] [] rfl rfl ?_
            rintro v post ⟨bn0, rfl, rfl⟩
            show G _ _ _ [_, _, _, _, _, _, _] _
            refine G_callC (L2 := [_, _, _, _, _]) rfl rfl rfl rfl rfl rfl Try.call85 rfl (c_ltns _ _ _ _ (rdLs (dLen l).2.1 (dLen l).2.2 i).2.1 (rdLs (dLen l).2.1 (dLen l).2.2 i).2.2 (by omega) (by omega)) [1, 3] [0, 3] rfl rfl ?_
            rintro v post ⟨rfl, rfl⟩
            show G _ _ _ [_, _, _, _, _, _, _] _
            refine G_done ?_
            refine G_seq ?_
            refine GH_start (Lq := [_]) (isq := [5]) (m := 8) mixedK rfl rfl ?_
            refine GH_take 0 rfl rfl rfl rfl (by kernel_rfl) (by kernel_rfl) (by kernel_rfl) (fun _ _ => (V_load1 rfl rfl (mem_at 0 rfl) rfl Try.underlying127 rfl)) ?_
            refine GH_take 2 rfl rfl rfl rfl (by kernel_rfl) (by kernel_rfl) (by kernel_rfl) (fun _ _ => (V_load1 rfl rfl (mem_at 0 rfl) rfl Try.underlying127 rfl)) ?_
            refine GH_all [1] (by kernel_rfl) (by decide) ?_
            refine (And.intro ?_ trivial)
            · skip
              refine GHop_call (L2 := [_, _, _, _, _, _]) rfl rfl rfl rfl rfl rfl Try.call87 (c_lttx _ (rdLs (dLen l).2.1 (dLen l).2.2 i).2.1 (rdLs (dLen l).2.1 (dLen l).2.2 i).2.2 (by omega) (by omega)) [1] [] rfl rfl [5] (by rintro v post ⟨rfl, rfl⟩; exact ⟨_, rfl⟩) ?_
              rintro v post ⟨rfl, rfl⟩
              show GH _ _ _ _ _ _ _ [_, _, _, _, _, _, _] _
              refine GH_all [3] (by kernel_rfl) (by decide) ?_
              refine (And.intro ?_ trivial)
              · skip
                refine GHop_call (L2 := [_, _, _, _, _, _]) rfl rfl rfl rfl rfl rfl Try.call88 (c_ltn _ (rdLs (dLen l).2.1 (dLen l).2.2 i).2.1 (rdLs (dLen l).2.1 (dLen l).2.2 i).2.2 (by omega) (by omega)) [0] [] rfl rfl [5] (by rintro v post ⟨rfl, rfl⟩; exact ⟨_, rfl⟩) ?_
                rintro v post ⟨rfl, rfl⟩
                show GH _ _ _ _ _ _ _ [_, _, _, _, _, _, _] _
                refine GH_take 4 rfl rfl rfl rfl (by kernel_rfl) (by kernel_rfl) (by kernel_rfl) (fun _ _ => (V_fieldAddr (fo := 4) rfl Try.underlying96 rfl infReplyE_9 rfl rfl rfl)) ?_
                refine GH_all [5] (by kernel_rfl) (by decide) ?_
                refine (And.intro ?_ trivial)
                · skip
                  refine GHop_put (l1 := [_]) (L' := [_, _, _, _, _, _, _]) rfl rfl rfl rfl (P_store1 rfl rfl rfl (mem_at 1 rfl) (by first | exact of_decide_eq_true rfl | omega | (simp [ltCells, rpCells, Sl.v]; done) | (simp [ltCells, rpCells, Sl.v]; omega) | (simp [ltCells, rpCells, Sl.v] at *; omega)) infReplyE_9 rfl rfl) rfl [5] rfl ?_
                  refine GH_take 6 rfl rfl rfl rfl (by kernel_rfl) (by kernel_rfl) (by kernel_rfl) (fun _ _ => (V_fieldAddr (fo := 5) rfl Try.underlying96 rfl infReplyE_94 rfl rfl rfl)) ?_
                  refine GH_all [7] (by kernel_rfl) (by decide) ?_
                  refine (And.intro ?_ trivial)
                  · skip
                    refine GHop_put (l1 := [_]) (L' := [_, _, _, _, _, _, _]) rfl rfl rfl rfl (P_store1 rfl rfl rfl (mem_at 1 rfl) (by first | exact of_decide_eq_true rfl | omega | (simp [ltCells, rpCells, Sl.v]; done) | (simp [ltCells, rpCells, Sl.v]; omega) | (simp [ltCells, rpCells, Sl.v] at *; omega)) infReplyE_94 rfl rfl) rfl [5] rfl ?_
                    refine GH_done (by kernel_rfl) ?_
                    rw [set_lt2]
                    refine G_region (l := [0, 1, 2, 3, 4, 5, 6]) rfl ?_
                    refine G_val rfl rfl rfl rfl (V_fieldAddr (fo := 11) rfl Try.underlying25 rfl infReplyE_23 rfl rfl rfl) ?_
                    refine G_val rfl rfl rfl rfl (V_load1 rfl rfl (mem_at 3 rfl) rfl Try.underlying23 rfl) ?_
                    first
                      | refine G_val rfl rfl rfl rfl (V_loadW (s := 6) rfl rfl (mem_at 1 rfl) Try.underlying96 rfl infReplyE_96 rfl (by first | rfl | (simp [bcells_length, ltCells, rpCells, Sl.v]; done) | (simp [bcells_length, ltCells, rpCells, Sl.v]; omega) | (simp [bcells_length, *, ltCells, rpCells, Sl.v]; done))) ?_
                      | refine G_val rfl rfl rfl rfl (V_loadA (s := 6) rfl rfl (mem_at 1 rfl) Try.underlying96 rfl infReplyE_96 rfl rfl (by first | rfl | (simp [bcells_length, ltCells, rpCells, Sl.v]; done) | (simp [bcells_length, ltCells, rpCells, Sl.v]; omega) | (simp [bcells_length, *, ltCells, rpCells, Sl.v]; done))) ?_
                    refine G_new rfl rfl rfl rfl (N_buildAll (s := 6) (cs := [_, _, _, _, _, _]) rfl Try.underlying23 infReplyE_96 rfl rfl rfl rfl rfl rfl rfl rfl rfl) (fun b38 => ?_)
                    refine G_append (l1 := [_, _, _, _, _]) (s := u) (nn := i) (m := 1) (news := ltCells (ltOf (rdLs (dLen l).2.1 (dLen l).2.2 i).2.1 (rdLs (dLen l).2.1 (dLen l).2.2 i).2.2)) (bt := 56) rfl rfl rfl rfl Try.underlying23 Try.underlying23 (by first | exact .inl rfl | exact .inr ⟨_, rfl⟩) infReplyE_96 rfl rfl rfl rfl rfl rfl hux rfl (src_mem (mem_at 0 rfl) rfl rfl (by simp [ltCells, Value.oneCell'])) (by omega) (by omega) ?_
                    intro u1 hu1 _
                    show G _ _ _ [_, _, _, _, _, _, _, _] _
                    refine G_val rfl rfl rfl rfl (V_fieldAddr (fo := 11) rfl Try.underlying25 rfl infReplyE_23 rfl rfl rfl) ?_
                    refine G_put (l1 := [_, _, _, _]) (L' := [_, _, _, _, _, _, _, _]) rfl rfl rfl rfl (P_store1 rfl rfl rfl (mem_at 4 rfl) (by first | exact of_decide_eq_true rfl | omega | (simp [ltCells, rpCells, Sl.v]; done) | (simp [ltCells, rpCells, Sl.v]; omega) | (simp [ltCells, rpCells, Sl.v] at *; omega)) infReplyE_23 rfl rfl) rfl ?_
                    refine G_done ?_
                    refine G_inBlock ?_
                    rw [set_ls]
                    refine G_region (l := [0, 1]) rfl ?_
                    first
                      | refine G_val rfl rfl rfl rfl ((V_add rfl rfl rfl).int (wrap_i64 (by omega))) ?_
                      | refine G_val rfl rfl rfl rfl (V_add rfl rfl rfl) ?_
                    refine G_val rfl rfl rfl rfl (V_move rfl rfl) ?_
                    refine G_done ?_
                    refine G_sub ?_ [4, 4, 1, 3, 3] ?_ (ih (i + 1, u1) ?_ ?_)
                    · (refine (And.intro ?_ (And.intro ?_ (And.intro ?_ (And.intro ?_ (And.intro ?_ (And.intro ?_ trivial)))))) <;> first | rfl | exact slot_int (by omega) | exact slot_int (by simp))
                    · exact ⟨_, rfl⟩
                    · exact ⟨by omega, by rw [← rdLs_next]; exact hu1⟩
                    · (first | omega | (dsimp only; omega))
          refine G_exit rfl ?_
          refine G_seq ?_
          refine G_seq ?_
          refine G_region (l := [0, 1, 2]) rfl ?_
          refine G_val rfl rfl rfl rfl (V_load1 rfl rfl (mem_at 3 rfl) rfl Try.underlying127 rfl) ?_
          refine G_call (L2 := [_, _, _, _, _]) rfl rfl rfl rfl rfl rfl Try.call89 (rd_end _ _ _) [] [2] rfl rfl ?_
          rintro v post ⟨rfl, rfl⟩
          show G _ _ _ [_, _, _, _, _] _
          refine G_val rfl rfl rfl rfl (V_neq rfl rfl rfl) ?_
          refine G_done ?_
          refine G_ifD rfl (fun hc2 => ?_) (fun hc2 => ?_)
          · skip
            refine G_seq ?_
            refine G_addNone (.cells #[] 96 (0, 0)) ?_
            refine G_region (l := [0, 1, 2]) rfl ?_
            refine G_val rfl rfl rfl rfl (V_buildS (cs := [_, _, _, _, _, _, _, _, _, _, _, _]) rfl Try.underlying25 infReplyE_25 rfl plcReplyE_25 rfl rfl rfl) ?_
            refine G_put (l1 := [_, _, _, _, _]) (L' := [_, _, _, _, _, _]) rfl rfl rfl rfl (P_storeA (s := 12) rfl rfl rfl (mem_at 5 rfl) (by first | rfl | (simp [bcells_length, ltCells, rpCells, Sl.v]; done) | (simp [bcells_length, ltCells, rpCells, Sl.v]; omega) | (simp [bcells_length, *, ltCells, rpCells, Sl.v]; done)) infReplyE_25 rfl (by first | rfl | (simp [bcells_length, ltCells, rpCells, Sl.v]; done) | (simp [bcells_length, ltCells, rpCells, Sl.v]; omega) | (simp [bcells_length, *, ltCells, rpCells, Sl.v]; done)) (by first | rfl | exact bcells_all _ | (simp [Value.oneCell', ltCells, rpCells, Sl.v]; done) | (simp [Value.oneCell', *, ltCells, rpCells, Sl.v]; done))) rfl ?_
            refine G_val rfl rfl rfl rfl (V_assign rfl rfl) ?_
            refine G_done ?_
            refine G_ret (post := [_]) Try.func21 rfl (RVs_cons (RV_cell (s := 12) rfl (mem_at 5 rfl) Try.underlying25 rfl infReplyE_25 rfl (by first | rfl | (simp [bcells_length, ltCells, rpCells, Sl.v]; done) | (simp [bcells_length, ltCells, rpCells, Sl.v]; omega) | (simp [bcells_length, *, ltCells, rpCells, Sl.v]; done))) (RVs_cons (RV_tmp rfl) RVs_nil)) [0] rfl ?_
            dsimp only [packed]
            obtain rfl : i = (dLen l).1 := by omega
            have hk := (rdLs_bd (dLen l).2.1 (dLen l).2.2 h5.2.2 (dLen l).1).1
            first
              | (have hE : dEnd l = 0 := by unfold dEnd dLs; omega
                 refine ⟨u, ?_, ?_, rfl⟩
                 · unfold decLs dLs; rw [if_pos hE, hk]; exact hux
                 · unfold decE decRp decLs dLs; rw [if_pos hE, if_pos hE, if_pos hE, hk])
              | (have hE : ¬ dEnd l = 0 := by unfold dEnd dLs; omega
                 refine ⟨slNil, ?_, ?_, rfl⟩
                 · unfold decLs; rw [if_neg hE]; exact own_nil 6
                 · unfold decE decRp decLs; rw [if_neg hE, if_neg hE, if_neg hE]; rfl)
          refine G_skip ?_
          refine G_seq ?_
          refine G_region (l := [0, 1, 2]) rfl ?_
          first
            | refine G_val rfl rfl rfl rfl (V_loadW (s := 12) rfl rfl (mem_at 0 rfl) Try.underlying25 rfl infReplyE_25 rfl (by first | rfl | (simp [bcells_length, ltCells, rpCells, Sl.v]; done) | (simp [bcells_length, ltCells, rpCells, Sl.v]; omega) | (simp [bcells_length, *, ltCells, rpCells, Sl.v]; done))) ?_
            | refine G_val rfl rfl rfl rfl (V_loadA (s := 12) rfl rfl (mem_at 0 rfl) Try.underlying25 rfl infReplyE_25 rfl rfl (by first | rfl | (simp [bcells_length, ltCells, rpCells, Sl.v]; done) | (simp [bcells_length, ltCells, rpCells, Sl.v]; omega) | (simp [bcells_length, *, ltCells, rpCells, Sl.v]; done))) ?_
          refine G_put (l1 := [_, _, _, _]) (L' := [_, _, _, _, _]) rfl rfl rfl rfl (P_storeA (s := 12) rfl rfl rfl (mem_at 4 rfl) (by first | rfl | (simp [bcells_length, ltCells, rpCells, Sl.v]; done) | (simp [bcells_length, ltCells, rpCells, Sl.v]; omega) | (simp [bcells_length, *, ltCells, rpCells, Sl.v]; done)) infReplyE_25 rfl (by first | rfl | (simp [bcells_length, ltCells, rpCells, Sl.v]; done) | (simp [bcells_length, ltCells, rpCells, Sl.v]; omega) | (simp [bcells_length, *, ltCells, rpCells, Sl.v]; done)) (by first | rfl | exact bcells_all _ | (simp [Value.oneCell', ltCells, rpCells, Sl.v]; done) | (simp [Value.oneCell', *, ltCells, rpCells, Sl.v]; done))) rfl ?_
          refine G_val rfl rfl rfl rfl (V_assign rfl rfl) ?_
          refine G_done ?_
          refine G_ret (post := [_]) Try.func21 rfl (RVs_cons (RV_cell (s := 12) rfl (mem_at 4 rfl) Try.underlying25 rfl infReplyE_25 rfl (by first | rfl | (simp [bcells_length, ltCells, rpCells, Sl.v]; done) | (simp [bcells_length, ltCells, rpCells, Sl.v]; omega) | (simp [bcells_length, *, ltCells, rpCells, Sl.v]; done))) (RVs_cons (RV_tmp rfl) RVs_nil)) [1] rfl ?_
          dsimp only [packed]
          obtain rfl : i = (dLen l).1 := by omega
          have hk := (rdLs_bd (dLen l).2.1 (dLen l).2.2 h5.2.2 (dLen l).1).1
          first
            | (have hE : dEnd l = 0 := by unfold dEnd dLs; omega
               refine ⟨u, ?_, ?_, rfl⟩
               · unfold decLs dLs; rw [if_pos hE, hk]; exact hux
               · unfold decE decRp decLs dLs; rw [if_pos hE, if_pos hE, if_pos hE, hk])
            | (have hE : ¬ dEnd l = 0 := by unfold dEnd dLs; omega
               refine ⟨slNil, ?_, ?_, rfl⟩
               · unfold decLs; rw [if_neg hE]; exact own_nil 6
               · unfold decE decRp decLs; rw [if_neg hE, if_neg hE, if_neg hE]; rfl)
 · skip
   refine GHop_new rfl rfl rfl rfl (N_allocA rfl infReplyE_25 rfl) [1] (fun _ => ⟨_, rfl⟩) (fun b6 => ?_)
   refine GH_all [1] (by kernel_rfl) (by decide) ?_
   refine (And.intro ?_ trivial)
   · skip
     refine GHop_call (L2 := [_, _, _]) rfl rfl rfl rfl rfl rfl Try.call87 (c_to _ l hl) [2] [] rfl rfl [2] (by rintro v post ⟨rfl, rfl⟩; exact ⟨_, rfl⟩) ?_
     rintro v post ⟨rfl, rfl⟩
     show GH _ _ _ _ _ _ _ [_, _, _, _] _
     refine GH_all [3] (by kernel_rfl) (by decide) ?_
     refine (And.intro ?_ trivial)
     · skip
       refine GHop_call (L2 := [_, _, _]) rfl rfl rfl rfl rfl rfl Try.call86 (c_code _ l hl) [0] [] rfl rfl [2] (by rintro v post ⟨rfl, rfl⟩; exact ⟨_, rfl⟩) ?_
       rintro v post ⟨rfl, rfl⟩
       show GH _ _ _ _ _ _ _ [_, _, _, _] _
       refine GH_take 4 rfl rfl rfl rfl (by kernel_rfl) (by kernel_rfl) (by kernel_rfl) (fun _ _ => (V_buildS (cs := [_, _, _, _, _, _, _, _, _, _, _, _]) rfl Try.underlying25 infReplyE_25 rfl plcReplyE_25 rfl rfl rfl)) ?_
       refine GH_all [6] (by kernel_rfl) (by decide) ?_
       refine (And.intro ?_ trivial)
       · skip
         refine GHop_put (l1 := [_]) (L' := [_, _, _, _]) rfl rfl rfl rfl (P_storeA (s := 12) rfl rfl rfl (mem_at 1 rfl) (by first | rfl | (simp [bcells_length, ltCells, rpCells, Sl.v]; done) | (simp [bcells_length, ltCells, rpCells, Sl.v]; omega) | (simp [bcells_length, *, ltCells, rpCells, Sl.v]; done)) infReplyE_25 rfl (by first | rfl | (simp [bcells_length, ltCells, rpCells, Sl.v]; done) | (simp [bcells_length, ltCells, rpCells, Sl.v]; omega) | (simp [bcells_length, *, ltCells, rpCells, Sl.v]; done)) (by first | rfl | exact bcells_all _ | (simp [Value.oneCell', ltCells, rpCells, Sl.v]; done) | (simp [Value.oneCell', *, ltCells, rpCells, Sl.v]; done))) rfl [2] rfl ?_
         refine GH_done (by kernel_rfl) ?_
         refine G_seq ?_
         refine G_region (l := [0, 1, 2]) rfl ?_
         refine G_val rfl rfl rfl rfl (V_move rfl rfl) ?_
         refine G_call (L2 := [_, _, _, _]) rfl rfl rfl rfl rfl rfl Try.call62 (rep_numbers _) [] [] rfl rfl ?_
         rintro v post ⟨bn0, rfl, rfl⟩
         show G _ _ _ [_, _, _, _, _] _
         refine G_callC (L2 := [_, _, _]) rfl rfl rfl rfl rfl rfl Try.call85 rfl (c_nums _ _ _ _ l hl _ _) [2, 1] [0, 1] rfl rfl ?_
         rintro v post ⟨rfl, rfl⟩
         show G _ _ _ [_, _, _, _, _] _
         refine G_done ?_
         refine G_seq ?_
         refine G_region (l := [0, 1, 2, 3]) rfl ?_
         refine G_val rfl rfl rfl rfl (V_load1 rfl rfl (mem_at 3 rfl) rfl Try.underlying127 rfl) ?_
         refine G_call (L2 := [_, _, _, _]) rfl rfl rfl rfl rfl rfl Try.call87 (c_cmd _ l hl) [1] [] rfl rfl ?_
         rintro v post ⟨rfl, rfl⟩
         show G _ _ _ [_, _, _, _, _] _
         refine G_val rfl rfl rfl rfl (V_fieldAddr (fo := 10) rfl Try.underlying25 rfl infReplyE_9 rfl rfl rfl) ?_
         refine G_put (l1 := [_]) (L' := [_, _, _, _, _]) rfl rfl rfl rfl (P_store1 rfl rfl rfl (mem_at 1 rfl) (by first | exact of_decide_eq_true rfl | omega | (simp [ltCells, rpCells, Sl.v]; done) | (simp [ltCells, rpCells, Sl.v]; omega) | (simp [ltCells, rpCells, Sl.v] at *; omega)) infReplyE_9 rfl rfl) rfl ?_
         refine G_done ?_
         refine G_seq ?_
         refine G_seq ?_
         rw [set_cmd2]
         refine G_addNone (.cells #[] 96 (0, 0)) ?_
         refine G_region (l := [0, 1, 2]) rfl ?_
         refine G_val rfl rfl rfl rfl (V_load1 rfl rfl (mem_at 4 rfl) rfl Try.underlying127 rfl) ?_
         refine G_call (L2 := [_, _, _, _, _]) rfl rfl rfl rfl rfl rfl Try.call86 (c_len _ l hl) [1] [] rfl rfl ?_
         rintro v post ⟨rfl, rfl⟩
         show G _ _ _ [_, _, _, _, _, _] _
         refine G_val rfl rfl rfl rfl (V_move rfl rfl) ?_
         refine G_done ?_
         refine G_block ?_
         refine G_sub ?he7 [2, 1, 0, 1, 1] ?hl7 (G_loop (X := Nat × Sl) (fun x => match x with | ⟨i, u⟩ => i ≤ (dLen l).1 ∧ Own 6 u ((rdLs (dLen l).2.1 (dLen l).2.2 i).1.flatMap ltCells) i) (fun x => match x with | ⟨i, u⟩ => (dLen l).1 - i) (fun x => match x with | ⟨i, u⟩ => [(2, .pointer (some ⟨b2, 0, none⟩)), (4, .pointer (some ⟨b4, 0, none⟩)), (5, .func (.func 85) #[] #[.pointer (some ⟨b4, 0, none⟩)]), (6, .pointer (some ⟨b6, 0, none⟩)), (23, .int .i64 (((dLen l).1 : Nat) : Int)), (24, .int .i64 (i : Int))]) (fun x => match x with | ⟨i, u⟩ => [(some b6, .cells (rpCells (dRp l) (u.v i)).toArray 25 (0, 0)), (u.ob, .cells u.cs 96 u.fz), (some br, .cells #[.string (bs (rdLs (dLen l).2.1 (dLen l).2.2 i).2.1), .int .i64 (((rdLs (dLen l).2.1 (dLen l).2.2 i).2.2 : Nat) : Int)] 175 (0, 0)), (some b4, .cells #[.pointer (some ⟨br, 0, none⟩)] 127 (0, 0)), (some b2, .cells (rpCells zeroRp (.slice none 0 0)).toArray 25 (0, 0))]) ?round7 (0, slNil) ?h07)
         case he7 => exact (And.intro rfl (And.intro rfl (And.intro rfl (And.intro rfl (And.intro rfl (And.intro rfl trivial))))))
         case hl7 => exact ⟨_, by simp only [rdLs_zero]; rfl⟩
         case h07 => exact ⟨Nat.zero_le _, by rw [rdLs_zero]; exact own_nil 6⟩
         case round7 =>
          intro x hJ ih
          try dsimp only at hJ ih
          obtain ⟨i, u⟩ := x
          try dsimp only at hJ ih
          obtain ⟨hi, hux⟩ := hJ
          show G _ _ [(2, .pointer (some ⟨b2, 0, none⟩)), (4, .pointer (some ⟨b4, 0, none⟩)), (5, .func (.func 85) #[] #[.pointer (some ⟨b4, 0, none⟩)]), (6, .pointer (some ⟨b6, 0, none⟩)), (23, .int .i64 (((dLen l).1 : Nat) : Int)), (24, .int .i64 (i : Int))] [(some b6, .cells (rpCells (dRp l) (u.v i)).toArray 25 (0, 0)), (u.ob, .cells u.cs 96 u.fz), (some br, .cells #[.string (bs (rdLs (dLen l).2.1 (dLen l).2.2 i).2.1), .int .i64 (((rdLs (dLen l).2.1 (dLen l).2.2 i).2.2 : Nat) : Int)] 175 (0, 0)), (some b4, .cells #[.pointer (some ⟨br, 0, none⟩)] 127 (0, 0)), (some b2, .cells (rpCells zeroRp (.slice none 0 0)).toArray 25 (0, 0))] _
          refine G_seq ?_
          refine G_region (l := [0]) rfl ?_
          refine G_val rfl rfl rfl rfl (V_lss rfl rfl rfl) ?_
          refine G_done ?_
          refine G_seq ?_
          refine G_ifD rfl (fun hc1 => ?_) (fun hc1 => ?_)
          · skip
            refine G_skip ?_
            refine G_seq ?_
            refine G_block ?_
            refine G_seq ?_
            obtain ⟨k1, k2, k3⟩ := rdLs_bd (dLen l).2.1 (dLen l).2.2 h5.2.2 i
            obtain ⟨q1, q2, q3, q4, q5, q6, q7, q8, q9, q10⟩ := ltOf_bd (rdLs (dLen l).2.1 (dLen l).2.2 i).2.1 (rdLs (dLen l).2.1 (dLen l).2.2 i).2.2 k3
            refine G_region (l := [0]) rfl ?_
            refine G_new rfl rfl rfl rfl (N_allocA rfl infReplyE_96 rfl) (fun b7 => ?_)
            refine G_done ?_
            refine G_seq ?_
            refine G_region (l := [0, 1, 2]) rfl ?_
            refine G_val rfl rfl rfl rfl (V_move rfl rfl) ?_
            refine G_call (L2 := [_, _, _, _, _, _]) rfl rfl rfl rfl rfl rfl Try.call72 (rep_letter _) [] [] rfl rfl ?_
            rintro v post ⟨bn0, rfl, rfl⟩
            show G _ _ _ [_, _, _, _, _, _, _] _
            refine G_callC (L2 := [_, _, _, _, _]) rfl rfl rfl rfl rfl rfl Try.call85 rfl (c_ltns _ _ _ _ (rdLs (dLen l).2.1 (dLen l).2.2 i).2.1 (rdLs (dLen l).2.1 (dLen l).2.2 i).2.2 (by omega) (by omega)) [1, 3] [0, 3] rfl rfl ?_
            rintro v post ⟨rfl, rfl⟩
            show G _ _ _ [_, _, _, _, _, _, _] _
            refine G_done ?_
            refine G_seq ?_
            refine GH_start (Lq := [_]) (isq := [5]) (m := 8) mixedK rfl rfl ?_
            refine GH_take 0 rfl rfl rfl rfl (by kernel_rfl) (by kernel_rfl) (by kernel_rfl) (fun _ _ => (V_load1 rfl rfl (mem_at 0 rfl) rfl Try.underlying127 rfl)) ?_
            refine GH_take 2 rfl rfl rfl rfl (by kernel_rfl) (by kernel_rfl) (by kernel_rfl) (fun _ _ => (V_load1 rfl rfl (mem_at 0 rfl) rfl Try.underlying127 rfl)) ?_
            refine GH_all [1] (by kernel_rfl) (by decide) ?_
            refine (And.intro ?_ trivial)
            · skip
              refine GHop_call (L2 := [_, _, _, _, _, _]) rfl rfl rfl rfl rfl rfl Try.call87 (c_lttx _ (rdLs (dLen l).2.1 (dLen l).2.2 i).2.1 (rdLs (dLen l).2.1 (dLen l).2.2 i).2.2 (by omega) (by omega)) [1] [] rfl rfl [5] (by rintro v post ⟨rfl, rfl⟩; exact ⟨_, rfl⟩) ?_
              rintro v post ⟨rfl, rfl⟩
              show GH _ _ _ _ _ _ _ [_, _, _, _, _, _, _] _
              refine GH_all [3] (by kernel_rfl) (by decide) ?_
              refine (And.intro ?_ trivial)
              · skip
                refine GHop_call (L2 := [_, _, _, _, _, _]) rfl rfl rfl rfl rfl rfl Try.call88 (c_ltn _ (rdLs (dLen l).2.1 (dLen l).2.2 i).2.1 (rdLs (dLen l).2.1 (dLen l).2.2 i).2.2 (by omega) (by omega)) [0] [] rfl rfl [5] (by rintro v post ⟨rfl, rfl⟩; exact ⟨_, rfl⟩) ?_
                rintro v post ⟨rfl, rfl⟩
                show GH _ _ _ _ _ _ _ [_, _, _, _, _, _, _] _
                refine GH_take 4 rfl rfl rfl rfl (by kernel_rfl) (by kernel_rfl) (by kernel_rfl) (fun _ _ => (V_fieldAddr (fo := 4) rfl Try.underlying96 rfl infReplyE_9 rfl rfl rfl)) ?_
                refine GH_all [5] (by kernel_rfl) (by decide) ?_
                refine (And.intro ?_ trivial)
                · skip
                  refine GHop_put (l1 := [_]) (L' := [_, _, _, _, _, _, _]) rfl rfl rfl rfl (P_store1 rfl rfl rfl (mem_at 1 rfl) (by first | exact of_decide_eq_true rfl | omega | (simp [ltCells, rpCells, Sl.v]; done) | (simp [ltCells, rpCells, Sl.v]; omega) | (simp [ltCells, rpCells, Sl.v] at *; omega)) infReplyE_9 rfl rfl) rfl [5] rfl ?_
                  refine GH_take 6 rfl rfl rfl rfl (by kernel_rfl) (by kernel_rfl) (by kernel_rfl) (fun _ _ => (V_fieldAddr (fo := 5) rfl Try.underlying96 rfl infReplyE_94 rfl rfl rfl)) ?_
                  refine GH_all [7] (by kernel_rfl) (by decide) ?_
                  refine (And.intro ?_ trivial)
                  · skip
                    refine GHop_put (l1 := [_]) (L' := [_, _, _, _, _, _, _]) rfl rfl rfl rfl (P_store1 rfl rfl rfl (mem_at 1 rfl) (by first | exact of_decide_eq_true rfl | omega | (simp [ltCells, rpCells, Sl.v]; done) | (simp [ltCells, rpCells, Sl.v]; omega) | (simp [ltCells, rpCells, Sl.v] at *; omega)) infReplyE_94 rfl rfl) rfl [5] rfl ?_
                    refine GH_done (by kernel_rfl) ?_
                    rw [set_lt2]
                    refine G_region (l := [0, 1, 2, 3, 4, 5, 6]) rfl ?_
                    refine G_val rfl rfl rfl rfl (V_fieldAddr (fo := 11) rfl Try.underlying25 rfl infReplyE_23 rfl rfl rfl) ?_
                    refine G_val rfl rfl rfl rfl (V_load1 rfl rfl (mem_at 3 rfl) rfl Try.underlying23 rfl) ?_
                    first
                      | refine G_val rfl rfl rfl rfl (V_loadW (s := 6) rfl rfl (mem_at 1 rfl) Try.underlying96 rfl infReplyE_96 rfl (by first | rfl | (simp [bcells_length, ltCells, rpCells, Sl.v]; done) | (simp [bcells_length, ltCells, rpCells, Sl.v]; omega) | (simp [bcells_length, *, ltCells, rpCells, Sl.v]; done))) ?_
                      | refine G_val rfl rfl rfl rfl (V_loadA (s := 6) rfl rfl (mem_at 1 rfl) Try.underlying96 rfl infReplyE_96 rfl rfl (by first | rfl | (simp [bcells_length, ltCells, rpCells, Sl.v]; done) | (simp [bcells_length, ltCells, rpCells, Sl.v]; omega) | (simp [bcells_length, *, ltCells, rpCells, Sl.v]; done))) ?_
                    refine G_new rfl rfl rfl rfl (N_buildAll (s := 6) (cs := [_, _, _, _, _, _]) rfl Try.underlying23 infReplyE_96 rfl rfl rfl rfl rfl rfl rfl rfl rfl) (fun b38 => ?_)
                    refine G_append (l1 := [_, _, _, _, _]) (s := u) (nn := i) (m := 1) (news := ltCells (ltOf (rdLs (dLen l).2.1 (dLen l).2.2 i).2.1 (rdLs (dLen l).2.1 (dLen l).2.2 i).2.2)) (bt := 56) rfl rfl rfl rfl Try.underlying23 Try.underlying23 (by first | exact .inl rfl | exact .inr ⟨_, rfl⟩) infReplyE_96 rfl rfl rfl rfl rfl rfl hux rfl (src_mem (mem_at 0 rfl) rfl rfl (by simp [ltCells, Value.oneCell'])) (by omega) (by omega) ?_
                    intro u1 hu1 _
                    show G _ _ _ [_, _, _, _, _, _, _, _] _
                    refine G_val rfl rfl rfl rfl (V_fieldAddr (fo := 11) rfl Try.underlying25 rfl infReplyE_23 rfl rfl rfl) ?_
                    refine G_put (l1 := [_, _, _, _]) (L' := [_, _, _, _, _, _, _, _]) rfl rfl rfl rfl (P_store1 rfl rfl rfl (mem_at 4 rfl) (by first | exact of_decide_eq_true rfl | omega | (simp [ltCells, rpCells, Sl.v]; done) | (simp [ltCells, rpCells, Sl.v]; omega) | (simp [ltCells, rpCells, Sl.v] at *; omega)) infReplyE_23 rfl rfl) rfl ?_
                    refine G_done ?_
                    refine G_inBlock ?_
                    rw [set_ls]
                    refine G_region (l := [0, 1]) rfl ?_
                    first
                      | refine G_val rfl rfl rfl rfl ((V_add rfl rfl rfl).int (wrap_i64 (by omega))) ?_
                      | refine G_val rfl rfl rfl rfl (V_add rfl rfl rfl) ?_
                    refine G_val rfl rfl rfl rfl (V_move rfl rfl) ?_
                    refine G_done ?_
                    refine G_sub ?_ [4, 4, 1, 3, 3] ?_ (ih (i + 1, u1) ?_ ?_)
                    · (refine (And.intro ?_ (And.intro ?_ (And.intro ?_ (And.intro ?_ (And.intro ?_ (And.intro ?_ trivial)))))) <;> first | rfl | exact slot_int (by omega) | exact slot_int (by simp))
                    · exact ⟨_, rfl⟩
                    · exact ⟨by omega, by rw [← rdLs_next]; exact hu1⟩
                    · (first | omega | (dsimp only; omega))
          refine G_exit rfl ?_
          refine G_seq ?_
          refine G_seq ?_
          refine G_region (l := [0, 1, 2]) rfl ?_
          refine G_val rfl rfl rfl rfl (V_load1 rfl rfl (mem_at 3 rfl) rfl Try.underlying127 rfl) ?_
          refine G_call (L2 := [_, _, _, _, _]) rfl rfl rfl rfl rfl rfl Try.call89 (rd_end _ _ _) [] [2] rfl rfl ?_
          rintro v post ⟨rfl, rfl⟩
          show G _ _ _ [_, _, _, _, _] _
          refine G_val rfl rfl rfl rfl (V_neq rfl rfl rfl) ?_
          refine G_done ?_
          refine G_ifD rfl (fun hc2 => ?_) (fun hc2 => ?_)
          · skip
            refine G_seq ?_
            refine G_addNone (.cells #[] 96 (0, 0)) ?_
            refine G_region (l := [0, 1, 2]) rfl ?_
            refine G_val rfl rfl rfl rfl (V_buildS (cs := [_, _, _, _, _, _, _, _, _, _, _, _]) rfl Try.underlying25 infReplyE_25 rfl plcReplyE_25 rfl rfl rfl) ?_
            refine G_put (l1 := [_, _, _, _, _]) (L' := [_, _, _, _, _, _]) rfl rfl rfl rfl (P_storeA (s := 12) rfl rfl rfl (mem_at 5 rfl) (by first | rfl | (simp [bcells_length, ltCells, rpCells, Sl.v]; done) | (simp [bcells_length, ltCells, rpCells, Sl.v]; omega) | (simp [bcells_length, *, ltCells, rpCells, Sl.v]; done)) infReplyE_25 rfl (by first | rfl | (simp [bcells_length, ltCells, rpCells, Sl.v]; done) | (simp [bcells_length, ltCells, rpCells, Sl.v]; omega) | (simp [bcells_length, *, ltCells, rpCells, Sl.v]; done)) (by first | rfl | exact bcells_all _ | (simp [Value.oneCell', ltCells, rpCells, Sl.v]; done) | (simp [Value.oneCell', *, ltCells, rpCells, Sl.v]; done))) rfl ?_
            refine G_val rfl rfl rfl rfl (V_assign rfl rfl) ?_
            refine G_done ?_
            refine G_ret (post := [_]) Try.func21 rfl (RVs_cons (RV_cell (s := 12) rfl (mem_at 5 rfl) Try.underlying25 rfl infReplyE_25 rfl (by first | rfl | (simp [bcells_length, ltCells, rpCells, Sl.v]; done) | (simp [bcells_length, ltCells, rpCells, Sl.v]; omega) | (simp [bcells_length, *, ltCells, rpCells, Sl.v]; done))) (RVs_cons (RV_tmp rfl) RVs_nil)) [0] rfl ?_
            dsimp only [packed]
            obtain rfl : i = (dLen l).1 := by omega
            have hk := (rdLs_bd (dLen l).2.1 (dLen l).2.2 h5.2.2 (dLen l).1).1
            first
              | (have hE : dEnd l = 0 := by unfold dEnd dLs; omega
                 refine ⟨u, ?_, ?_, rfl⟩
                 · unfold decLs dLs; rw [if_pos hE, hk]; exact hux
                 · unfold decE decRp decLs dLs; rw [if_pos hE, if_pos hE, if_pos hE, hk])
              | (have hE : ¬ dEnd l = 0 := by unfold dEnd dLs; omega
                 refine ⟨slNil, ?_, ?_, rfl⟩
                 · unfold decLs; rw [if_neg hE]; exact own_nil 6
                 · unfold decE decRp decLs; rw [if_neg hE, if_neg hE, if_neg hE]; rfl)
          refine G_skip ?_
          refine G_seq ?_
          refine G_region (l := [0, 1, 2]) rfl ?_
          first
            | refine G_val rfl rfl rfl rfl (V_loadW (s := 12) rfl rfl (mem_at 0 rfl) Try.underlying25 rfl infReplyE_25 rfl (by first | rfl | (simp [bcells_length, ltCells, rpCells, Sl.v]; done) | (simp [bcells_length, ltCells, rpCells, Sl.v]; omega) | (simp [bcells_length, *, ltCells, rpCells, Sl.v]; done))) ?_
            | refine G_val rfl rfl rfl rfl (V_loadA (s := 12) rfl rfl (mem_at 0 rfl) Try.underlying25 rfl infReplyE_25 rfl rfl (by first | rfl | (simp [bcells_length, ltCells, rpCells, Sl.v]; done) | (simp [bcells_length, ltCells, rpCells, Sl.v]; omega) | (simp [bcells_length, *, ltCells, rpCells, Sl.v]; done))) ?_
          refine G_put (l1 := [_, _, _, _]) (L' := [_, _, _, _, _]) rfl rfl rfl rfl (P_storeA (s := 12) rfl rfl rfl (mem_at 4 rfl) (by first | rfl | (simp [bcells_length, ltCells, rpCells, Sl.v]; done) | (simp [bcells_length, ltCells, rpCells, Sl.v]; omega) | (simp [bcells_length, *, ltCells, rpCells, Sl.v]; done)) infReplyE_25 rfl (by first | rfl | (simp [bcells_length, ltCells, rpCells, Sl.v]; done) | (simp [bcells_length, ltCells, rpCells, Sl.v]; omega) | (simp [bcells_length, *, ltCells, rpCells, Sl.v]; done)) (by first | rfl | exact bcells_all _ | (simp [Value.oneCell', ltCells, rpCells, Sl.v]; done) | (simp [Value.oneCell', *, ltCells, rpCells, Sl.v]; done))) rfl ?_
          refine G_val rfl rfl rfl rfl (V_assign rfl rfl) ?_
          refine G_done ?_
          refine G_ret (post := [_]) Try.func21 rfl (RVs_cons (RV_cell (s := 12) rfl (mem_at 4 rfl) Try.underlying25 rfl infReplyE_25 rfl (by first | rfl | (simp [bcells_length, ltCells, rpCells, Sl.v]; done) | (simp [bcells_length, ltCells, rpCells, Sl.v]; omega) | (simp [bcells_length, *, ltCells, rpCells, Sl.v]; done))) (RVs_cons (RV_tmp rfl) RVs_nil)) [1] rfl ?_
          dsimp only [packed]
          obtain rfl : i = (dLen l).1 := by omega
          have hk := (rdLs_bd (dLen l).2.1 (dLen l).2.2 h5.2.2 (dLen l).1).1
          first
            | (have hE : dEnd l = 0 := by unfold dEnd dLs; omega
               refine ⟨u, ?_, ?_, rfl⟩
               · unfold decLs dLs; rw [if_pos hE, hk]; exact hux
               · unfold decE decRp decLs dLs; rw [if_pos hE, if_pos hE, if_pos hE, hk])
            | (have hE : ¬ dEnd l = 0 := by unfold dEnd dLs; omega
               refine ⟨slNil, ?_, ?_, rfl⟩
               · unfold decLs; rw [if_neg hE]; exact own_nil 6
               · unfold decE decRp decLs; rw [if_neg hE, if_neg hE, if_neg hE]; rfl)

end
end Go.Proofs.Ytkidmbaakdaflaa
