/- What the law TellStates needs, part 6. -/
import Derived.Test.YtjnaeoelnmhjfaaDoorPkTellStates1
import Derived.Test.YtjnaeoelnmhjfaaDoorPkTellStates2
import Derived.Test.YtjnaeoelnmhjfaaDoorPkTellStates3
import Derived.Test.YtjnaeoelnmhjfaaDoorPkTellStates4
import Derived.Test.YtjnaeoelnmhjfaaDoorPkTellStates5


/- The reference's text of a state. -/
set_option linter.unusedSimpArgs false
set_option linter.unusedVariables false
namespace Go.Proofs.YtjnaeoelnmhjfaaDoor
open Go Go.Shelf Go.RowKit

section
theorem infTellSs_3 : Tryd.prog.info? 3 = some Tryd.t3 := by kernel_rfl
theorem infTellSs_4 : Tryd.prog.info? 4 = some Tryd.t4 := by kernel_rfl
theorem infTellSs_9 : Tryd.prog.info? 9 = some Tryd.t9 := by kernel_rfl
theorem infTellSs_32 : Tryd.prog.info? 32 = some Tryd.t32 := by kernel_rfl
theorem infTellSs_33 : Tryd.prog.info? 33 = some Tryd.t33 := by kernel_rfl
theorem infTellSs_34 : Tryd.prog.info? 34 = some Tryd.t34 := by kernel_rfl
theorem infTellSs_35 : Tryd.prog.info? 35 = some Tryd.t35 := by kernel_rfl
theorem infTellSs_38 : Tryd.prog.info? 38 = some Tryd.t38 := by kernel_rfl
theorem infTellSs_39 : Tryd.prog.info? 39 = some Tryd.t39 := by kernel_rfl
theorem infTellSs_80 : Tryd.prog.info? 80 = some Tryd.t80 := by kernel_rfl
theorem infTellSs_82 : Tryd.prog.info? 82 = some Tryd.t82 := by kernel_rfl
theorem infTellSs_93 : Tryd.prog.info? 93 = some Tryd.t93 := by kernel_rfl
theorem infTellSs_95 : Tryd.prog.info? 95 = some Tryd.t95 := by kernel_rfl


theorem wk_step {t : List UInt8} {l : List Wkr} {i : Nat} {x : Wkr} (h : l[i]? = some x) : t ++ linesT wkParts (l.take i) ++ [119, 111, 114, 107, 101, 114, 32] ++ quoteT x.m ++ [32] ++ Lib.itoa x.a.2.1 ++ [32] ++ Lib.itoa x.a.2.2 ++ [10] = t ++ linesT wkParts (l.take (i + 1)) := by
  rw [← linesT_next h]; simp [lineT, wkParts, joinT, List.append_assoc]
theorem iv_step {t : List UInt8} {l : List Ivr} {i : Nat} {x : Ivr} (h : l[i]? = some x) : t ++ linesT ivParts (l.take i) ++ [105, 110, 118, 32] ++ Lib.itoa x.a.2 ++ [32] ++ quoteT x.s ++ [32] ++ Lib.itoa x.b.2 ++ [10] = t ++ linesT ivParts (l.take (i + 1)) := by
  rw [← linesT_next h]; simp [lineT, ivParts, joinT, List.append_assoc]
theorem lt_step {t : List UInt8} {l : List Ltr} {i : Nat} {x : Ltr} (h : l[i]? = some x) : t ++ linesT ltParts (l.take i) ++ [108, 101, 116, 116, 101, 114, 32] ++ Lib.itoa x.a.1 ++ [32] ++ Lib.itoa x.a.2.2.2 ++ [10] = t ++ linesT ltParts (l.take (i + 1)) := by
  rw [← linesT_next h]; simp [lineT, ltParts, joinT, List.append_assoc]
theorem wt_step {t : List UInt8} {l : List Wtr} {i : Nat} {x : Wtr} (h : l[i]? = some x) : t ++ linesT wtParts (l.take i) ++ [119, 97, 105, 116, 32] ++ quoteT x.s ++ [32] ++ Lib.itoa x.n ++ [10] = t ++ linesT wtParts (l.take (i + 1)) := by
  rw [← linesT_next h]; simp [lineT, wtParts, joinT, List.append_assoc]

set_option maxRecDepth 100000 in
set_option maxHeartbeats 4000000 in
theorem rts_state0 (tk : Nat) (htk : tk < 18446744073709551616) (dr : Bool) (n2 n3 n4 n5 n6 : Int) (x11 x12 : Option Addr) (n11 q11 n12 q12 : Nat) (o7 : Option Nat) (p7 q7 : Nat) (c7 : Array Value) (T7 : TypeId) (f7 : Nat × Nat) (l7 : List Opr) (s7 : Sees 18 o7 p7 q7 c7 (l7.flatMap opC) l7.length) (h7 : ∀ x ∈ l7, OprOk x) (o8 : Option Nat) (p8 q8 : Nat) (c8 : Array Value) (T8 : TypeId) (f8 : Nat × Nat) (l8 : List Opr) (s8 : Sees 18 o8 p8 q8 c8 (l8.flatMap opC) l8.length) (h8 : ∀ x ∈ l8, OprOk x) (o9 : Option Nat) (p9 q9 : Nat) (c9 : Array Value) (T9 : TypeId) (f9 : Nat × Nat) (l9 : List Wkr) (s9 : Sees 7 o9 p9 q9 c9 (l9.flatMap wkC) l9.length) (h9 : ∀ x ∈ l9, WkrOk x) (o10 : Option Nat) (p10 q10 : Nat) (c10 : Array Value) (T10 : TypeId) (f10 : Nat × Nat) (l10 : List Ivr) (s10 : Sees 5 o10 p10 q10 c10 (l10.flatMap ivC) l10.length) (h10 : ∀ x ∈ l10, IvrOk x) (o13 : Option Nat) (p13 q13 : Nat) (c13 : Array Value) (T13 : TypeId) (f13 : Nat × Nat) (l13 : List Ltr) (s13 : Sees 6 o13 p13 q13 c13 (l13.flatMap ltC) l13.length) (h13 : ∀ x ∈ l13, LtrOk x) (o14 : Option Nat) (p14 q14 : Nat) (c14 : Array Value) (T14 : TypeId) (f14 : Nat × Nat) (l14 : List Wtr) (s14 : Sees 2 o14 p14 q14 c14 (l14.flatMap wtC) l14.length) (h14 : ∀ x ∈ l14, WtrOk x) (hb : l7.length + l8.length + l9.length + l10.length + l13.length + l14.length ≤ 300) :
    Ct Tryd.prog 18 [.agg #[.int .u64 (tk : Int), .bool dr, .int .i64 n2, .int .i64 n3, .int .i64 n4, .int .i64 n5, .int .i64 n6, sv o7 p7 l7.length q7, sv o8 p8 l8.length q8, sv o9 p9 l9.length q9, sv o10 p10 l10.length q10, .slice x11 n11 q11, .slice x12 n12 q12, sv o13 p13 l13.length q13, sv o14 p14 l14.length q14]] [(o7, .cells c7 T7 f7), (o8, .cells c8 T8 f8), (o9, .cells c9 T9 f9), (o10, .cells c10 T10 f10), (o13, .cells c13 T13 f13), (o14, .cells c14 T14 f14)] [] fun v post => v = .string (bs (stT7 tk dr l7 l8 l9 l10 l13 l14)) ∧ post = [] := by
 have hdl := dec_len20 htk
 refine ct_of Tryd.func18 rfl rfl (fun w0 => ?_)
 show G _ _ [(0, _)] _ _
 refine G_seq ?_
 refine G_region (l := [0, 1]) rfl ?_
 refine G_new rfl rfl rfl rfl (N_boxA rfl rfl) (fun b1 => ?_)
 refine G_val rfl rfl rfl rfl (V_assign rfl rfl) ?_
 refine G_done ?_
 refine G_seq ?_
 refine G_region (l := [0, 1, 2, 3, 4]) rfl ?_
 refine G_val rfl rfl rfl rfl (V_fieldAddr (fo := 0) rfl Tryd.underlying41 rfl infTellSs_32 rfl rfl rfl) ?_
 refine G_val rfl rfl rfl rfl (V_load1 rfl rfl (mem_at 6 rfl) rfl Tryd.underlying32 rfl) ?_
 refine G_call (L2 := [_]) rfl rfl rfl rfl rfl rfl Tryd.call42 (rt_tens tk htk) [] [] rfl rfl ?_
 rintro v post ⟨rfl, rfl⟩
 show G _ _ _ [_] _
 refine G_val rfl rfl rfl rfl (V_sadd rfl rfl rfl (by first | omega | (simp [rqCells, Sl.v, opC, wkC, ivC, ltC, wtC]; done) | (simp [rqCells, Sl.v, opC, wkC, ivC, ltC, wtC]; omega) | (simp [rqCells, Sl.v, opC, wkC, ivC, ltC, wtC] at *; omega))) ?_
 refine G_val rfl rfl rfl rfl (V_assign rfl rfl) ?_
 refine G_done ?_
 refine G_seq ?_
 refine G_seq ?_
 have hl1 := st1_len htk dr
 by_cases hdr : dr = true
 · skip
   refine G_region (l := [0, 1]) rfl ?_
   refine G_val rfl rfl rfl rfl (V_fieldAddr (fo := 1) rfl Tryd.underlying41 rfl infTellSs_4 rfl rfl rfl) ?_
   refine G_val rfl rfl rfl rfl (V_load1 rfl rfl (mem_at 6 rfl) rfl Tryd.underlying4 rfl) ?_
   refine G_done ?_
   refine G_if rfl (fun hc1 => ?_) (fun hc1 => ?_)
   rotate_left
   · (first | exact Bool.noConfusion (hdr.symm.trans hc1) | exact absurd hdr hc1 | exact absurd hc1 hdr | (exact absurd rfl hc1) | (exfalso; omega) | (exfalso; simp at hc1; done))
   refine G_region (l := [0, 1, 2]) rfl ?_
   refine G_val rfl rfl rfl rfl (V_move rfl rfl) ?_
   refine G_val rfl rfl rfl rfl (V_sadd rfl rfl rfl (by first | omega | (simp [rqCells, Sl.v, opC, wkC, ivC, ltC, wtC]; done) | (simp [rqCells, Sl.v, opC, wkC, ivC, ltC, wtC]; omega) | (simp [rqCells, Sl.v, opC, wkC, ivC, ltC, wtC] at *; omega))) ?_
   refine G_val rfl rfl rfl rfl (V_assign rfl rfl) ?_
   refine G_done ?_
   refine G_seq ?_
   first | rw [show [116, 105, 99, 107, 32] ++ Lib.decDigits tk = joinT 32 (headP tk dr) by rw [eq_false_of_ne_true hdr]; simp [headP, joinT]] | rw [show [116, 105, 99, 107, 32] ++ Lib.decDigits tk ++ [32, 100, 114, 97, 105, 110, 105, 110, 103] = joinT 32 (headP tk dr) by rw [hdr]; simp [headP, joinT]]
   have hjt := joinT_len 32 (headP tk dr)
   obtain ⟨hh1, hh2⟩ := head_sum htk dr
   have ho7 := opsT_len (w := [111, 112]) (by simp) h7
   have ho8 := opsT_len (w := [101, 110, 100, 101, 100]) (by simp) h8
   refine GH_start (Lq := [_]) (isq := [0]) (m := 11) mixedK rfl rfl ?_
   refine GH_take 0 rfl rfl rfl rfl (by kernel_rfl) (by kernel_rfl) (by kernel_rfl) (fun _ _ => (V_move rfl rfl)) ?_
   refine GH_take 1 rfl rfl rfl rfl (by kernel_rfl) (by kernel_rfl) (by kernel_rfl) (fun _ _ => (V_sadd rfl rfl rfl (by first | omega | (simp [rqCells, Sl.v, opC, wkC, ivC, ltC, wtC]; done) | (simp [rqCells, Sl.v, opC, wkC, ivC, ltC, wtC]; omega) | (simp [rqCells, Sl.v, opC, wkC, ivC, ltC, wtC] at *; omega)))) ?_
   refine GH_take 2 rfl rfl rfl rfl (by kernel_rfl) (by kernel_rfl) (by kernel_rfl) (fun _ _ => (V_fieldAddr (fo := 7) rfl Tryd.underlying41 rfl infTellSs_33 rfl rfl rfl)) ?_
   refine GH_take 3 rfl rfl rfl rfl (by kernel_rfl) (by kernel_rfl) (by kernel_rfl) (fun _ _ => (V_load1 rfl rfl (mem_at 6 rfl) rfl Tryd.underlying33 rfl)) ?_
   refine GH_take 6 rfl rfl rfl rfl (by kernel_rfl) (by kernel_rfl) (by kernel_rfl) (fun _ _ => (V_fieldAddr (fo := 8) rfl Tryd.underlying41 rfl infTellSs_33 rfl rfl rfl)) ?_
   refine GH_take 7 rfl rfl rfl rfl (by kernel_rfl) (by kernel_rfl) (by kernel_rfl) (fun _ _ => (V_load1 rfl rfl (mem_at 6 rfl) rfl Tryd.underlying33 rfl)) ?_
   refine GH_all [4] (by kernel_rfl) (by decide) ?_
   refine (And.intro ?_ trivial)
   · skip
     refine GHop_call (L2 := [_]) rfl rfl rfl rfl rfl rfl Tryd.call43 (rts_ops o7 p7 q7 c7 T7 f7 l7 s7 h7 [111, 112] (by simp) (by omega)) [] [0] rfl rfl [0] (by rintro v post ⟨rfl, rfl⟩; exact ⟨_, rfl⟩) ?_
     rintro v post ⟨rfl, rfl⟩
     show GH _ _ _ _ _ _ _ [_] _
     refine GH_take 5 rfl rfl rfl rfl (by kernel_rfl) (by kernel_rfl) (by kernel_rfl) (fun _ _ => (V_sadd rfl rfl rfl (by first | omega | (simp [rqCells, Sl.v, opC, wkC, ivC, ltC, wtC]; done) | (simp [rqCells, Sl.v, opC, wkC, ivC, ltC, wtC]; omega) | (simp [rqCells, Sl.v, opC, wkC, ivC, ltC, wtC] at *; omega)))) ?_
     refine GH_all [8] (by kernel_rfl) (by decide) ?_
     refine (And.intro ?_ trivial)
     · skip
       refine GHop_call (L2 := [_]) rfl rfl rfl rfl rfl rfl Tryd.call43 (rts_ops o8 p8 q8 c8 T8 f8 l8 s8 h8 [101, 110, 100, 101, 100] (by simp) (by omega)) [] [1] rfl rfl [0] (by rintro v post ⟨rfl, rfl⟩; exact ⟨_, rfl⟩) ?_
       rintro v post ⟨rfl, rfl⟩
       show GH _ _ _ _ _ _ _ [_] _
       refine GH_take 9 rfl rfl rfl rfl (by kernel_rfl) (by kernel_rfl) (by kernel_rfl) (fun _ _ => (V_sadd rfl rfl rfl (by first | omega | (simp [rqCells, Sl.v, opC, wkC, ivC, ltC, wtC]; done) | (simp [rqCells, Sl.v, opC, wkC, ivC, ltC, wtC]; omega) | (simp [rqCells, Sl.v, opC, wkC, ivC, ltC, wtC] at *; omega)))) ?_
       refine GH_take 10 rfl rfl rfl rfl (by kernel_rfl) (by kernel_rfl) (by kernel_rfl) (fun _ _ => (V_assign rfl rfl)) ?_
       refine GH_done (by kernel_rfl) ?_
       refine G_seq ?_
       refine G_seq ?_
       have hl2 : (stT2 tk dr l7).length = (stT1 tk dr).length + (opsT [111, 112] l7).length := by unfold stT2; rw [List.length_append]
       have hl3 : (stT3 tk dr l7 l8).length = (stT2 tk dr l7).length + (opsT [101, 110, 100, 101, 100] l8).length := by unfold stT3; rw [List.length_append]
       rw [show joinT 32 (headP tk dr) ++ [10] ++ opsT [111, 112] l7 ++ opsT [101, 110, 100, 101, 100] l8 = stT3 tk dr l7 l8 from rfl]
       refine G_region (l := [0]) rfl ?_
       refine G_val rfl rfl rfl rfl (V_assign rfl rfl) ?_
       refine G_done ?_
       refine G_block ?_
       refine G_sub ?he6 [0] ?hl6 (G_loop (X := Nat) (fun i9 => i9 ≤ l9.length) (fun i9 => l9.length - i9) (fun i9 => [(1, .pointer (some ⟨b1, 0, none⟩)), (3, .string (bs (stT3 tk dr l7 l8 ++ linesT wkParts (l9.take i9)))), (4, .int .i64 (i9 : Int))]) (fun i9 => [(some b1, .cells #[.int .u64 (tk : Int), .bool dr, .int .i64 n2, .int .i64 n3, .int .i64 n4, .int .i64 n5, .int .i64 n6, sv o7 p7 l7.length q7, sv o8 p8 l8.length q8, sv o9 p9 l9.length q9, sv o10 p10 l10.length q10, .slice x11 n11 q11, .slice x12 n12 q12, sv o13 p13 l13.length q13, sv o14 p14 l14.length q14] 41 (0, 0))]) ?round6 0 ?h06)
       case he6 => (refine (And.intro rfl (And.intro (slot_str (by simp [linesT])) (And.intro rfl trivial))))
       case hl6 => exact ⟨_, rfl⟩
       case h06 => exact Nat.zero_le _
       case round6 =>
        intro i9 hJ ih9
        try dsimp only at hJ ih9
        refine G_seq ?_
        refine G_seq ?_
        refine G_region (l := [0, 1, 2, 3, 4]) rfl ?_
        refine G_val rfl rfl rfl rfl (V_move rfl rfl) ?_
        refine G_val rfl rfl rfl rfl (V_fieldAddr (fo := 9) rfl Tryd.underlying41 rfl infTellSs_34 rfl rfl rfl) ?_
        refine G_val rfl rfl rfl rfl (V_load1 rfl rfl (mem_at 6 rfl) rfl Tryd.underlying34 rfl) ?_
        refine G_val rfl rfl rfl rfl (V_len rfl rfl Tryd.underlying34 rfl) ?_
        refine G_val rfl rfl rfl rfl (V_lss rfl rfl rfl) ?_
        refine G_done ?_
        refine G_ifD rfl (fun hc2 => ?_) (fun hc2 => ?_)
        · skip
          refine G_skip ?_
          refine G_seq ?_
          refine G_block ?_
          obtain ⟨x9, hx9⟩ := getI (show i9 < l9.length by omega)
          obtain ⟨bo9, rfl⟩ := s9.isSome (by omega)
          have hk9 := h9 x9 (List.mem_of_getElem? hx9)
          have hz9 : (linesT wkParts (l9.take i9)).length ≤ 5000007 * (l9.take i9).length := linesT_len (fun y hy => ⟨wk_sum (h9 y (List.mem_of_mem_take hy)), by simp [wkParts]⟩)
          have ht9 : (l9.take i9).length ≤ i9 := by simp; omega
          have hq90 := itoa_len hk9.a1.1 hk9.a1.2
          have hq91 := itoa_len hk9.a2.1 hk9.a2.2
          have hq92 := quoteT_len x9.m
          have hq93 := hk9.m1
          refine GH_start (Lq := [_]) (isq := [0]) (m := 30) mixedK rfl rfl ?_
          refine GH_take 0 rfl rfl rfl rfl (by kernel_rfl) (by kernel_rfl) (by kernel_rfl) (fun _ _ => (V_move rfl rfl)) ?_
          refine GH_take 1 rfl rfl rfl rfl (by kernel_rfl) (by kernel_rfl) (by kernel_rfl) (fun _ _ => (V_sadd rfl rfl rfl (by first | omega | (simp [rqCells, Sl.v, opC, wkC, ivC, ltC, wtC]; done) | (simp [rqCells, Sl.v, opC, wkC, ivC, ltC, wtC]; omega) | (simp [rqCells, Sl.v, opC, wkC, ivC, ltC, wtC] at *; omega)))) ?_
          refine GH_take 2 rfl rfl rfl rfl (by kernel_rfl) (by kernel_rfl) (by kernel_rfl) (fun _ _ => (V_fieldAddr (fo := 9) rfl Tryd.underlying41 rfl infTellSs_34 rfl rfl rfl)) ?_
          refine GH_take 3 rfl rfl rfl rfl (by kernel_rfl) (by kernel_rfl) (by kernel_rfl) (fun _ _ => (V_load1 rfl rfl (mem_at 6 rfl) rfl Tryd.underlying34 rfl)) ?_
          refine GH_take 4 rfl rfl rfl rfl (by kernel_rfl) (by kernel_rfl) (by kernel_rfl) (fun _ _ => (V_move rfl rfl)) ?_
          first
            | refine GH_take 5 rfl rfl rfl rfl (by kernel_rfl) (by kernel_rfl) (by kernel_rfl) (fun _ _ => (V_indexAddrN (s := 7) rfl Tryd.underlying34 infTellSs_80 rfl rfl rfl rfl (by omega))) ?_
            | refine GH_take 5 rfl rfl rfl rfl (by kernel_rfl) (by kernel_rfl) (by kernel_rfl) (fun _ _ => (V_indexAddr (s := 7) rfl Tryd.underlying34 infTellSs_80 rfl rfl rfl (by omega) (by first | omega | (simp [rqCells, Sl.v, opC, wkC, ivC, ltC, wtC]; done) | (simp [rqCells, Sl.v, opC, wkC, ivC, ltC, wtC]; omega) | (simp [rqCells, Sl.v, opC, wkC, ivC, ltC, wtC] at *; omega)))) ?_
          refine GH_take 6 rfl rfl rfl rfl (by kernel_rfl) (by kernel_rfl) (by kernel_rfl) (fun _ _ => (V_fieldAddr (fo := _ + 3) rfl Tryd.underlying80 rfl infTellSs_9 rfl rfl rfl)) ?_
          refine GH_take 7 rfl rfl rfl rfl (by kernel_rfl) (by kernel_rfl) (by kernel_rfl) (fun _ _ => (V_load1 rfl rfl (mem_at 2 rfl) (nth_of (cell_at s9 wk_len hx9 3 (by omega) rfl)) Tryd.underlying9 rfl)) ?_
          refine GH_take 11 rfl rfl rfl rfl (by kernel_rfl) (by kernel_rfl) (by kernel_rfl) (fun _ _ => (V_fieldAddr (fo := 9) rfl Tryd.underlying41 rfl infTellSs_34 rfl rfl rfl)) ?_
          refine GH_take 12 rfl rfl rfl rfl (by kernel_rfl) (by kernel_rfl) (by kernel_rfl) (fun _ _ => (V_load1 rfl rfl (mem_at 6 rfl) rfl Tryd.underlying34 rfl)) ?_
          refine GH_take 13 rfl rfl rfl rfl (by kernel_rfl) (by kernel_rfl) (by kernel_rfl) (fun _ _ => (V_move rfl rfl)) ?_
          first
            | refine GH_take 14 rfl rfl rfl rfl (by kernel_rfl) (by kernel_rfl) (by kernel_rfl) (fun _ _ => (V_indexAddrN (s := 7) rfl Tryd.underlying34 infTellSs_80 rfl rfl rfl rfl (by omega))) ?_
            | refine GH_take 14 rfl rfl rfl rfl (by kernel_rfl) (by kernel_rfl) (by kernel_rfl) (fun _ _ => (V_indexAddr (s := 7) rfl Tryd.underlying34 infTellSs_80 rfl rfl rfl (by omega) (by first | omega | (simp [rqCells, Sl.v, opC, wkC, ivC, ltC, wtC]; done) | (simp [rqCells, Sl.v, opC, wkC, ivC, ltC, wtC]; omega) | (simp [rqCells, Sl.v, opC, wkC, ivC, ltC, wtC] at *; omega)))) ?_
          refine GH_take 15 rfl rfl rfl rfl (by kernel_rfl) (by kernel_rfl) (by kernel_rfl) (fun _ _ => (V_fieldAddr (fo := _ + 1) rfl Tryd.underlying80 rfl infTellSs_3 rfl rfl rfl)) ?_
          refine GH_take 16 rfl rfl rfl rfl (by kernel_rfl) (by kernel_rfl) (by kernel_rfl) (fun _ _ => (V_load1 rfl rfl (mem_at 2 rfl) (nth_of (cell_at s9 wk_len hx9 1 (by omega) rfl)) Tryd.underlying3 rfl)) ?_
          refine GH_take 20 rfl rfl rfl rfl (by kernel_rfl) (by kernel_rfl) (by kernel_rfl) (fun _ _ => (V_fieldAddr (fo := 9) rfl Tryd.underlying41 rfl infTellSs_34 rfl rfl rfl)) ?_
          refine GH_take 21 rfl rfl rfl rfl (by kernel_rfl) (by kernel_rfl) (by kernel_rfl) (fun _ _ => (V_load1 rfl rfl (mem_at 6 rfl) rfl Tryd.underlying34 rfl)) ?_
          refine GH_take 22 rfl rfl rfl rfl (by kernel_rfl) (by kernel_rfl) (by kernel_rfl) (fun _ _ => (V_move rfl rfl)) ?_
          first
            | refine GH_take 23 rfl rfl rfl rfl (by kernel_rfl) (by kernel_rfl) (by kernel_rfl) (fun _ _ => (V_indexAddrN (s := 7) rfl Tryd.underlying34 infTellSs_80 rfl rfl rfl rfl (by omega))) ?_
            | refine GH_take 23 rfl rfl rfl rfl (by kernel_rfl) (by kernel_rfl) (by kernel_rfl) (fun _ _ => (V_indexAddr (s := 7) rfl Tryd.underlying34 infTellSs_80 rfl rfl rfl (by omega) (by first | omega | (simp [rqCells, Sl.v, opC, wkC, ivC, ltC, wtC]; done) | (simp [rqCells, Sl.v, opC, wkC, ivC, ltC, wtC]; omega) | (simp [rqCells, Sl.v, opC, wkC, ivC, ltC, wtC] at *; omega)))) ?_
          refine GH_take 24 rfl rfl rfl rfl (by kernel_rfl) (by kernel_rfl) (by kernel_rfl) (fun _ _ => (V_fieldAddr (fo := _ + 2) rfl Tryd.underlying80 rfl infTellSs_3 rfl rfl rfl)) ?_
          refine GH_take 25 rfl rfl rfl rfl (by kernel_rfl) (by kernel_rfl) (by kernel_rfl) (fun _ _ => (V_load1 rfl rfl (mem_at 2 rfl) (nth_of (cell_at s9 wk_len hx9 2 (by omega) rfl)) Tryd.underlying3 rfl)) ?_
          refine GH_all [8] (by kernel_rfl) (by decide) ?_
          refine (And.intro ?_ trivial)
          · skip
            refine GHop_call (L2 := [_]) rfl rfl rfl rfl rfl rfl Tryd.call10 (rtl_quote x9.m (by have := hk9.m1; omega)) [] [] rfl rfl [0] (by rintro v post ⟨rfl, rfl⟩; exact ⟨_, rfl⟩) ?_
            rintro v post ⟨rfl, rfl⟩
            show GH _ _ _ _ _ _ _ [_] _
            refine GH_take 9 rfl rfl rfl rfl (by kernel_rfl) (by kernel_rfl) (by kernel_rfl) (fun _ _ => (V_sadd rfl rfl rfl (by first | omega | (simp [rqCells, Sl.v, opC, wkC, ivC, ltC, wtC]; done) | (simp [rqCells, Sl.v, opC, wkC, ivC, ltC, wtC]; omega) | (simp [rqCells, Sl.v, opC, wkC, ivC, ltC, wtC] at *; omega)))) ?_
            refine GH_take 10 rfl rfl rfl rfl (by kernel_rfl) (by kernel_rfl) (by kernel_rfl) (fun _ _ => (V_sadd rfl rfl rfl (by first | omega | (simp [rqCells, Sl.v, opC, wkC, ivC, ltC, wtC]; done) | (simp [rqCells, Sl.v, opC, wkC, ivC, ltC, wtC]; omega) | (simp [rqCells, Sl.v, opC, wkC, ivC, ltC, wtC] at *; omega)))) ?_
            refine GH_all [17] (by kernel_rfl) (by decide) ?_
            refine (And.intro ?_ trivial)
            · skip
              refine GHop_call (L2 := [_]) rfl rfl rfl rfl rfl rfl Tryd.call44 (rt_int x9.a.2.1 hk9.a1.1 hk9.a1.2) [] [] rfl rfl [0] (by rintro v post ⟨rfl, rfl⟩; exact ⟨_, rfl⟩) ?_
              rintro v post ⟨rfl, rfl⟩
              show GH _ _ _ _ _ _ _ [_] _
              refine GH_take 18 rfl rfl rfl rfl (by kernel_rfl) (by kernel_rfl) (by kernel_rfl) (fun _ _ => (V_sadd rfl rfl rfl (by first | omega | (simp [rqCells, Sl.v, opC, wkC, ivC, ltC, wtC]; done) | (simp [rqCells, Sl.v, opC, wkC, ivC, ltC, wtC]; omega) | (simp [rqCells, Sl.v, opC, wkC, ivC, ltC, wtC] at *; omega)))) ?_
              refine GH_take 19 rfl rfl rfl rfl (by kernel_rfl) (by kernel_rfl) (by kernel_rfl) (fun _ _ => (V_sadd rfl rfl rfl (by first | omega | (simp [rqCells, Sl.v, opC, wkC, ivC, ltC, wtC]; done) | (simp [rqCells, Sl.v, opC, wkC, ivC, ltC, wtC]; omega) | (simp [rqCells, Sl.v, opC, wkC, ivC, ltC, wtC] at *; omega)))) ?_
              refine GH_all [26] (by kernel_rfl) (by decide) ?_
              refine (And.intro ?_ trivial)
              · skip
                refine GHop_call (L2 := [_]) rfl rfl rfl rfl rfl rfl Tryd.call44 (rt_int x9.a.2.2 hk9.a2.1 hk9.a2.2) [] [] rfl rfl [0] (by rintro v post ⟨rfl, rfl⟩; exact ⟨_, rfl⟩) ?_
                rintro v post ⟨rfl, rfl⟩
                show GH _ _ _ _ _ _ _ [_] _
                refine GH_take 27 rfl rfl rfl rfl (by kernel_rfl) (by kernel_rfl) (by kernel_rfl) (fun _ _ => (V_sadd rfl rfl rfl (by first | omega | (simp [rqCells, Sl.v, opC, wkC, ivC, ltC, wtC]; done) | (simp [rqCells, Sl.v, opC, wkC, ivC, ltC, wtC]; omega) | (simp [rqCells, Sl.v, opC, wkC, ivC, ltC, wtC] at *; omega)))) ?_
                refine GH_take 28 rfl rfl rfl rfl (by kernel_rfl) (by kernel_rfl) (by kernel_rfl) (fun _ _ => (V_sadd rfl rfl rfl (by first | omega | (simp [rqCells, Sl.v, opC, wkC, ivC, ltC, wtC]; done) | (simp [rqCells, Sl.v, opC, wkC, ivC, ltC, wtC]; omega) | (simp [rqCells, Sl.v, opC, wkC, ivC, ltC, wtC] at *; omega)))) ?_
                refine GH_take 29 rfl rfl rfl rfl (by kernel_rfl) (by kernel_rfl) (by kernel_rfl) (fun _ _ => (V_assign rfl rfl)) ?_
                refine GH_done (by kernel_rfl) ?_
                refine G_inBlock ?_
                rw [wk_step hx9]
                refine G_region (l := [0, 1, 2]) rfl ?_
                refine G_val rfl rfl rfl rfl (V_move rfl rfl) ?_
                first
                  | refine G_val rfl rfl rfl rfl ((V_add rfl rfl rfl).int (wrap_i64 (by omega))) ?_
                  | refine G_val rfl rfl rfl rfl (V_add rfl rfl rfl) ?_
                refine G_val rfl rfl rfl rfl (V_assign rfl rfl) ?_
                refine G_done ?_
                refine G_sub ?_ [0] ?_ (ih9 (i9 + 1) ?_ ?_)
                · (refine (And.intro ?_ (And.intro ?_ (And.intro ?_ trivial))) <;> first | rfl | exact slot_int (by omega) | exact slot_int (by simp))
                · exact ⟨_, rfl⟩
                · omega
                · (first | omega | (dsimp only; omega))
        refine G_exit rfl ?_
        refine G_seq ?_
        refine G_seq ?_
        rw [List.take_of_length_le (show l9.length ≤ i9 by omega)]
        rw [show stT3 tk dr l7 l8 ++ linesT wkParts l9 = stT4 tk dr l7 l8 l9 from rfl]
        have hl4 : (stT4 tk dr l7 l8 l9).length ≤ (stT3 tk dr l7 l8).length + 5000007 * l9.length := by
          have := linesT_len (f := wkParts) (l := l9) (fun y hy => ⟨wk_sum (h9 y hy), by simp [wkParts]⟩)
          unfold stT4; rw [List.length_append]; omega
        refine G_region (l := [0]) rfl ?_
        refine G_val rfl rfl rfl rfl (V_assign rfl rfl) ?_
        refine G_done ?_
        refine G_block ?_
        refine G_sub ?he10 [0] ?hl10 (G_loop (X := Nat) (fun i10 => i10 ≤ l10.length) (fun i10 => l10.length - i10) (fun i10 => [(1, .pointer (some ⟨b1, 0, none⟩)), (3, .string (bs (stT4 tk dr l7 l8 l9 ++ linesT ivParts (l10.take i10)))), (5, .int .i64 (i10 : Int))]) (fun i10 => [(some b1, .cells #[.int .u64 (tk : Int), .bool dr, .int .i64 n2, .int .i64 n3, .int .i64 n4, .int .i64 n5, .int .i64 n6, sv o7 p7 l7.length q7, sv o8 p8 l8.length q8, sv o9 p9 l9.length q9, sv o10 p10 l10.length q10, .slice x11 n11 q11, .slice x12 n12 q12, sv o13 p13 l13.length q13, sv o14 p14 l14.length q14] 41 (0, 0))]) ?round10 0 ?h010)
        case he10 => (refine (And.intro rfl (And.intro (slot_str (by simp [linesT])) (And.intro rfl trivial))))
        case hl10 => exact ⟨_, rfl⟩
        case h010 => exact Nat.zero_le _
        case round10 =>
         intro i10 hJ ih10
         try dsimp only at hJ ih10
         refine G_seq ?_
         refine G_seq ?_
         refine G_region (l := [0, 1, 2, 3, 4]) rfl ?_
         refine G_val rfl rfl rfl rfl (V_move rfl rfl) ?_
         refine G_val rfl rfl rfl rfl (V_fieldAddr (fo := 10) rfl Tryd.underlying41 rfl infTellSs_35 rfl rfl rfl) ?_
         refine G_val rfl rfl rfl rfl (V_load1 rfl rfl (mem_at 6 rfl) rfl Tryd.underlying35 rfl) ?_
         refine G_val rfl rfl rfl rfl (V_len rfl rfl Tryd.underlying35 rfl) ?_
         refine G_val rfl rfl rfl rfl (V_lss rfl rfl rfl) ?_
         refine G_done ?_
         refine G_ifD rfl (fun hc3 => ?_) (fun hc3 => ?_)
         · skip
           refine G_skip ?_
           refine G_seq ?_
           refine G_block ?_
           obtain ⟨x10, hx10⟩ := getI (show i10 < l10.length by omega)
           obtain ⟨bo10, rfl⟩ := s10.isSome (by omega)
           have hk10 := h10 x10 (List.mem_of_getElem? hx10)
           have hz10 : (linesT ivParts (l10.take i10)).length ≤ 5000007 * (l10.take i10).length := linesT_len (fun y hy => ⟨iv_sum (h10 y (List.mem_of_mem_take hy)), by simp [ivParts]⟩)
           have ht10 : (l10.take i10).length ≤ i10 := by simp; omega
           have hq100 := itoa_len hk10.a1.1 hk10.a1.2
           have hq101 := itoa_len hk10.b1.1 hk10.b1.2
           have hq102 := quoteT_len x10.s
           have hq103 := hk10.s1
           refine GH_start (Lq := [_]) (isq := [0]) (m := 30) mixedK rfl rfl ?_
           refine GH_take 0 rfl rfl rfl rfl (by kernel_rfl) (by kernel_rfl) (by kernel_rfl) (fun _ _ => (V_move rfl rfl)) ?_
           refine GH_take 1 rfl rfl rfl rfl (by kernel_rfl) (by kernel_rfl) (by kernel_rfl) (fun _ _ => (V_sadd rfl rfl rfl (by first | omega | (simp [rqCells, Sl.v, opC, wkC, ivC, ltC, wtC]; done) | (simp [rqCells, Sl.v, opC, wkC, ivC, ltC, wtC]; omega) | (simp [rqCells, Sl.v, opC, wkC, ivC, ltC, wtC] at *; omega)))) ?_
           refine GH_take 2 rfl rfl rfl rfl (by kernel_rfl) (by kernel_rfl) (by kernel_rfl) (fun _ _ => (V_fieldAddr (fo := 10) rfl Tryd.underlying41 rfl infTellSs_35 rfl rfl rfl)) ?_
           refine GH_take 3 rfl rfl rfl rfl (by kernel_rfl) (by kernel_rfl) (by kernel_rfl) (fun _ _ => (V_load1 rfl rfl (mem_at 6 rfl) rfl Tryd.underlying35 rfl)) ?_
           refine GH_take 4 rfl rfl rfl rfl (by kernel_rfl) (by kernel_rfl) (by kernel_rfl) (fun _ _ => (V_move rfl rfl)) ?_
           first
             | refine GH_take 5 rfl rfl rfl rfl (by kernel_rfl) (by kernel_rfl) (by kernel_rfl) (fun _ _ => (V_indexAddrN (s := 5) rfl Tryd.underlying35 infTellSs_82 rfl rfl rfl rfl (by omega))) ?_
             | refine GH_take 5 rfl rfl rfl rfl (by kernel_rfl) (by kernel_rfl) (by kernel_rfl) (fun _ _ => (V_indexAddr (s := 5) rfl Tryd.underlying35 infTellSs_82 rfl rfl rfl (by omega) (by first | omega | (simp [rqCells, Sl.v, opC, wkC, ivC, ltC, wtC]; done) | (simp [rqCells, Sl.v, opC, wkC, ivC, ltC, wtC]; omega) | (simp [rqCells, Sl.v, opC, wkC, ivC, ltC, wtC] at *; omega)))) ?_
           refine GH_take 6 rfl rfl rfl rfl (by kernel_rfl) (by kernel_rfl) (by kernel_rfl) (fun _ _ => (V_fieldAddr (fo := _ + 1) rfl Tryd.underlying82 rfl infTellSs_3 rfl rfl rfl)) ?_
           refine GH_take 7 rfl rfl rfl rfl (by kernel_rfl) (by kernel_rfl) (by kernel_rfl) (fun _ _ => (V_load1 rfl rfl (mem_at 3 rfl) (nth_of (cell_at s10 iv_len hx10 1 (by omega) rfl)) Tryd.underlying3 rfl)) ?_
           refine GH_take 11 rfl rfl rfl rfl (by kernel_rfl) (by kernel_rfl) (by kernel_rfl) (fun _ _ => (V_fieldAddr (fo := 10) rfl Tryd.underlying41 rfl infTellSs_35 rfl rfl rfl)) ?_
           refine GH_take 12 rfl rfl rfl rfl (by kernel_rfl) (by kernel_rfl) (by kernel_rfl) (fun _ _ => (V_load1 rfl rfl (mem_at 6 rfl) rfl Tryd.underlying35 rfl)) ?_
           refine GH_take 13 rfl rfl rfl rfl (by kernel_rfl) (by kernel_rfl) (by kernel_rfl) (fun _ _ => (V_move rfl rfl)) ?_
           first
             | refine GH_take 14 rfl rfl rfl rfl (by kernel_rfl) (by kernel_rfl) (by kernel_rfl) (fun _ _ => (V_indexAddrN (s := 5) rfl Tryd.underlying35 infTellSs_82 rfl rfl rfl rfl (by omega))) ?_
             | refine GH_take 14 rfl rfl rfl rfl (by kernel_rfl) (by kernel_rfl) (by kernel_rfl) (fun _ _ => (V_indexAddr (s := 5) rfl Tryd.underlying35 infTellSs_82 rfl rfl rfl (by omega) (by first | omega | (simp [rqCells, Sl.v, opC, wkC, ivC, ltC, wtC]; done) | (simp [rqCells, Sl.v, opC, wkC, ivC, ltC, wtC]; omega) | (simp [rqCells, Sl.v, opC, wkC, ivC, ltC, wtC] at *; omega)))) ?_
           refine GH_take 15 rfl rfl rfl rfl (by kernel_rfl) (by kernel_rfl) (by kernel_rfl) (fun _ _ => (V_fieldAddr (fo := _ + 2) rfl Tryd.underlying82 rfl infTellSs_9 rfl rfl rfl)) ?_
           refine GH_take 16 rfl rfl rfl rfl (by kernel_rfl) (by kernel_rfl) (by kernel_rfl) (fun _ _ => (V_load1 rfl rfl (mem_at 3 rfl) (nth_of (cell_at s10 iv_len hx10 2 (by omega) rfl)) Tryd.underlying9 rfl)) ?_
           refine GH_take 20 rfl rfl rfl rfl (by kernel_rfl) (by kernel_rfl) (by kernel_rfl) (fun _ _ => (V_fieldAddr (fo := 10) rfl Tryd.underlying41 rfl infTellSs_35 rfl rfl rfl)) ?_
           refine GH_take 21 rfl rfl rfl rfl (by kernel_rfl) (by kernel_rfl) (by kernel_rfl) (fun _ _ => (V_load1 rfl rfl (mem_at 6 rfl) rfl Tryd.underlying35 rfl)) ?_
           refine GH_take 22 rfl rfl rfl rfl (by kernel_rfl) (by kernel_rfl) (by kernel_rfl) (fun _ _ => (V_move rfl rfl)) ?_
           first
             | refine GH_take 23 rfl rfl rfl rfl (by kernel_rfl) (by kernel_rfl) (by kernel_rfl) (fun _ _ => (V_indexAddrN (s := 5) rfl Tryd.underlying35 infTellSs_82 rfl rfl rfl rfl (by omega))) ?_
             | refine GH_take 23 rfl rfl rfl rfl (by kernel_rfl) (by kernel_rfl) (by kernel_rfl) (fun _ _ => (V_indexAddr (s := 5) rfl Tryd.underlying35 infTellSs_82 rfl rfl rfl (by omega) (by first | omega | (simp [rqCells, Sl.v, opC, wkC, ivC, ltC, wtC]; done) | (simp [rqCells, Sl.v, opC, wkC, ivC, ltC, wtC]; omega) | (simp [rqCells, Sl.v, opC, wkC, ivC, ltC, wtC] at *; omega)))) ?_
           refine GH_take 24 rfl rfl rfl rfl (by kernel_rfl) (by kernel_rfl) (by kernel_rfl) (fun _ _ => (V_fieldAddr (fo := _ + 4) rfl Tryd.underlying82 rfl infTellSs_3 rfl rfl rfl)) ?_
           refine GH_take 25 rfl rfl rfl rfl (by kernel_rfl) (by kernel_rfl) (by kernel_rfl) (fun _ _ => (V_load1 rfl rfl (mem_at 3 rfl) (nth_of (cell_at s10 iv_len hx10 4 (by omega) rfl)) Tryd.underlying3 rfl)) ?_
           refine GH_all [8] (by kernel_rfl) (by decide) ?_
           refine (And.intro ?_ trivial)
           · skip
             refine GHop_call (L2 := [_]) rfl rfl rfl rfl rfl rfl Tryd.call44 (rt_int x10.a.2 hk10.a1.1 hk10.a1.2) [] [] rfl rfl [0] (by rintro v post ⟨rfl, rfl⟩; exact ⟨_, rfl⟩) ?_
             rintro v post ⟨rfl, rfl⟩
             show GH _ _ _ _ _ _ _ [_] _
             refine GH_take 9 rfl rfl rfl rfl (by kernel_rfl) (by kernel_rfl) (by kernel_rfl) (fun _ _ => (V_sadd rfl rfl rfl (by first | omega | (simp [rqCells, Sl.v, opC, wkC, ivC, ltC, wtC]; done) | (simp [rqCells, Sl.v, opC, wkC, ivC, ltC, wtC]; omega) | (simp [rqCells, Sl.v, opC, wkC, ivC, ltC, wtC] at *; omega)))) ?_
             refine GH_take 10 rfl rfl rfl rfl (by kernel_rfl) (by kernel_rfl) (by kernel_rfl) (fun _ _ => (V_sadd rfl rfl rfl (by first | omega | (simp [rqCells, Sl.v, opC, wkC, ivC, ltC, wtC]; done) | (simp [rqCells, Sl.v, opC, wkC, ivC, ltC, wtC]; omega) | (simp [rqCells, Sl.v, opC, wkC, ivC, ltC, wtC] at *; omega)))) ?_
             refine GH_all [17] (by kernel_rfl) (by decide) ?_
             refine (And.intro ?_ trivial)
             · skip
               refine GHop_call (L2 := [_]) rfl rfl rfl rfl rfl rfl Tryd.call10 (rtl_quote x10.s (by have := hk10.s1; omega)) [] [] rfl rfl [0] (by rintro v post ⟨rfl, rfl⟩; exact ⟨_, rfl⟩) ?_
               rintro v post ⟨rfl, rfl⟩
               show GH _ _ _ _ _ _ _ [_] _
               refine GH_take 18 rfl rfl rfl rfl (by kernel_rfl) (by kernel_rfl) (by kernel_rfl) (fun _ _ => (V_sadd rfl rfl rfl (by first | omega | (simp [rqCells, Sl.v, opC, wkC, ivC, ltC, wtC]; done) | (simp [rqCells, Sl.v, opC, wkC, ivC, ltC, wtC]; omega) | (simp [rqCells, Sl.v, opC, wkC, ivC, ltC, wtC] at *; omega)))) ?_
               refine GH_take 19 rfl rfl rfl rfl (by kernel_rfl) (by kernel_rfl) (by kernel_rfl) (fun _ _ => (V_sadd rfl rfl rfl (by first | omega | (simp [rqCells, Sl.v, opC, wkC, ivC, ltC, wtC]; done) | (simp [rqCells, Sl.v, opC, wkC, ivC, ltC, wtC]; omega) | (simp [rqCells, Sl.v, opC, wkC, ivC, ltC, wtC] at *; omega)))) ?_
               refine GH_all [26] (by kernel_rfl) (by decide) ?_
               refine (And.intro ?_ trivial)
               · skip
                 refine GHop_call (L2 := [_]) rfl rfl rfl rfl rfl rfl Tryd.call44 (rt_int x10.b.2 hk10.b1.1 hk10.b1.2) [] [] rfl rfl [0] (by rintro v post ⟨rfl, rfl⟩; exact ⟨_, rfl⟩) ?_
                 rintro v post ⟨rfl, rfl⟩
                 show GH _ _ _ _ _ _ _ [_] _
                 refine GH_take 27 rfl rfl rfl rfl (by kernel_rfl) (by kernel_rfl) (by kernel_rfl) (fun _ _ => (V_sadd rfl rfl rfl (by first | omega | (simp [rqCells, Sl.v, opC, wkC, ivC, ltC, wtC]; done) | (simp [rqCells, Sl.v, opC, wkC, ivC, ltC, wtC]; omega) | (simp [rqCells, Sl.v, opC, wkC, ivC, ltC, wtC] at *; omega)))) ?_
                 refine GH_take 28 rfl rfl rfl rfl (by kernel_rfl) (by kernel_rfl) (by kernel_rfl) (fun _ _ => (V_sadd rfl rfl rfl (by first | omega | (simp [rqCells, Sl.v, opC, wkC, ivC, ltC, wtC]; done) | (simp [rqCells, Sl.v, opC, wkC, ivC, ltC, wtC]; omega) | (simp [rqCells, Sl.v, opC, wkC, ivC, ltC, wtC] at *; omega)))) ?_
                 refine GH_take 29 rfl rfl rfl rfl (by kernel_rfl) (by kernel_rfl) (by kernel_rfl) (fun _ _ => (V_assign rfl rfl)) ?_
                 refine GH_done (by kernel_rfl) ?_
                 refine G_inBlock ?_
                 rw [iv_step hx10]
                 refine G_region (l := [0, 1, 2]) rfl ?_
                 refine G_val rfl rfl rfl rfl (V_move rfl rfl) ?_
                 first
                   | refine G_val rfl rfl rfl rfl ((V_add rfl rfl rfl).int (wrap_i64 (by omega))) ?_
                   | refine G_val rfl rfl rfl rfl (V_add rfl rfl rfl) ?_
                 refine G_val rfl rfl rfl rfl (V_assign rfl rfl) ?_
                 refine G_done ?_
                 refine G_sub ?_ [0] ?_ (ih10 (i10 + 1) ?_ ?_)
                 · (refine (And.intro ?_ (And.intro ?_ (And.intro ?_ trivial))) <;> first | rfl | exact slot_int (by omega) | exact slot_int (by simp))
                 · exact ⟨_, rfl⟩
                 · omega
                 · (first | omega | (dsimp only; omega))
         refine G_exit rfl ?_
         refine G_seq ?_
         refine G_seq ?_
         rw [List.take_of_length_le (show l10.length ≤ i10 by omega)]
         rw [show stT4 tk dr l7 l8 l9 ++ linesT ivParts l10 = stT5 tk dr l7 l8 l9 l10 from rfl]
         have hl5 : (stT5 tk dr l7 l8 l9 l10).length ≤ (stT4 tk dr l7 l8 l9).length + 5000007 * l10.length := by
           have := linesT_len (f := ivParts) (l := l10) (fun y hy => ⟨iv_sum (h10 y hy), by simp [ivParts]⟩)
           unfold stT5; rw [List.length_append]; omega
         refine G_region (l := [0]) rfl ?_
         refine G_val rfl rfl rfl rfl (V_assign rfl rfl) ?_
         refine G_done ?_
         refine G_block ?_
         refine G_sub ?he14 [0] ?hl14 (G_loop (X := Nat) (fun i13 => i13 ≤ l13.length) (fun i13 => l13.length - i13) (fun i13 => [(1, .pointer (some ⟨b1, 0, none⟩)), (3, .string (bs (stT5 tk dr l7 l8 l9 l10 ++ linesT ltParts (l13.take i13)))), (6, .int .i64 (i13 : Int))]) (fun i13 => [(some b1, .cells #[.int .u64 (tk : Int), .bool dr, .int .i64 n2, .int .i64 n3, .int .i64 n4, .int .i64 n5, .int .i64 n6, sv o7 p7 l7.length q7, sv o8 p8 l8.length q8, sv o9 p9 l9.length q9, sv o10 p10 l10.length q10, .slice x11 n11 q11, .slice x12 n12 q12, sv o13 p13 l13.length q13, sv o14 p14 l14.length q14] 41 (0, 0))]) ?round14 0 ?h014)
         case he14 => (refine (And.intro rfl (And.intro (slot_str (by simp [linesT])) (And.intro rfl trivial))))
         case hl14 => exact ⟨_, rfl⟩
         case h014 => exact Nat.zero_le _
         case round14 =>
          intro i13 hJ ih13
          try dsimp only at hJ ih13
          refine G_seq ?_
          refine G_seq ?_
          refine G_region (l := [0, 1, 2, 3, 4]) rfl ?_
          refine G_val rfl rfl rfl rfl (V_move rfl rfl) ?_
          refine G_val rfl rfl rfl rfl (V_fieldAddr (fo := 13) rfl Tryd.underlying41 rfl infTellSs_38 rfl rfl rfl) ?_
          refine G_val rfl rfl rfl rfl (V_load1 rfl rfl (mem_at 6 rfl) rfl Tryd.underlying38 rfl) ?_
          refine G_val rfl rfl rfl rfl (V_len rfl rfl Tryd.underlying38 rfl) ?_
          refine G_val rfl rfl rfl rfl (V_lss rfl rfl rfl) ?_
          refine G_done ?_
          refine G_ifD rfl (fun hc4 => ?_) (fun hc4 => ?_)
          · skip
            refine G_skip ?_
            refine G_seq ?_
            refine G_block ?_
            obtain ⟨x13, hx13⟩ := getI (show i13 < l13.length by omega)
            obtain ⟨bo13, rfl⟩ := s13.isSome (by omega)
            have hk13 := h13 x13 (List.mem_of_getElem? hx13)
            have hz13 : (linesT ltParts (l13.take i13)).length ≤ 5000007 * (l13.take i13).length := linesT_len (fun y hy => ⟨lt_sum (h13 y (List.mem_of_mem_take hy)), by simp [ltParts]⟩)
            have ht13 : (l13.take i13).length ≤ i13 := by simp; omega
            have hq130 := itoa_len hk13.a1.1 hk13.a1.2
            have hq131 := itoa_len hk13.a2.1 hk13.a2.2
            refine GH_start (Lq := [_]) (isq := [0]) (m := 21) mixedK rfl rfl ?_
            refine GH_take 0 rfl rfl rfl rfl (by kernel_rfl) (by kernel_rfl) (by kernel_rfl) (fun _ _ => (V_move rfl rfl)) ?_
            refine GH_take 1 rfl rfl rfl rfl (by kernel_rfl) (by kernel_rfl) (by kernel_rfl) (fun _ _ => (V_sadd rfl rfl rfl (by first | omega | (simp [rqCells, Sl.v, opC, wkC, ivC, ltC, wtC]; done) | (simp [rqCells, Sl.v, opC, wkC, ivC, ltC, wtC]; omega) | (simp [rqCells, Sl.v, opC, wkC, ivC, ltC, wtC] at *; omega)))) ?_
            refine GH_take 2 rfl rfl rfl rfl (by kernel_rfl) (by kernel_rfl) (by kernel_rfl) (fun _ _ => (V_fieldAddr (fo := 13) rfl Tryd.underlying41 rfl infTellSs_38 rfl rfl rfl)) ?_
            refine GH_take 3 rfl rfl rfl rfl (by kernel_rfl) (by kernel_rfl) (by kernel_rfl) (fun _ _ => (V_load1 rfl rfl (mem_at 6 rfl) rfl Tryd.underlying38 rfl)) ?_
            refine GH_take 4 rfl rfl rfl rfl (by kernel_rfl) (by kernel_rfl) (by kernel_rfl) (fun _ _ => (V_move rfl rfl)) ?_
            first
              | refine GH_take 5 rfl rfl rfl rfl (by kernel_rfl) (by kernel_rfl) (by kernel_rfl) (fun _ _ => (V_indexAddrN (s := 6) rfl Tryd.underlying38 infTellSs_93 rfl rfl rfl rfl (by omega))) ?_
              | refine GH_take 5 rfl rfl rfl rfl (by kernel_rfl) (by kernel_rfl) (by kernel_rfl) (fun _ _ => (V_indexAddr (s := 6) rfl Tryd.underlying38 infTellSs_93 rfl rfl rfl (by omega) (by first | omega | (simp [rqCells, Sl.v, opC, wkC, ivC, ltC, wtC]; done) | (simp [rqCells, Sl.v, opC, wkC, ivC, ltC, wtC]; omega) | (simp [rqCells, Sl.v, opC, wkC, ivC, ltC, wtC] at *; omega)))) ?_
            refine GH_take 6 rfl rfl rfl rfl (by kernel_rfl) (by kernel_rfl) (by kernel_rfl) (fun _ _ => (V_fieldAddr (fo := _) rfl Tryd.underlying93 rfl infTellSs_3 rfl rfl rfl)) ?_
            refine GH_take 7 rfl rfl rfl rfl (by kernel_rfl) (by kernel_rfl) (by kernel_rfl) (fun _ _ => (V_load1 rfl rfl (mem_at 4 rfl) (nth_of (cell_at s13 lt_len hx13 0 (by omega) rfl)) Tryd.underlying3 rfl)) ?_
            refine GH_take 11 rfl rfl rfl rfl (by kernel_rfl) (by kernel_rfl) (by kernel_rfl) (fun _ _ => (V_fieldAddr (fo := 13) rfl Tryd.underlying41 rfl infTellSs_38 rfl rfl rfl)) ?_
            refine GH_take 12 rfl rfl rfl rfl (by kernel_rfl) (by kernel_rfl) (by kernel_rfl) (fun _ _ => (V_load1 rfl rfl (mem_at 6 rfl) rfl Tryd.underlying38 rfl)) ?_
            refine GH_take 13 rfl rfl rfl rfl (by kernel_rfl) (by kernel_rfl) (by kernel_rfl) (fun _ _ => (V_move rfl rfl)) ?_
            first
              | refine GH_take 14 rfl rfl rfl rfl (by kernel_rfl) (by kernel_rfl) (by kernel_rfl) (fun _ _ => (V_indexAddrN (s := 6) rfl Tryd.underlying38 infTellSs_93 rfl rfl rfl rfl (by omega))) ?_
              | refine GH_take 14 rfl rfl rfl rfl (by kernel_rfl) (by kernel_rfl) (by kernel_rfl) (fun _ _ => (V_indexAddr (s := 6) rfl Tryd.underlying38 infTellSs_93 rfl rfl rfl (by omega) (by first | omega | (simp [rqCells, Sl.v, opC, wkC, ivC, ltC, wtC]; done) | (simp [rqCells, Sl.v, opC, wkC, ivC, ltC, wtC]; omega) | (simp [rqCells, Sl.v, opC, wkC, ivC, ltC, wtC] at *; omega)))) ?_
            refine GH_take 15 rfl rfl rfl rfl (by kernel_rfl) (by kernel_rfl) (by kernel_rfl) (fun _ _ => (V_fieldAddr (fo := _ + 3) rfl Tryd.underlying93 rfl infTellSs_3 rfl rfl rfl)) ?_
            refine GH_take 16 rfl rfl rfl rfl (by kernel_rfl) (by kernel_rfl) (by kernel_rfl) (fun _ _ => (V_load1 rfl rfl (mem_at 4 rfl) (nth_of (cell_at s13 lt_len hx13 3 (by omega) rfl)) Tryd.underlying3 rfl)) ?_
            refine GH_all [8] (by kernel_rfl) (by decide) ?_
            refine (And.intro ?_ trivial)
            · skip
              refine GHop_call (L2 := [_]) rfl rfl rfl rfl rfl rfl Tryd.call44 (rt_int x13.a.1 hk13.a1.1 hk13.a1.2) [] [] rfl rfl [0] (by rintro v post ⟨rfl, rfl⟩; exact ⟨_, rfl⟩) ?_
              rintro v post ⟨rfl, rfl⟩
              show GH _ _ _ _ _ _ _ [_] _
              refine GH_take 9 rfl rfl rfl rfl (by kernel_rfl) (by kernel_rfl) (by kernel_rfl) (fun _ _ => (V_sadd rfl rfl rfl (by first | omega | (simp [rqCells, Sl.v, opC, wkC, ivC, ltC, wtC]; done) | (simp [rqCells, Sl.v, opC, wkC, ivC, ltC, wtC]; omega) | (simp [rqCells, Sl.v, opC, wkC, ivC, ltC, wtC] at *; omega)))) ?_
              refine GH_take 10 rfl rfl rfl rfl (by kernel_rfl) (by kernel_rfl) (by kernel_rfl) (fun _ _ => (V_sadd rfl rfl rfl (by first | omega | (simp [rqCells, Sl.v, opC, wkC, ivC, ltC, wtC]; done) | (simp [rqCells, Sl.v, opC, wkC, ivC, ltC, wtC]; omega) | (simp [rqCells, Sl.v, opC, wkC, ivC, ltC, wtC] at *; omega)))) ?_
              refine GH_all [17] (by kernel_rfl) (by decide) ?_
              refine (And.intro ?_ trivial)
              · skip
                refine GHop_call (L2 := [_]) rfl rfl rfl rfl rfl rfl Tryd.call44 (rt_int x13.a.2.2.2 hk13.a2.1 hk13.a2.2) [] [] rfl rfl [0] (by rintro v post ⟨rfl, rfl⟩; exact ⟨_, rfl⟩) ?_
                rintro v post ⟨rfl, rfl⟩
                show GH _ _ _ _ _ _ _ [_] _
                refine GH_take 18 rfl rfl rfl rfl (by kernel_rfl) (by kernel_rfl) (by kernel_rfl) (fun _ _ => (V_sadd rfl rfl rfl (by first | omega | (simp [rqCells, Sl.v, opC, wkC, ivC, ltC, wtC]; done) | (simp [rqCells, Sl.v, opC, wkC, ivC, ltC, wtC]; omega) | (simp [rqCells, Sl.v, opC, wkC, ivC, ltC, wtC] at *; omega)))) ?_
                refine GH_take 19 rfl rfl rfl rfl (by kernel_rfl) (by kernel_rfl) (by kernel_rfl) (fun _ _ => (V_sadd rfl rfl rfl (by first | omega | (simp [rqCells, Sl.v, opC, wkC, ivC, ltC, wtC]; done) | (simp [rqCells, Sl.v, opC, wkC, ivC, ltC, wtC]; omega) | (simp [rqCells, Sl.v, opC, wkC, ivC, ltC, wtC] at *; omega)))) ?_
                refine GH_take 20 rfl rfl rfl rfl (by kernel_rfl) (by kernel_rfl) (by kernel_rfl) (fun _ _ => (V_assign rfl rfl)) ?_
                refine GH_done (by kernel_rfl) ?_
                refine G_inBlock ?_
                rw [lt_step hx13]
                refine G_region (l := [0, 1, 2]) rfl ?_
                refine G_val rfl rfl rfl rfl (V_move rfl rfl) ?_
                first
                  | refine G_val rfl rfl rfl rfl ((V_add rfl rfl rfl).int (wrap_i64 (by omega))) ?_
                  | refine G_val rfl rfl rfl rfl (V_add rfl rfl rfl) ?_
                refine G_val rfl rfl rfl rfl (V_assign rfl rfl) ?_
                refine G_done ?_
                refine G_sub ?_ [0] ?_ (ih13 (i13 + 1) ?_ ?_)
                · (refine (And.intro ?_ (And.intro ?_ (And.intro ?_ trivial))) <;> first | rfl | exact slot_int (by omega) | exact slot_int (by simp))
                · exact ⟨_, rfl⟩
                · omega
                · (first | omega | (dsimp only; omega))
          refine G_exit rfl ?_
          refine G_seq ?_
          refine G_seq ?_
          rw [List.take_of_length_le (show l13.length ≤ i13 by omega)]
          rw [show stT5 tk dr l7 l8 l9 l10 ++ linesT ltParts l13 = stT6 tk dr l7 l8 l9 l10 l13 from rfl]
          have hl6 : (stT6 tk dr l7 l8 l9 l10 l13).length ≤ (stT5 tk dr l7 l8 l9 l10).length + 5000007 * l13.length := by
            have := linesT_len (f := ltParts) (l := l13) (fun y hy => ⟨lt_sum (h13 y hy), by simp [ltParts]⟩)
            unfold stT6; rw [List.length_append]; omega
          refine G_region (l := [0]) rfl ?_
          refine G_val rfl rfl rfl rfl (V_assign rfl rfl) ?_
          refine G_done ?_
          refine G_block ?_
          refine G_sub ?he18 [0] ?hl18 (G_loop (X := Nat) (fun i14 => i14 ≤ l14.length) (fun i14 => l14.length - i14) (fun i14 => [(1, .pointer (some ⟨b1, 0, none⟩)), (3, .string (bs (stT6 tk dr l7 l8 l9 l10 l13 ++ linesT wtParts (l14.take i14)))), (7, .int .i64 (i14 : Int))]) (fun i14 => [(some b1, .cells #[.int .u64 (tk : Int), .bool dr, .int .i64 n2, .int .i64 n3, .int .i64 n4, .int .i64 n5, .int .i64 n6, sv o7 p7 l7.length q7, sv o8 p8 l8.length q8, sv o9 p9 l9.length q9, sv o10 p10 l10.length q10, .slice x11 n11 q11, .slice x12 n12 q12, sv o13 p13 l13.length q13, sv o14 p14 l14.length q14] 41 (0, 0))]) ?round18 0 ?h018)
          case he18 => (refine (And.intro rfl (And.intro (slot_str (by simp [linesT])) (And.intro rfl trivial))))
          case hl18 => exact ⟨_, rfl⟩
          case h018 => exact Nat.zero_le _
          case round18 =>
           intro i14 hJ ih14
           try dsimp only at hJ ih14
           refine G_seq ?_
           refine G_seq ?_
           refine G_region (l := [0, 1, 2, 3, 4]) rfl ?_
           refine G_val rfl rfl rfl rfl (V_move rfl rfl) ?_
           refine G_val rfl rfl rfl rfl (V_fieldAddr (fo := 14) rfl Tryd.underlying41 rfl infTellSs_39 rfl rfl rfl) ?_
           refine G_val rfl rfl rfl rfl (V_load1 rfl rfl (mem_at 6 rfl) rfl Tryd.underlying39 rfl) ?_
           refine G_val rfl rfl rfl rfl (V_len rfl rfl Tryd.underlying39 rfl) ?_
           refine G_val rfl rfl rfl rfl (V_lss rfl rfl rfl) ?_
           refine G_done ?_
           refine G_ifD rfl (fun hc5 => ?_) (fun hc5 => ?_)
           · skip
             refine G_skip ?_
             refine G_seq ?_
             refine G_block ?_
             obtain ⟨x14, hx14⟩ := getI (show i14 < l14.length by omega)
             obtain ⟨bo14, rfl⟩ := s14.isSome (by omega)
             have hk14 := h14 x14 (List.mem_of_getElem? hx14)
             have hz14 : (linesT wtParts (l14.take i14)).length ≤ 5000007 * (l14.take i14).length := linesT_len (fun y hy => ⟨wt_sum (h14 y (List.mem_of_mem_take hy)), by simp [wtParts]⟩)
             have ht14 : (l14.take i14).length ≤ i14 := by simp; omega
             have hq140 := itoa_len hk14.n1.1 hk14.n1.2
             have hq141 := quoteT_len x14.s
             have hq142 := hk14.s1
             refine GH_start (Lq := [_]) (isq := [0]) (m := 21) mixedK rfl rfl ?_
             refine GH_take 0 rfl rfl rfl rfl (by kernel_rfl) (by kernel_rfl) (by kernel_rfl) (fun _ _ => (V_move rfl rfl)) ?_
             refine GH_take 1 rfl rfl rfl rfl (by kernel_rfl) (by kernel_rfl) (by kernel_rfl) (fun _ _ => (V_sadd rfl rfl rfl (by first | omega | (simp [rqCells, Sl.v, opC, wkC, ivC, ltC, wtC]; done) | (simp [rqCells, Sl.v, opC, wkC, ivC, ltC, wtC]; omega) | (simp [rqCells, Sl.v, opC, wkC, ivC, ltC, wtC] at *; omega)))) ?_
             refine GH_take 2 rfl rfl rfl rfl (by kernel_rfl) (by kernel_rfl) (by kernel_rfl) (fun _ _ => (V_fieldAddr (fo := 14) rfl Tryd.underlying41 rfl infTellSs_39 rfl rfl rfl)) ?_
             refine GH_take 3 rfl rfl rfl rfl (by kernel_rfl) (by kernel_rfl) (by kernel_rfl) (fun _ _ => (V_load1 rfl rfl (mem_at 6 rfl) rfl Tryd.underlying39 rfl)) ?_
             refine GH_take 4 rfl rfl rfl rfl (by kernel_rfl) (by kernel_rfl) (by kernel_rfl) (fun _ _ => (V_move rfl rfl)) ?_
             first
               | refine GH_take 5 rfl rfl rfl rfl (by kernel_rfl) (by kernel_rfl) (by kernel_rfl) (fun _ _ => (V_indexAddrN (s := 2) rfl Tryd.underlying39 infTellSs_95 rfl rfl rfl rfl (by omega))) ?_
               | refine GH_take 5 rfl rfl rfl rfl (by kernel_rfl) (by kernel_rfl) (by kernel_rfl) (fun _ _ => (V_indexAddr (s := 2) rfl Tryd.underlying39 infTellSs_95 rfl rfl rfl (by omega) (by first | omega | (simp [rqCells, Sl.v, opC, wkC, ivC, ltC, wtC]; done) | (simp [rqCells, Sl.v, opC, wkC, ivC, ltC, wtC]; omega) | (simp [rqCells, Sl.v, opC, wkC, ivC, ltC, wtC] at *; omega)))) ?_
             refine GH_take 6 rfl rfl rfl rfl (by kernel_rfl) (by kernel_rfl) (by kernel_rfl) (fun _ _ => (V_fieldAddr (fo := _) rfl Tryd.underlying95 rfl infTellSs_9 rfl rfl rfl)) ?_
             refine GH_take 7 rfl rfl rfl rfl (by kernel_rfl) (by kernel_rfl) (by kernel_rfl) (fun _ _ => (V_load1 rfl rfl (mem_at 5 rfl) (nth_of (cell_at s14 wt_len hx14 0 (by omega) rfl)) Tryd.underlying9 rfl)) ?_
             refine GH_take 11 rfl rfl rfl rfl (by kernel_rfl) (by kernel_rfl) (by kernel_rfl) (fun _ _ => (V_fieldAddr (fo := 14) rfl Tryd.underlying41 rfl infTellSs_39 rfl rfl rfl)) ?_
             refine GH_take 12 rfl rfl rfl rfl (by kernel_rfl) (by kernel_rfl) (by kernel_rfl) (fun _ _ => (V_load1 rfl rfl (mem_at 6 rfl) rfl Tryd.underlying39 rfl)) ?_
             refine GH_take 13 rfl rfl rfl rfl (by kernel_rfl) (by kernel_rfl) (by kernel_rfl) (fun _ _ => (V_move rfl rfl)) ?_
             first
               | refine GH_take 14 rfl rfl rfl rfl (by kernel_rfl) (by kernel_rfl) (by kernel_rfl) (fun _ _ => (V_indexAddrN (s := 2) rfl Tryd.underlying39 infTellSs_95 rfl rfl rfl rfl (by omega))) ?_
               | refine GH_take 14 rfl rfl rfl rfl (by kernel_rfl) (by kernel_rfl) (by kernel_rfl) (fun _ _ => (V_indexAddr (s := 2) rfl Tryd.underlying39 infTellSs_95 rfl rfl rfl (by omega) (by first | omega | (simp [rqCells, Sl.v, opC, wkC, ivC, ltC, wtC]; done) | (simp [rqCells, Sl.v, opC, wkC, ivC, ltC, wtC]; omega) | (simp [rqCells, Sl.v, opC, wkC, ivC, ltC, wtC] at *; omega)))) ?_
             refine GH_take 15 rfl rfl rfl rfl (by kernel_rfl) (by kernel_rfl) (by kernel_rfl) (fun _ _ => (V_fieldAddr (fo := _ + 1) rfl Tryd.underlying95 rfl infTellSs_3 rfl rfl rfl)) ?_
             refine GH_take 16 rfl rfl rfl rfl (by kernel_rfl) (by kernel_rfl) (by kernel_rfl) (fun _ _ => (V_load1 rfl rfl (mem_at 5 rfl) (nth_of (cell_at s14 wt_len hx14 1 (by omega) rfl)) Tryd.underlying3 rfl)) ?_
             refine GH_all [8] (by kernel_rfl) (by decide) ?_
             refine (And.intro ?_ trivial)
             · skip
               refine GHop_call (L2 := [_]) rfl rfl rfl rfl rfl rfl Tryd.call10 (rtl_quote x14.s (by have := hk14.s1; omega)) [] [] rfl rfl [0] (by rintro v post ⟨rfl, rfl⟩; exact ⟨_, rfl⟩) ?_
               rintro v post ⟨rfl, rfl⟩
               show GH _ _ _ _ _ _ _ [_] _
               refine GH_take 9 rfl rfl rfl rfl (by kernel_rfl) (by kernel_rfl) (by kernel_rfl) (fun _ _ => (V_sadd rfl rfl rfl (by first | omega | (simp [rqCells, Sl.v, opC, wkC, ivC, ltC, wtC]; done) | (simp [rqCells, Sl.v, opC, wkC, ivC, ltC, wtC]; omega) | (simp [rqCells, Sl.v, opC, wkC, ivC, ltC, wtC] at *; omega)))) ?_
               refine GH_take 10 rfl rfl rfl rfl (by kernel_rfl) (by kernel_rfl) (by kernel_rfl) (fun _ _ => (V_sadd rfl rfl rfl (by first | omega | (simp [rqCells, Sl.v, opC, wkC, ivC, ltC, wtC]; done) | (simp [rqCells, Sl.v, opC, wkC, ivC, ltC, wtC]; omega) | (simp [rqCells, Sl.v, opC, wkC, ivC, ltC, wtC] at *; omega)))) ?_
               refine GH_all [17] (by kernel_rfl) (by decide) ?_
               refine (And.intro ?_ trivial)
               · skip
                 refine GHop_call (L2 := [_]) rfl rfl rfl rfl rfl rfl Tryd.call44 (rt_int x14.n hk14.n1.1 hk14.n1.2) [] [] rfl rfl [0] (by rintro v post ⟨rfl, rfl⟩; exact ⟨_, rfl⟩) ?_
                 rintro v post ⟨rfl, rfl⟩
                 show GH _ _ _ _ _ _ _ [_] _
                 refine GH_take 18 rfl rfl rfl rfl (by kernel_rfl) (by kernel_rfl) (by kernel_rfl) (fun _ _ => (V_sadd rfl rfl rfl (by first | omega | (simp [rqCells, Sl.v, opC, wkC, ivC, ltC, wtC]; done) | (simp [rqCells, Sl.v, opC, wkC, ivC, ltC, wtC]; omega) | (simp [rqCells, Sl.v, opC, wkC, ivC, ltC, wtC] at *; omega)))) ?_
                 refine GH_take 19 rfl rfl rfl rfl (by kernel_rfl) (by kernel_rfl) (by kernel_rfl) (fun _ _ => (V_sadd rfl rfl rfl (by first | omega | (simp [rqCells, Sl.v, opC, wkC, ivC, ltC, wtC]; done) | (simp [rqCells, Sl.v, opC, wkC, ivC, ltC, wtC]; omega) | (simp [rqCells, Sl.v, opC, wkC, ivC, ltC, wtC] at *; omega)))) ?_
                 refine GH_take 20 rfl rfl rfl rfl (by kernel_rfl) (by kernel_rfl) (by kernel_rfl) (fun _ _ => (V_assign rfl rfl)) ?_
                 refine GH_done (by kernel_rfl) ?_
                 refine G_inBlock ?_
                 rw [wt_step hx14]
                 refine G_region (l := [0, 1, 2]) rfl ?_
                 refine G_val rfl rfl rfl rfl (V_move rfl rfl) ?_
                 first
                   | refine G_val rfl rfl rfl rfl ((V_add rfl rfl rfl).int (wrap_i64 (by omega))) ?_
                   | refine G_val rfl rfl rfl rfl (V_add rfl rfl rfl) ?_
                 refine G_val rfl rfl rfl rfl (V_assign rfl rfl) ?_
                 refine G_done ?_
                 refine G_sub ?_ [0] ?_ (ih14 (i14 + 1) ?_ ?_)
                 · (refine (And.intro ?_ (And.intro ?_ (And.intro ?_ trivial))) <;> first | rfl | exact slot_int (by omega) | exact slot_int (by simp))
                 · exact ⟨_, rfl⟩
                 · omega
                 · (first | omega | (dsimp only; omega))
           refine G_exit rfl ?_
           refine G_seq ?_
           rw [List.take_of_length_le (show l14.length ≤ i14 by omega)]
           rw [show stT6 tk dr l7 l8 l9 l10 l13 ++ linesT wtParts l14 = stT7 tk dr l7 l8 l9 l10 l13 l14 from rfl]
           have hl7 : (stT7 tk dr l7 l8 l9 l10 l13 l14).length ≤ (stT6 tk dr l7 l8 l9 l10 l13).length + 5000007 * l14.length := by
             have := linesT_len (f := wtParts) (l := l14) (fun y hy => ⟨wt_sum (h14 y hy), by simp [wtParts]⟩)
             unfold stT7; rw [List.length_append]; omega
           refine G_region (l := [0, 1]) rfl ?_
           refine G_val rfl rfl rfl rfl (V_move rfl rfl) ?_
           refine G_val rfl rfl rfl rfl (V_assign rfl rfl) ?_
           refine G_done ?_
           refine G_ret (post := []) Tryd.func18 rfl (RVs_cons (RV_tmp rfl) RVs_nil) [] rfl ?_
           dsimp only [packed]
           exact ⟨rfl, rfl⟩
 · skip
   refine G_region (l := [0, 1]) rfl ?_
   refine G_val rfl rfl rfl rfl (V_fieldAddr (fo := 1) rfl Tryd.underlying41 rfl infTellSs_4 rfl rfl rfl) ?_
   refine G_val rfl rfl rfl rfl (V_load1 rfl rfl (mem_at 6 rfl) rfl Tryd.underlying4 rfl) ?_
   refine G_done ?_
   refine G_if rfl (fun hc1 => ?_) (fun hc1 => ?_)
   · (first | exact Bool.noConfusion (hdr.symm.trans hc1) | exact absurd hdr hc1 | exact absurd hc1 hdr | (exact absurd rfl hc1) | (exfalso; omega) | (exfalso; simp at hc1; done))
   refine G_skip ?_
   refine G_seq ?_
   first | rw [show [116, 105, 99, 107, 32] ++ Lib.decDigits tk = joinT 32 (headP tk dr) by rw [eq_false_of_ne_true hdr]; simp [headP, joinT]] | rw [show [116, 105, 99, 107, 32] ++ Lib.decDigits tk ++ [32, 100, 114, 97, 105, 110, 105, 110, 103] = joinT 32 (headP tk dr) by rw [hdr]; simp [headP, joinT]]
   have hjt := joinT_len 32 (headP tk dr)
   obtain ⟨hh1, hh2⟩ := head_sum htk dr
   have ho7 := opsT_len (w := [111, 112]) (by simp) h7
   have ho8 := opsT_len (w := [101, 110, 100, 101, 100]) (by simp) h8
   refine GH_start (Lq := [_]) (isq := [0]) (m := 11) mixedK rfl rfl ?_
   refine GH_take 0 rfl rfl rfl rfl (by kernel_rfl) (by kernel_rfl) (by kernel_rfl) (fun _ _ => (V_move rfl rfl)) ?_
   refine GH_take 1 rfl rfl rfl rfl (by kernel_rfl) (by kernel_rfl) (by kernel_rfl) (fun _ _ => (V_sadd rfl rfl rfl (by first | omega | (simp [rqCells, Sl.v, opC, wkC, ivC, ltC, wtC]; done) | (simp [rqCells, Sl.v, opC, wkC, ivC, ltC, wtC]; omega) | (simp [rqCells, Sl.v, opC, wkC, ivC, ltC, wtC] at *; omega)))) ?_
   refine GH_take 2 rfl rfl rfl rfl (by kernel_rfl) (by kernel_rfl) (by kernel_rfl) (fun _ _ => (V_fieldAddr (fo := 7) rfl Tryd.underlying41 rfl infTellSs_33 rfl rfl rfl)) ?_
   refine GH_take 3 rfl rfl rfl rfl (by kernel_rfl) (by kernel_rfl) (by kernel_rfl) (fun _ _ => (V_load1 rfl rfl (mem_at 6 rfl) rfl Tryd.underlying33 rfl)) ?_
   refine GH_take 6 rfl rfl rfl rfl (by kernel_rfl) (by kernel_rfl) (by kernel_rfl) (fun _ _ => (V_fieldAddr (fo := 8) rfl Tryd.underlying41 rfl infTellSs_33 rfl rfl rfl)) ?_
   refine GH_take 7 rfl rfl rfl rfl (by kernel_rfl) (by kernel_rfl) (by kernel_rfl) (fun _ _ => (V_load1 rfl rfl (mem_at 6 rfl) rfl Tryd.underlying33 rfl)) ?_
   refine GH_all [4] (by kernel_rfl) (by decide) ?_
   refine (And.intro ?_ trivial)
   · skip
     refine GHop_call (L2 := [_]) rfl rfl rfl rfl rfl rfl Tryd.call43 (rts_ops o7 p7 q7 c7 T7 f7 l7 s7 h7 [111, 112] (by simp) (by omega)) [] [0] rfl rfl [0] (by rintro v post ⟨rfl, rfl⟩; exact ⟨_, rfl⟩) ?_
     rintro v post ⟨rfl, rfl⟩
     show GH _ _ _ _ _ _ _ [_] _
     refine GH_take 5 rfl rfl rfl rfl (by kernel_rfl) (by kernel_rfl) (by kernel_rfl) (fun _ _ => (V_sadd rfl rfl rfl (by first | omega | (simp [rqCells, Sl.v, opC, wkC, ivC, ltC, wtC]; done) | (simp [rqCells, Sl.v, opC, wkC, ivC, ltC, wtC]; omega) | (simp [rqCells, Sl.v, opC, wkC, ivC, ltC, wtC] at *; omega)))) ?_
     refine GH_all [8] (by kernel_rfl) (by decide) ?_
     refine (And.intro ?_ trivial)
     · skip
       refine GHop_call (L2 := [_]) rfl rfl rfl rfl rfl rfl Tryd.call43 (rts_ops o8 p8 q8 c8 T8 f8 l8 s8 h8 [101, 110, 100, 101, 100] (by simp) (by omega)) [] [1] rfl rfl [0] (by rintro v post ⟨rfl, rfl⟩; exact ⟨_, rfl⟩) ?_
       rintro v post ⟨rfl, rfl⟩
       show GH _ _ _ _ _ _ _ [_] _
       refine GH_take 9 rfl rfl rfl rfl (by kernel_rfl) (by kernel_rfl) (by kernel_rfl) (fun _ _ => (V_sadd rfl rfl rfl (by first | omega | (simp [rqCells, Sl.v, opC, wkC, ivC, ltC, wtC]; done) | (simp [rqCells, Sl.v, opC, wkC, ivC, ltC, wtC]; omega) | (simp [rqCells, Sl.v, opC, wkC, ivC, ltC, wtC] at *; omega)))) ?_
       refine GH_take 10 rfl rfl rfl rfl (by kernel_rfl) (by kernel_rfl) (by kernel_rfl) (fun _ _ => (V_assign rfl rfl)) ?_
       refine GH_done (by kernel_rfl) ?_
       refine G_seq ?_
       refine G_seq ?_
       have hl2 : (stT2 tk dr l7).length = (stT1 tk dr).length + (opsT [111, 112] l7).length := by unfold stT2; rw [List.length_append]
       have hl3 : (stT3 tk dr l7 l8).length = (stT2 tk dr l7).length + (opsT [101, 110, 100, 101, 100] l8).length := by unfold stT3; rw [List.length_append]
       rw [show joinT 32 (headP tk dr) ++ [10] ++ opsT [111, 112] l7 ++ opsT [101, 110, 100, 101, 100] l8 = stT3 tk dr l7 l8 from rfl]
       refine G_region (l := [0]) rfl ?_
       refine G_val rfl rfl rfl rfl (V_assign rfl rfl) ?_
       refine G_done ?_
       refine G_block ?_
       refine G_sub ?he6 [0] ?hl6 (G_loop (X := Nat) (fun i9 => i9 ≤ l9.length) (fun i9 => l9.length - i9) (fun i9 => [(1, .pointer (some ⟨b1, 0, none⟩)), (3, .string (bs (stT3 tk dr l7 l8 ++ linesT wkParts (l9.take i9)))), (4, .int .i64 (i9 : Int))]) (fun i9 => [(some b1, .cells #[.int .u64 (tk : Int), .bool dr, .int .i64 n2, .int .i64 n3, .int .i64 n4, .int .i64 n5, .int .i64 n6, sv o7 p7 l7.length q7, sv o8 p8 l8.length q8, sv o9 p9 l9.length q9, sv o10 p10 l10.length q10, .slice x11 n11 q11, .slice x12 n12 q12, sv o13 p13 l13.length q13, sv o14 p14 l14.length q14] 41 (0, 0))]) ?round6 0 ?h06)
       case he6 => (refine (And.intro rfl (And.intro (slot_str (by simp [linesT])) (And.intro rfl trivial))))
       case hl6 => exact ⟨_, rfl⟩
       case h06 => exact Nat.zero_le _
       case round6 =>
        intro i9 hJ ih9
        try dsimp only at hJ ih9
        refine G_seq ?_
        refine G_seq ?_
        refine G_region (l := [0, 1, 2, 3, 4]) rfl ?_
        refine G_val rfl rfl rfl rfl (V_move rfl rfl) ?_
        refine G_val rfl rfl rfl rfl (V_fieldAddr (fo := 9) rfl Tryd.underlying41 rfl infTellSs_34 rfl rfl rfl) ?_
        refine G_val rfl rfl rfl rfl (V_load1 rfl rfl (mem_at 6 rfl) rfl Tryd.underlying34 rfl) ?_
        refine G_val rfl rfl rfl rfl (V_len rfl rfl Tryd.underlying34 rfl) ?_
        refine G_val rfl rfl rfl rfl (V_lss rfl rfl rfl) ?_
        refine G_done ?_
        refine G_ifD rfl (fun hc2 => ?_) (fun hc2 => ?_)
        · skip
          refine G_skip ?_
          refine G_seq ?_
          refine G_block ?_
          obtain ⟨x9, hx9⟩ := getI (show i9 < l9.length by omega)
          obtain ⟨bo9, rfl⟩ := s9.isSome (by omega)
          have hk9 := h9 x9 (List.mem_of_getElem? hx9)
          have hz9 : (linesT wkParts (l9.take i9)).length ≤ 5000007 * (l9.take i9).length := linesT_len (fun y hy => ⟨wk_sum (h9 y (List.mem_of_mem_take hy)), by simp [wkParts]⟩)
          have ht9 : (l9.take i9).length ≤ i9 := by simp; omega
          have hq90 := itoa_len hk9.a1.1 hk9.a1.2
          have hq91 := itoa_len hk9.a2.1 hk9.a2.2
          have hq92 := quoteT_len x9.m
          have hq93 := hk9.m1
          refine GH_start (Lq := [_]) (isq := [0]) (m := 30) mixedK rfl rfl ?_
          refine GH_take 0 rfl rfl rfl rfl (by kernel_rfl) (by kernel_rfl) (by kernel_rfl) (fun _ _ => (V_move rfl rfl)) ?_
          refine GH_take 1 rfl rfl rfl rfl (by kernel_rfl) (by kernel_rfl) (by kernel_rfl) (fun _ _ => (V_sadd rfl rfl rfl (by first | omega | (simp [rqCells, Sl.v, opC, wkC, ivC, ltC, wtC]; done) | (simp [rqCells, Sl.v, opC, wkC, ivC, ltC, wtC]; omega) | (simp [rqCells, Sl.v, opC, wkC, ivC, ltC, wtC] at *; omega)))) ?_
          refine GH_take 2 rfl rfl rfl rfl (by kernel_rfl) (by kernel_rfl) (by kernel_rfl) (fun _ _ => (V_fieldAddr (fo := 9) rfl Tryd.underlying41 rfl infTellSs_34 rfl rfl rfl)) ?_
          refine GH_take 3 rfl rfl rfl rfl (by kernel_rfl) (by kernel_rfl) (by kernel_rfl) (fun _ _ => (V_load1 rfl rfl (mem_at 6 rfl) rfl Tryd.underlying34 rfl)) ?_
          refine GH_take 4 rfl rfl rfl rfl (by kernel_rfl) (by kernel_rfl) (by kernel_rfl) (fun _ _ => (V_move rfl rfl)) ?_
          first
            | refine GH_take 5 rfl rfl rfl rfl (by kernel_rfl) (by kernel_rfl) (by kernel_rfl) (fun _ _ => (V_indexAddrN (s := 7) rfl Tryd.underlying34 infTellSs_80 rfl rfl rfl rfl (by omega))) ?_
            | refine GH_take 5 rfl rfl rfl rfl (by kernel_rfl) (by kernel_rfl) (by kernel_rfl) (fun _ _ => (V_indexAddr (s := 7) rfl Tryd.underlying34 infTellSs_80 rfl rfl rfl (by omega) (by first | omega | (simp [rqCells, Sl.v, opC, wkC, ivC, ltC, wtC]; done) | (simp [rqCells, Sl.v, opC, wkC, ivC, ltC, wtC]; omega) | (simp [rqCells, Sl.v, opC, wkC, ivC, ltC, wtC] at *; omega)))) ?_
          refine GH_take 6 rfl rfl rfl rfl (by kernel_rfl) (by kernel_rfl) (by kernel_rfl) (fun _ _ => (V_fieldAddr (fo := _ + 3) rfl Tryd.underlying80 rfl infTellSs_9 rfl rfl rfl)) ?_
          refine GH_take 7 rfl rfl rfl rfl (by kernel_rfl) (by kernel_rfl) (by kernel_rfl) (fun _ _ => (V_load1 rfl rfl (mem_at 2 rfl) (nth_of (cell_at s9 wk_len hx9 3 (by omega) rfl)) Tryd.underlying9 rfl)) ?_
          refine GH_take 11 rfl rfl rfl rfl (by kernel_rfl) (by kernel_rfl) (by kernel_rfl) (fun _ _ => (V_fieldAddr (fo := 9) rfl Tryd.underlying41 rfl infTellSs_34 rfl rfl rfl)) ?_
          refine GH_take 12 rfl rfl rfl rfl (by kernel_rfl) (by kernel_rfl) (by kernel_rfl) (fun _ _ => (V_load1 rfl rfl (mem_at 6 rfl) rfl Tryd.underlying34 rfl)) ?_
          refine GH_take 13 rfl rfl rfl rfl (by kernel_rfl) (by kernel_rfl) (by kernel_rfl) (fun _ _ => (V_move rfl rfl)) ?_
          first
            | refine GH_take 14 rfl rfl rfl rfl (by kernel_rfl) (by kernel_rfl) (by kernel_rfl) (fun _ _ => (V_indexAddrN (s := 7) rfl Tryd.underlying34 infTellSs_80 rfl rfl rfl rfl (by omega))) ?_
            | refine GH_take 14 rfl rfl rfl rfl (by kernel_rfl) (by kernel_rfl) (by kernel_rfl) (fun _ _ => (V_indexAddr (s := 7) rfl Tryd.underlying34 infTellSs_80 rfl rfl rfl (by omega) (by first | omega | (simp [rqCells, Sl.v, opC, wkC, ivC, ltC, wtC]; done) | (simp [rqCells, Sl.v, opC, wkC, ivC, ltC, wtC]; omega) | (simp [rqCells, Sl.v, opC, wkC, ivC, ltC, wtC] at *; omega)))) ?_
          refine GH_take 15 rfl rfl rfl rfl (by kernel_rfl) (by kernel_rfl) (by kernel_rfl) (fun _ _ => (V_fieldAddr (fo := _ + 1) rfl Tryd.underlying80 rfl infTellSs_3 rfl rfl rfl)) ?_
          refine GH_take 16 rfl rfl rfl rfl (by kernel_rfl) (by kernel_rfl) (by kernel_rfl) (fun _ _ => (V_load1 rfl rfl (mem_at 2 rfl) (nth_of (cell_at s9 wk_len hx9 1 (by omega) rfl)) Tryd.underlying3 rfl)) ?_
          refine GH_take 20 rfl rfl rfl rfl (by kernel_rfl) (by kernel_rfl) (by kernel_rfl) (fun _ _ => (V_fieldAddr (fo := 9) rfl Tryd.underlying41 rfl infTellSs_34 rfl rfl rfl)) ?_
          refine GH_take 21 rfl rfl rfl rfl (by kernel_rfl) (by kernel_rfl) (by kernel_rfl) (fun _ _ => (V_load1 rfl rfl (mem_at 6 rfl) rfl Tryd.underlying34 rfl)) ?_
          refine GH_take 22 rfl rfl rfl rfl (by kernel_rfl) (by kernel_rfl) (by kernel_rfl) (fun _ _ => (V_move rfl rfl)) ?_
          first
            | refine GH_take 23 rfl rfl rfl rfl (by kernel_rfl) (by kernel_rfl) (by kernel_rfl) (fun _ _ => (V_indexAddrN (s := 7) rfl Tryd.underlying34 infTellSs_80 rfl rfl rfl rfl (by omega))) ?_
            | refine GH_take 23 rfl rfl rfl rfl (by kernel_rfl) (by kernel_rfl) (by kernel_rfl) (fun _ _ => (V_indexAddr (s := 7) rfl Tryd.underlying34 infTellSs_80 rfl rfl rfl (by omega) (by first | omega | (simp [rqCells, Sl.v, opC, wkC, ivC, ltC, wtC]; done) | (simp [rqCells, Sl.v, opC, wkC, ivC, ltC, wtC]; omega) | (simp [rqCells, Sl.v, opC, wkC, ivC, ltC, wtC] at *; omega)))) ?_
          refine GH_take 24 rfl rfl rfl rfl (by kernel_rfl) (by kernel_rfl) (by kernel_rfl) (fun _ _ => (V_fieldAddr (fo := _ + 2) rfl Tryd.underlying80 rfl infTellSs_3 rfl rfl rfl)) ?_
          refine GH_take 25 rfl rfl rfl rfl (by kernel_rfl) (by kernel_rfl) (by kernel_rfl) (fun _ _ => (V_load1 rfl rfl (mem_at 2 rfl) (nth_of (cell_at s9 wk_len hx9 2 (by omega) rfl)) Tryd.underlying3 rfl)) ?_
          refine GH_all [8] (by kernel_rfl) (by decide) ?_
          refine (And.intro ?_ trivial)
          · skip
            refine GHop_call (L2 := [_]) rfl rfl rfl rfl rfl rfl Tryd.call10 (rtl_quote x9.m (by have := hk9.m1; omega)) [] [] rfl rfl [0] (by rintro v post ⟨rfl, rfl⟩; exact ⟨_, rfl⟩) ?_
            rintro v post ⟨rfl, rfl⟩
            show GH _ _ _ _ _ _ _ [_] _
            refine GH_take 9 rfl rfl rfl rfl (by kernel_rfl) (by kernel_rfl) (by kernel_rfl) (fun _ _ => (V_sadd rfl rfl rfl (by first | omega | (simp [rqCells, Sl.v, opC, wkC, ivC, ltC, wtC]; done) | (simp [rqCells, Sl.v, opC, wkC, ivC, ltC, wtC]; omega) | (simp [rqCells, Sl.v, opC, wkC, ivC, ltC, wtC] at *; omega)))) ?_
            refine GH_take 10 rfl rfl rfl rfl (by kernel_rfl) (by kernel_rfl) (by kernel_rfl) (fun _ _ => (V_sadd rfl rfl rfl (by first | omega | (simp [rqCells, Sl.v, opC, wkC, ivC, ltC, wtC]; done) | (simp [rqCells, Sl.v, opC, wkC, ivC, ltC, wtC]; omega) | (simp [rqCells, Sl.v, opC, wkC, ivC, ltC, wtC] at *; omega)))) ?_
            refine GH_all [17] (by kernel_rfl) (by decide) ?_
            refine (And.intro ?_ trivial)
            · skip
              refine GHop_call (L2 := [_]) rfl rfl rfl rfl rfl rfl Tryd.call44 (rt_int x9.a.2.1 hk9.a1.1 hk9.a1.2) [] [] rfl rfl [0] (by rintro v post ⟨rfl, rfl⟩; exact ⟨_, rfl⟩) ?_
              rintro v post ⟨rfl, rfl⟩
              show GH _ _ _ _ _ _ _ [_] _
              refine GH_take 18 rfl rfl rfl rfl (by kernel_rfl) (by kernel_rfl) (by kernel_rfl) (fun _ _ => (V_sadd rfl rfl rfl (by first | omega | (simp [rqCells, Sl.v, opC, wkC, ivC, ltC, wtC]; done) | (simp [rqCells, Sl.v, opC, wkC, ivC, ltC, wtC]; omega) | (simp [rqCells, Sl.v, opC, wkC, ivC, ltC, wtC] at *; omega)))) ?_
              refine GH_take 19 rfl rfl rfl rfl (by kernel_rfl) (by kernel_rfl) (by kernel_rfl) (fun _ _ => (V_sadd rfl rfl rfl (by first | omega | (simp [rqCells, Sl.v, opC, wkC, ivC, ltC, wtC]; done) | (simp [rqCells, Sl.v, opC, wkC, ivC, ltC, wtC]; omega) | (simp [rqCells, Sl.v, opC, wkC, ivC, ltC, wtC] at *; omega)))) ?_
              refine GH_all [26] (by kernel_rfl) (by decide) ?_
              refine (And.intro ?_ trivial)
              · skip
                refine GHop_call (L2 := [_]) rfl rfl rfl rfl rfl rfl Tryd.call44 (rt_int x9.a.2.2 hk9.a2.1 hk9.a2.2) [] [] rfl rfl [0] (by rintro v post ⟨rfl, rfl⟩; exact ⟨_, rfl⟩) ?_
                rintro v post ⟨rfl, rfl⟩
                show GH _ _ _ _ _ _ _ [_] _
                refine GH_take 27 rfl rfl rfl rfl (by kernel_rfl) (by kernel_rfl) (by kernel_rfl) (fun _ _ => (V_sadd rfl rfl rfl (by first | omega | (simp [rqCells, Sl.v, opC, wkC, ivC, ltC, wtC]; done) | (simp [rqCells, Sl.v, opC, wkC, ivC, ltC, wtC]; omega) | (simp [rqCells, Sl.v, opC, wkC, ivC, ltC, wtC] at *; omega)))) ?_
                refine GH_take 28 rfl rfl rfl rfl (by kernel_rfl) (by kernel_rfl) (by kernel_rfl) (fun _ _ => (V_sadd rfl rfl rfl (by first | omega | (simp [rqCells, Sl.v, opC, wkC, ivC, ltC, wtC]; done) | (simp [rqCells, Sl.v, opC, wkC, ivC, ltC, wtC]; omega) | (simp [rqCells, Sl.v, opC, wkC, ivC, ltC, wtC] at *; omega)))) ?_
                refine GH_take 29 rfl rfl rfl rfl (by kernel_rfl) (by kernel_rfl) (by kernel_rfl) (fun _ _ => (V_assign rfl rfl)) ?_
                refine GH_done (by kernel_rfl) ?_
                refine G_inBlock ?_
                rw [wk_step hx9]
                refine G_region (l := [0, 1, 2]) rfl ?_
                refine G_val rfl rfl rfl rfl (V_move rfl rfl) ?_
                first
                  | refine G_val rfl rfl rfl rfl ((V_add rfl rfl rfl).int (wrap_i64 (by omega))) ?_
                  | refine G_val rfl rfl rfl rfl (V_add rfl rfl rfl) ?_
                refine G_val rfl rfl rfl rfl (V_assign rfl rfl) ?_
                refine G_done ?_
                refine G_sub ?_ [0] ?_ (ih9 (i9 + 1) ?_ ?_)
                · (refine (And.intro ?_ (And.intro ?_ (And.intro ?_ trivial))) <;> first | rfl | exact slot_int (by omega) | exact slot_int (by simp))
                · exact ⟨_, rfl⟩
                · omega
                · (first | omega | (dsimp only; omega))
        refine G_exit rfl ?_
        refine G_seq ?_
        refine G_seq ?_
        rw [List.take_of_length_le (show l9.length ≤ i9 by omega)]
        rw [show stT3 tk dr l7 l8 ++ linesT wkParts l9 = stT4 tk dr l7 l8 l9 from rfl]
        have hl4 : (stT4 tk dr l7 l8 l9).length ≤ (stT3 tk dr l7 l8).length + 5000007 * l9.length := by
          have := linesT_len (f := wkParts) (l := l9) (fun y hy => ⟨wk_sum (h9 y hy), by simp [wkParts]⟩)
          unfold stT4; rw [List.length_append]; omega
        refine G_region (l := [0]) rfl ?_
        refine G_val rfl rfl rfl rfl (V_assign rfl rfl) ?_
        refine G_done ?_
        refine G_block ?_
        refine G_sub ?he10 [0] ?hl10 (G_loop (X := Nat) (fun i10 => i10 ≤ l10.length) (fun i10 => l10.length - i10) (fun i10 => [(1, .pointer (some ⟨b1, 0, none⟩)), (3, .string (bs (stT4 tk dr l7 l8 l9 ++ linesT ivParts (l10.take i10)))), (5, .int .i64 (i10 : Int))]) (fun i10 => [(some b1, .cells #[.int .u64 (tk : Int), .bool dr, .int .i64 n2, .int .i64 n3, .int .i64 n4, .int .i64 n5, .int .i64 n6, sv o7 p7 l7.length q7, sv o8 p8 l8.length q8, sv o9 p9 l9.length q9, sv o10 p10 l10.length q10, .slice x11 n11 q11, .slice x12 n12 q12, sv o13 p13 l13.length q13, sv o14 p14 l14.length q14] 41 (0, 0))]) ?round10 0 ?h010)
        case he10 => (refine (And.intro rfl (And.intro (slot_str (by simp [linesT])) (And.intro rfl trivial))))
        case hl10 => exact ⟨_, rfl⟩
        case h010 => exact Nat.zero_le _
        case round10 =>
         intro i10 hJ ih10
         try dsimp only at hJ ih10
         refine G_seq ?_
         refine G_seq ?_
         refine G_region (l := [0, 1, 2, 3, 4]) rfl ?_
         refine G_val rfl rfl rfl rfl (V_move rfl rfl) ?_
         refine G_val rfl rfl rfl rfl (V_fieldAddr (fo := 10) rfl Tryd.underlying41 rfl infTellSs_35 rfl rfl rfl) ?_
         refine G_val rfl rfl rfl rfl (V_load1 rfl rfl (mem_at 6 rfl) rfl Tryd.underlying35 rfl) ?_
         refine G_val rfl rfl rfl rfl (V_len rfl rfl Tryd.underlying35 rfl) ?_
         refine G_val rfl rfl rfl rfl (V_lss rfl rfl rfl) ?_
         refine G_done ?_
         refine G_ifD rfl (fun hc3 => ?_) (fun hc3 => ?_)
         · skip
           refine G_skip ?_
           refine G_seq ?_
           refine G_block ?_
           obtain ⟨x10, hx10⟩ := getI (show i10 < l10.length by omega)
           obtain ⟨bo10, rfl⟩ := s10.isSome (by omega)
           have hk10 := h10 x10 (List.mem_of_getElem? hx10)
           have hz10 : (linesT ivParts (l10.take i10)).length ≤ 5000007 * (l10.take i10).length := linesT_len (fun y hy => ⟨iv_sum (h10 y (List.mem_of_mem_take hy)), by simp [ivParts]⟩)
           have ht10 : (l10.take i10).length ≤ i10 := by simp; omega
           have hq100 := itoa_len hk10.a1.1 hk10.a1.2
           have hq101 := itoa_len hk10.b1.1 hk10.b1.2
           have hq102 := quoteT_len x10.s
           have hq103 := hk10.s1
           refine GH_start (Lq := [_]) (isq := [0]) (m := 30) mixedK rfl rfl ?_
           refine GH_take 0 rfl rfl rfl rfl (by kernel_rfl) (by kernel_rfl) (by kernel_rfl) (fun _ _ => (V_move rfl rfl)) ?_
           refine GH_take 1 rfl rfl rfl rfl (by kernel_rfl) (by kernel_rfl) (by kernel_rfl) (fun _ _ => (V_sadd rfl rfl rfl (by first | omega | (simp [rqCells, Sl.v, opC, wkC, ivC, ltC, wtC]; done) | (simp [rqCells, Sl.v, opC, wkC, ivC, ltC, wtC]; omega) | (simp [rqCells, Sl.v, opC, wkC, ivC, ltC, wtC] at *; omega)))) ?_
           refine GH_take 2 rfl rfl rfl rfl (by kernel_rfl) (by kernel_rfl) (by kernel_rfl) (fun _ _ => (V_fieldAddr (fo := 10) rfl Tryd.underlying41 rfl infTellSs_35 rfl rfl rfl)) ?_
           refine GH_take 3 rfl rfl rfl rfl (by kernel_rfl) (by kernel_rfl) (by kernel_rfl) (fun _ _ => (V_load1 rfl rfl (mem_at 6 rfl) rfl Tryd.underlying35 rfl)) ?_
           refine GH_take 4 rfl rfl rfl rfl (by kernel_rfl) (by kernel_rfl) (by kernel_rfl) (fun _ _ => (V_move rfl rfl)) ?_
           first
             | refine GH_take 5 rfl rfl rfl rfl (by kernel_rfl) (by kernel_rfl) (by kernel_rfl) (fun _ _ => (V_indexAddrN (s := 5) rfl Tryd.underlying35 infTellSs_82 rfl rfl rfl rfl (by omega))) ?_
             | refine GH_take 5 rfl rfl rfl rfl (by kernel_rfl) (by kernel_rfl) (by kernel_rfl) (fun _ _ => (V_indexAddr (s := 5) rfl Tryd.underlying35 infTellSs_82 rfl rfl rfl (by omega) (by first | omega | (simp [rqCells, Sl.v, opC, wkC, ivC, ltC, wtC]; done) | (simp [rqCells, Sl.v, opC, wkC, ivC, ltC, wtC]; omega) | (simp [rqCells, Sl.v, opC, wkC, ivC, ltC, wtC] at *; omega)))) ?_
           refine GH_take 6 rfl rfl rfl rfl (by kernel_rfl) (by kernel_rfl) (by kernel_rfl) (fun _ _ => (V_fieldAddr (fo := _ + 1) rfl Tryd.underlying82 rfl infTellSs_3 rfl rfl rfl)) ?_
           refine GH_take 7 rfl rfl rfl rfl (by kernel_rfl) (by kernel_rfl) (by kernel_rfl) (fun _ _ => (V_load1 rfl rfl (mem_at 3 rfl) (nth_of (cell_at s10 iv_len hx10 1 (by omega) rfl)) Tryd.underlying3 rfl)) ?_
           refine GH_take 11 rfl rfl rfl rfl (by kernel_rfl) (by kernel_rfl) (by kernel_rfl) (fun _ _ => (V_fieldAddr (fo := 10) rfl Tryd.underlying41 rfl infTellSs_35 rfl rfl rfl)) ?_
           refine GH_take 12 rfl rfl rfl rfl (by kernel_rfl) (by kernel_rfl) (by kernel_rfl) (fun _ _ => (V_load1 rfl rfl (mem_at 6 rfl) rfl Tryd.underlying35 rfl)) ?_
           refine GH_take 13 rfl rfl rfl rfl (by kernel_rfl) (by kernel_rfl) (by kernel_rfl) (fun _ _ => (V_move rfl rfl)) ?_
           first
             | refine GH_take 14 rfl rfl rfl rfl (by kernel_rfl) (by kernel_rfl) (by kernel_rfl) (fun _ _ => (V_indexAddrN (s := 5) rfl Tryd.underlying35 infTellSs_82 rfl rfl rfl rfl (by omega))) ?_
             | refine GH_take 14 rfl rfl rfl rfl (by kernel_rfl) (by kernel_rfl) (by kernel_rfl) (fun _ _ => (V_indexAddr (s := 5) rfl Tryd.underlying35 infTellSs_82 rfl rfl rfl (by omega) (by first | omega | (simp [rqCells, Sl.v, opC, wkC, ivC, ltC, wtC]; done) | (simp [rqCells, Sl.v, opC, wkC, ivC, ltC, wtC]; omega) | (simp [rqCells, Sl.v, opC, wkC, ivC, ltC, wtC] at *; omega)))) ?_
           refine GH_take 15 rfl rfl rfl rfl (by kernel_rfl) (by kernel_rfl) (by kernel_rfl) (fun _ _ => (V_fieldAddr (fo := _ + 2) rfl Tryd.underlying82 rfl infTellSs_9 rfl rfl rfl)) ?_
           refine GH_take 16 rfl rfl rfl rfl (by kernel_rfl) (by kernel_rfl) (by kernel_rfl) (fun _ _ => (V_load1 rfl rfl (mem_at 3 rfl) (nth_of (cell_at s10 iv_len hx10 2 (by omega) rfl)) Tryd.underlying9 rfl)) ?_
           refine GH_take 20 rfl rfl rfl rfl (by kernel_rfl) (by kernel_rfl) (by kernel_rfl) (fun _ _ => (V_fieldAddr (fo := 10) rfl Tryd.underlying41 rfl infTellSs_35 rfl rfl rfl)) ?_
           refine GH_take 21 rfl rfl rfl rfl (by kernel_rfl) (by kernel_rfl) (by kernel_rfl) (fun _ _ => (V_load1 rfl rfl (mem_at 6 rfl) rfl Tryd.underlying35 rfl)) ?_
           refine GH_take 22 rfl rfl rfl rfl (by kernel_rfl) (by kernel_rfl) (by kernel_rfl) (fun _ _ => (V_move rfl rfl)) ?_
           first
             | refine GH_take 23 rfl rfl rfl rfl (by kernel_rfl) (by kernel_rfl) (by kernel_rfl) (fun _ _ => (V_indexAddrN (s := 5) rfl Tryd.underlying35 infTellSs_82 rfl rfl rfl rfl (by omega))) ?_
             | refine GH_take 23 rfl rfl rfl rfl (by kernel_rfl) (by kernel_rfl) (by kernel_rfl) (fun _ _ => (V_indexAddr (s := 5) rfl Tryd.underlying35 infTellSs_82 rfl rfl rfl (by omega) (by first | omega | (simp [rqCells, Sl.v, opC, wkC, ivC, ltC, wtC]; done) | (simp [rqCells, Sl.v, opC, wkC, ivC, ltC, wtC]; omega) | (simp [rqCells, Sl.v, opC, wkC, ivC, ltC, wtC] at *; omega)))) ?_
           refine GH_take 24 rfl rfl rfl rfl (by kernel_rfl) (by kernel_rfl) (by kernel_rfl) (fun _ _ => (V_fieldAddr (fo := _ + 4) rfl Tryd.underlying82 rfl infTellSs_3 rfl rfl rfl)) ?_
           refine GH_take 25 rfl rfl rfl rfl (by kernel_rfl) (by kernel_rfl) (by kernel_rfl) (fun _ _ => (V_load1 rfl rfl (mem_at 3 rfl) (nth_of (cell_at s10 iv_len hx10 4 (by omega) rfl)) Tryd.underlying3 rfl)) ?_
           refine GH_all [8] (by kernel_rfl) (by decide) ?_
           refine (And.intro ?_ trivial)
           · skip
             refine GHop_call (L2 := [_]) rfl rfl rfl rfl rfl rfl Tryd.call44 (rt_int x10.a.2 hk10.a1.1 hk10.a1.2) [] [] rfl rfl [0] (by rintro v post ⟨rfl, rfl⟩; exact ⟨_, rfl⟩) ?_
             rintro v post ⟨rfl, rfl⟩
             show GH _ _ _ _ _ _ _ [_] _
             refine GH_take 9 rfl rfl rfl rfl (by kernel_rfl) (by kernel_rfl) (by kernel_rfl) (fun _ _ => (V_sadd rfl rfl rfl (by first | omega | (simp [rqCells, Sl.v, opC, wkC, ivC, ltC, wtC]; done) | (simp [rqCells, Sl.v, opC, wkC, ivC, ltC, wtC]; omega) | (simp [rqCells, Sl.v, opC, wkC, ivC, ltC, wtC] at *; omega)))) ?_
             refine GH_take 10 rfl rfl rfl rfl (by kernel_rfl) (by kernel_rfl) (by kernel_rfl) (fun _ _ => (V_sadd rfl rfl rfl (by first | omega | (simp [rqCells, Sl.v, opC, wkC, ivC, ltC, wtC]; done) | (simp [rqCells, Sl.v, opC, wkC, ivC, ltC, wtC]; omega) | (simp [rqCells, Sl.v, opC, wkC, ivC, ltC, wtC] at *; omega)))) ?_
             refine GH_all [17] (by kernel_rfl) (by decide) ?_
             refine (And.intro ?_ trivial)
             · skip
               refine GHop_call (L2 := [_]) rfl rfl rfl rfl rfl rfl Tryd.call10 (rtl_quote x10.s (by have := hk10.s1; omega)) [] [] rfl rfl [0] (by rintro v post ⟨rfl, rfl⟩; exact ⟨_, rfl⟩) ?_
               rintro v post ⟨rfl, rfl⟩
               show GH _ _ _ _ _ _ _ [_] _
               refine GH_take 18 rfl rfl rfl rfl (by kernel_rfl) (by kernel_rfl) (by kernel_rfl) (fun _ _ => (V_sadd rfl rfl rfl (by first | omega | (simp [rqCells, Sl.v, opC, wkC, ivC, ltC, wtC]; done) | (simp [rqCells, Sl.v, opC, wkC, ivC, ltC, wtC]; omega) | (simp [rqCells, Sl.v, opC, wkC, ivC, ltC, wtC] at *; omega)))) ?_
               refine GH_take 19 rfl rfl rfl rfl (by kernel_rfl) (by kernel_rfl) (by kernel_rfl) (fun _ _ => (V_sadd rfl rfl rfl (by first | omega | (simp [rqCells, Sl.v, opC, wkC, ivC, ltC, wtC]; done) | (simp [rqCells, Sl.v, opC, wkC, ivC, ltC, wtC]; omega) | (simp [rqCells, Sl.v, opC, wkC, ivC, ltC, wtC] at *; omega)))) ?_
               refine GH_all [26] (by kernel_rfl) (by decide) ?_
               refine (And.intro ?_ trivial)
               · skip
                 refine GHop_call (L2 := [_]) rfl rfl rfl rfl rfl rfl Tryd.call44 (rt_int x10.b.2 hk10.b1.1 hk10.b1.2) [] [] rfl rfl [0] (by rintro v post ⟨rfl, rfl⟩; exact ⟨_, rfl⟩) ?_
                 rintro v post ⟨rfl, rfl⟩
                 show GH _ _ _ _ _ _ _ [_] _
                 refine GH_take 27 rfl rfl rfl rfl (by kernel_rfl) (by kernel_rfl) (by kernel_rfl) (fun _ _ => (V_sadd rfl rfl rfl (by first | omega | (simp [rqCells, Sl.v, opC, wkC, ivC, ltC, wtC]; done) | (simp [rqCells, Sl.v, opC, wkC, ivC, ltC, wtC]; omega) | (simp [rqCells, Sl.v, opC, wkC, ivC, ltC, wtC] at *; omega)))) ?_
                 refine GH_take 28 rfl rfl rfl rfl (by kernel_rfl) (by kernel_rfl) (by kernel_rfl) (fun _ _ => (V_sadd rfl rfl rfl (by first | omega | (simp [rqCells, Sl.v, opC, wkC, ivC, ltC, wtC]; done) | (simp [rqCells, Sl.v, opC, wkC, ivC, ltC, wtC]; omega) | (simp [rqCells, Sl.v, opC, wkC, ivC, ltC, wtC] at *; omega)))) ?_
                 refine GH_take 29 rfl rfl rfl rfl (by kernel_rfl) (by kernel_rfl) (by kernel_rfl) (fun _ _ => (V_assign rfl rfl)) ?_
                 refine GH_done (by kernel_rfl) ?_
                 refine G_inBlock ?_
                 rw [iv_step hx10]
                 refine G_region (l := [0, 1, 2]) rfl ?_
                 refine G_val rfl rfl rfl rfl (V_move rfl rfl) ?_
                 first
                   | refine G_val rfl rfl rfl rfl ((V_add rfl rfl rfl).int (wrap_i64 (by omega))) ?_
                   | refine G_val rfl rfl rfl rfl (V_add rfl rfl rfl) ?_
                 refine G_val rfl rfl rfl rfl (V_assign rfl rfl) ?_
                 refine G_done ?_
                 refine G_sub ?_ [0] ?_ (ih10 (i10 + 1) ?_ ?_)
                 · (refine (And.intro ?_ (And.intro ?_ (And.intro ?_ trivial))) <;> first | rfl | exact slot_int (by omega) | exact slot_int (by simp))
                 · exact ⟨_, rfl⟩
                 · omega
                 · (first | omega | (dsimp only; omega))
         refine G_exit rfl ?_
         refine G_seq ?_
         refine G_seq ?_
         rw [List.take_of_length_le (show l10.length ≤ i10 by omega)]
         rw [show stT4 tk dr l7 l8 l9 ++ linesT ivParts l10 = stT5 tk dr l7 l8 l9 l10 from rfl]
         have hl5 : (stT5 tk dr l7 l8 l9 l10).length ≤ (stT4 tk dr l7 l8 l9).length + 5000007 * l10.length := by
           have := linesT_len (f := ivParts) (l := l10) (fun y hy => ⟨iv_sum (h10 y hy), by simp [ivParts]⟩)
           unfold stT5; rw [List.length_append]; omega
         refine G_region (l := [0]) rfl ?_
         refine G_val rfl rfl rfl rfl (V_assign rfl rfl) ?_
         refine G_done ?_
         refine G_block ?_
         refine G_sub ?he14 [0] ?hl14 (G_loop (X := Nat) (fun i13 => i13 ≤ l13.length) (fun i13 => l13.length - i13) (fun i13 => [(1, .pointer (some ⟨b1, 0, none⟩)), (3, .string (bs (stT5 tk dr l7 l8 l9 l10 ++ linesT ltParts (l13.take i13)))), (6, .int .i64 (i13 : Int))]) (fun i13 => [(some b1, .cells #[.int .u64 (tk : Int), .bool dr, .int .i64 n2, .int .i64 n3, .int .i64 n4, .int .i64 n5, .int .i64 n6, sv o7 p7 l7.length q7, sv o8 p8 l8.length q8, sv o9 p9 l9.length q9, sv o10 p10 l10.length q10, .slice x11 n11 q11, .slice x12 n12 q12, sv o13 p13 l13.length q13, sv o14 p14 l14.length q14] 41 (0, 0))]) ?round14 0 ?h014)
         case he14 => (refine (And.intro rfl (And.intro (slot_str (by simp [linesT])) (And.intro rfl trivial))))
         case hl14 => exact ⟨_, rfl⟩
         case h014 => exact Nat.zero_le _
         case round14 =>
          intro i13 hJ ih13
          try dsimp only at hJ ih13
          refine G_seq ?_
          refine G_seq ?_
          refine G_region (l := [0, 1, 2, 3, 4]) rfl ?_
          refine G_val rfl rfl rfl rfl (V_move rfl rfl) ?_
          refine G_val rfl rfl rfl rfl (V_fieldAddr (fo := 13) rfl Tryd.underlying41 rfl infTellSs_38 rfl rfl rfl) ?_
          refine G_val rfl rfl rfl rfl (V_load1 rfl rfl (mem_at 6 rfl) rfl Tryd.underlying38 rfl) ?_
          refine G_val rfl rfl rfl rfl (V_len rfl rfl Tryd.underlying38 rfl) ?_
          refine G_val rfl rfl rfl rfl (V_lss rfl rfl rfl) ?_
          refine G_done ?_
          refine G_ifD rfl (fun hc4 => ?_) (fun hc4 => ?_)
          · skip
            refine G_skip ?_
            refine G_seq ?_
            refine G_block ?_
            obtain ⟨x13, hx13⟩ := getI (show i13 < l13.length by omega)
            obtain ⟨bo13, rfl⟩ := s13.isSome (by omega)
            have hk13 := h13 x13 (List.mem_of_getElem? hx13)
            have hz13 : (linesT ltParts (l13.take i13)).length ≤ 5000007 * (l13.take i13).length := linesT_len (fun y hy => ⟨lt_sum (h13 y (List.mem_of_mem_take hy)), by simp [ltParts]⟩)
            have ht13 : (l13.take i13).length ≤ i13 := by simp; omega
            have hq130 := itoa_len hk13.a1.1 hk13.a1.2
            have hq131 := itoa_len hk13.a2.1 hk13.a2.2
            refine GH_start (Lq := [_]) (isq := [0]) (m := 21) mixedK rfl rfl ?_
            refine GH_take 0 rfl rfl rfl rfl (by kernel_rfl) (by kernel_rfl) (by kernel_rfl) (fun _ _ => (V_move rfl rfl)) ?_
            refine GH_take 1 rfl rfl rfl rfl (by kernel_rfl) (by kernel_rfl) (by kernel_rfl) (fun _ _ => (V_sadd rfl rfl rfl (by first | omega | (simp [rqCells, Sl.v, opC, wkC, ivC, ltC, wtC]; done) | (simp [rqCells, Sl.v, opC, wkC, ivC, ltC, wtC]; omega) | (simp [rqCells, Sl.v, opC, wkC, ivC, ltC, wtC] at *; omega)))) ?_
            refine GH_take 2 rfl rfl rfl rfl (by kernel_rfl) (by kernel_rfl) (by kernel_rfl) (fun _ _ => (V_fieldAddr (fo := 13) rfl Tryd.underlying41 rfl infTellSs_38 rfl rfl rfl)) ?_
            refine GH_take 3 rfl rfl rfl rfl (by kernel_rfl) (by kernel_rfl) (by kernel_rfl) (fun _ _ => (V_load1 rfl rfl (mem_at 6 rfl) rfl Tryd.underlying38 rfl)) ?_
            refine GH_take 4 rfl rfl rfl rfl (by kernel_rfl) (by kernel_rfl) (by kernel_rfl) (fun _ _ => (V_move rfl rfl)) ?_
            first
              | refine GH_take 5 rfl rfl rfl rfl (by kernel_rfl) (by kernel_rfl) (by kernel_rfl) (fun _ _ => (V_indexAddrN (s := 6) rfl Tryd.underlying38 infTellSs_93 rfl rfl rfl rfl (by omega))) ?_
              | refine GH_take 5 rfl rfl rfl rfl (by kernel_rfl) (by kernel_rfl) (by kernel_rfl) (fun _ _ => (V_indexAddr (s := 6) rfl Tryd.underlying38 infTellSs_93 rfl rfl rfl (by omega) (by first | omega | (simp [rqCells, Sl.v, opC, wkC, ivC, ltC, wtC]; done) | (simp [rqCells, Sl.v, opC, wkC, ivC, ltC, wtC]; omega) | (simp [rqCells, Sl.v, opC, wkC, ivC, ltC, wtC] at *; omega)))) ?_
            refine GH_take 6 rfl rfl rfl rfl (by kernel_rfl) (by kernel_rfl) (by kernel_rfl) (fun _ _ => (V_fieldAddr (fo := _) rfl Tryd.underlying93 rfl infTellSs_3 rfl rfl rfl)) ?_
            refine GH_take 7 rfl rfl rfl rfl (by kernel_rfl) (by kernel_rfl) (by kernel_rfl) (fun _ _ => (V_load1 rfl rfl (mem_at 4 rfl) (nth_of (cell_at s13 lt_len hx13 0 (by omega) rfl)) Tryd.underlying3 rfl)) ?_
            refine GH_take 11 rfl rfl rfl rfl (by kernel_rfl) (by kernel_rfl) (by kernel_rfl) (fun _ _ => (V_fieldAddr (fo := 13) rfl Tryd.underlying41 rfl infTellSs_38 rfl rfl rfl)) ?_
            refine GH_take 12 rfl rfl rfl rfl (by kernel_rfl) (by kernel_rfl) (by kernel_rfl) (fun _ _ => (V_load1 rfl rfl (mem_at 6 rfl) rfl Tryd.underlying38 rfl)) ?_
            refine GH_take 13 rfl rfl rfl rfl (by kernel_rfl) (by kernel_rfl) (by kernel_rfl) (fun _ _ => (V_move rfl rfl)) ?_
            first
              | refine GH_take 14 rfl rfl rfl rfl (by kernel_rfl) (by kernel_rfl) (by kernel_rfl) (fun _ _ => (V_indexAddrN (s := 6) rfl Tryd.underlying38 infTellSs_93 rfl rfl rfl rfl (by omega))) ?_
              | refine GH_take 14 rfl rfl rfl rfl (by kernel_rfl) (by kernel_rfl) (by kernel_rfl) (fun _ _ => (V_indexAddr (s := 6) rfl Tryd.underlying38 infTellSs_93 rfl rfl rfl (by omega) (by first | omega | (simp [rqCells, Sl.v, opC, wkC, ivC, ltC, wtC]; done) | (simp [rqCells, Sl.v, opC, wkC, ivC, ltC, wtC]; omega) | (simp [rqCells, Sl.v, opC, wkC, ivC, ltC, wtC] at *; omega)))) ?_
            refine GH_take 15 rfl rfl rfl rfl (by kernel_rfl) (by kernel_rfl) (by kernel_rfl) (fun _ _ => (V_fieldAddr (fo := _ + 3) rfl Tryd.underlying93 rfl infTellSs_3 rfl rfl rfl)) ?_
            refine GH_take 16 rfl rfl rfl rfl (by kernel_rfl) (by kernel_rfl) (by kernel_rfl) (fun _ _ => (V_load1 rfl rfl (mem_at 4 rfl) (nth_of (cell_at s13 lt_len hx13 3 (by omega) rfl)) Tryd.underlying3 rfl)) ?_
            refine GH_all [8] (by kernel_rfl) (by decide) ?_
            refine (And.intro ?_ trivial)
            · skip
              refine GHop_call (L2 := [_]) rfl rfl rfl rfl rfl rfl Tryd.call44 (rt_int x13.a.1 hk13.a1.1 hk13.a1.2) [] [] rfl rfl [0] (by rintro v post ⟨rfl, rfl⟩; exact ⟨_, rfl⟩) ?_
              rintro v post ⟨rfl, rfl⟩
              show GH _ _ _ _ _ _ _ [_] _
              refine GH_take 9 rfl rfl rfl rfl (by kernel_rfl) (by kernel_rfl) (by kernel_rfl) (fun _ _ => (V_sadd rfl rfl rfl (by first | omega | (simp [rqCells, Sl.v, opC, wkC, ivC, ltC, wtC]; done) | (simp [rqCells, Sl.v, opC, wkC, ivC, ltC, wtC]; omega) | (simp [rqCells, Sl.v, opC, wkC, ivC, ltC, wtC] at *; omega)))) ?_
              refine GH_take 10 rfl rfl rfl rfl (by kernel_rfl) (by kernel_rfl) (by kernel_rfl) (fun _ _ => (V_sadd rfl rfl rfl (by first | omega | (simp [rqCells, Sl.v, opC, wkC, ivC, ltC, wtC]; done) | (simp [rqCells, Sl.v, opC, wkC, ivC, ltC, wtC]; omega) | (simp [rqCells, Sl.v, opC, wkC, ivC, ltC, wtC] at *; omega)))) ?_
              refine GH_all [17] (by kernel_rfl) (by decide) ?_
              refine (And.intro ?_ trivial)
              · skip
                refine GHop_call (L2 := [_]) rfl rfl rfl rfl rfl rfl Tryd.call44 (rt_int x13.a.2.2.2 hk13.a2.1 hk13.a2.2) [] [] rfl rfl [0] (by rintro v post ⟨rfl, rfl⟩; exact ⟨_, rfl⟩) ?_
                rintro v post ⟨rfl, rfl⟩
                show GH _ _ _ _ _ _ _ [_] _
                refine GH_take 18 rfl rfl rfl rfl (by kernel_rfl) (by kernel_rfl) (by kernel_rfl) (fun _ _ => (V_sadd rfl rfl rfl (by first | omega | (simp [rqCells, Sl.v, opC, wkC, ivC, ltC, wtC]; done) | (simp [rqCells, Sl.v, opC, wkC, ivC, ltC, wtC]; omega) | (simp [rqCells, Sl.v, opC, wkC, ivC, ltC, wtC] at *; omega)))) ?_
                refine GH_take 19 rfl rfl rfl rfl (by kernel_rfl) (by kernel_rfl) (by kernel_rfl) (fun _ _ => (V_sadd rfl rfl rfl (by first | omega | (simp [rqCells, Sl.v, opC, wkC, ivC, ltC, wtC]; done) | (simp [rqCells, Sl.v, opC, wkC, ivC, ltC, wtC]; omega) | (simp [rqCells, Sl.v, opC, wkC, ivC, ltC, wtC] at *; omega)))) ?_
                refine GH_take 20 rfl rfl rfl rfl (by kernel_rfl) (by kernel_rfl) (by kernel_rfl) (fun _ _ => (V_assign rfl rfl)) ?_
                refine GH_done (by kernel_rfl) ?_
                refine G_inBlock ?_
                rw [lt_step hx13]
                refine G_region (l := [0, 1, 2]) rfl ?_
                refine G_val rfl rfl rfl rfl (V_move rfl rfl) ?_
                first
                  | refine G_val rfl rfl rfl rfl ((V_add rfl rfl rfl).int (wrap_i64 (by omega))) ?_
                  | refine G_val rfl rfl rfl rfl (V_add rfl rfl rfl) ?_
                refine G_val rfl rfl rfl rfl (V_assign rfl rfl) ?_
                refine G_done ?_
                refine G_sub ?_ [0] ?_ (ih13 (i13 + 1) ?_ ?_)
                · (refine (And.intro ?_ (And.intro ?_ (And.intro ?_ trivial))) <;> first | rfl | exact slot_int (by omega) | exact slot_int (by simp))
                · exact ⟨_, rfl⟩
                · omega
                · (first | omega | (dsimp only; omega))
          refine G_exit rfl ?_
          refine G_seq ?_
          refine G_seq ?_
          rw [List.take_of_length_le (show l13.length ≤ i13 by omega)]
          rw [show stT5 tk dr l7 l8 l9 l10 ++ linesT ltParts l13 = stT6 tk dr l7 l8 l9 l10 l13 from rfl]
          have hl6 : (stT6 tk dr l7 l8 l9 l10 l13).length ≤ (stT5 tk dr l7 l8 l9 l10).length + 5000007 * l13.length := by
            have := linesT_len (f := ltParts) (l := l13) (fun y hy => ⟨lt_sum (h13 y hy), by simp [ltParts]⟩)
            unfold stT6; rw [List.length_append]; omega
          refine G_region (l := [0]) rfl ?_
          refine G_val rfl rfl rfl rfl (V_assign rfl rfl) ?_
          refine G_done ?_
          refine G_block ?_
          refine G_sub ?he18 [0] ?hl18 (G_loop (X := Nat) (fun i14 => i14 ≤ l14.length) (fun i14 => l14.length - i14) (fun i14 => [(1, .pointer (some ⟨b1, 0, none⟩)), (3, .string (bs (stT6 tk dr l7 l8 l9 l10 l13 ++ linesT wtParts (l14.take i14)))), (7, .int .i64 (i14 : Int))]) (fun i14 => [(some b1, .cells #[.int .u64 (tk : Int), .bool dr, .int .i64 n2, .int .i64 n3, .int .i64 n4, .int .i64 n5, .int .i64 n6, sv o7 p7 l7.length q7, sv o8 p8 l8.length q8, sv o9 p9 l9.length q9, sv o10 p10 l10.length q10, .slice x11 n11 q11, .slice x12 n12 q12, sv o13 p13 l13.length q13, sv o14 p14 l14.length q14] 41 (0, 0))]) ?round18 0 ?h018)
          case he18 => (refine (And.intro rfl (And.intro (slot_str (by simp [linesT])) (And.intro rfl trivial))))
          case hl18 => exact ⟨_, rfl⟩
          case h018 => exact Nat.zero_le _
          case round18 =>
           intro i14 hJ ih14
           try dsimp only at hJ ih14
           refine G_seq ?_
           refine G_seq ?_
           refine G_region (l := [0, 1, 2, 3, 4]) rfl ?_
           refine G_val rfl rfl rfl rfl (V_move rfl rfl) ?_
           refine G_val rfl rfl rfl rfl (V_fieldAddr (fo := 14) rfl Tryd.underlying41 rfl infTellSs_39 rfl rfl rfl) ?_
           refine G_val rfl rfl rfl rfl (V_load1 rfl rfl (mem_at 6 rfl) rfl Tryd.underlying39 rfl) ?_
           refine G_val rfl rfl rfl rfl (V_len rfl rfl Tryd.underlying39 rfl) ?_
           refine G_val rfl rfl rfl rfl (V_lss rfl rfl rfl) ?_
           refine G_done ?_
           refine G_ifD rfl (fun hc5 => ?_) (fun hc5 => ?_)
           · skip
             refine G_skip ?_
             refine G_seq ?_
             refine G_block ?_
             obtain ⟨x14, hx14⟩ := getI (show i14 < l14.length by omega)
             obtain ⟨bo14, rfl⟩ := s14.isSome (by omega)
             have hk14 := h14 x14 (List.mem_of_getElem? hx14)
             have hz14 : (linesT wtParts (l14.take i14)).length ≤ 5000007 * (l14.take i14).length := linesT_len (fun y hy => ⟨wt_sum (h14 y (List.mem_of_mem_take hy)), by simp [wtParts]⟩)
             have ht14 : (l14.take i14).length ≤ i14 := by simp; omega
             have hq140 := itoa_len hk14.n1.1 hk14.n1.2
             have hq141 := quoteT_len x14.s
             have hq142 := hk14.s1
             refine GH_start (Lq := [_]) (isq := [0]) (m := 21) mixedK rfl rfl ?_
             refine GH_take 0 rfl rfl rfl rfl (by kernel_rfl) (by kernel_rfl) (by kernel_rfl) (fun _ _ => (V_move rfl rfl)) ?_
             refine GH_take 1 rfl rfl rfl rfl (by kernel_rfl) (by kernel_rfl) (by kernel_rfl) (fun _ _ => (V_sadd rfl rfl rfl (by first | omega | (simp [rqCells, Sl.v, opC, wkC, ivC, ltC, wtC]; done) | (simp [rqCells, Sl.v, opC, wkC, ivC, ltC, wtC]; omega) | (simp [rqCells, Sl.v, opC, wkC, ivC, ltC, wtC] at *; omega)))) ?_
             refine GH_take 2 rfl rfl rfl rfl (by kernel_rfl) (by kernel_rfl) (by kernel_rfl) (fun _ _ => (V_fieldAddr (fo := 14) rfl Tryd.underlying41 rfl infTellSs_39 rfl rfl rfl)) ?_
             refine GH_take 3 rfl rfl rfl rfl (by kernel_rfl) (by kernel_rfl) (by kernel_rfl) (fun _ _ => (V_load1 rfl rfl (mem_at 6 rfl) rfl Tryd.underlying39 rfl)) ?_
             refine GH_take 4 rfl rfl rfl rfl (by kernel_rfl) (by kernel_rfl) (by kernel_rfl) (fun _ _ => (V_move rfl rfl)) ?_
             first
               | refine GH_take 5 rfl rfl rfl rfl (by kernel_rfl) (by kernel_rfl) (by kernel_rfl) (fun _ _ => (V_indexAddrN (s := 2) rfl Tryd.underlying39 infTellSs_95 rfl rfl rfl rfl (by omega))) ?_
               | refine GH_take 5 rfl rfl rfl rfl (by kernel_rfl) (by kernel_rfl) (by kernel_rfl) (fun _ _ => (V_indexAddr (s := 2) rfl Tryd.underlying39 infTellSs_95 rfl rfl rfl (by omega) (by first | omega | (simp [rqCells, Sl.v, opC, wkC, ivC, ltC, wtC]; done) | (simp [rqCells, Sl.v, opC, wkC, ivC, ltC, wtC]; omega) | (simp [rqCells, Sl.v, opC, wkC, ivC, ltC, wtC] at *; omega)))) ?_
             refine GH_take 6 rfl rfl rfl rfl (by kernel_rfl) (by kernel_rfl) (by kernel_rfl) (fun _ _ => (V_fieldAddr (fo := _) rfl Tryd.underlying95 rfl infTellSs_9 rfl rfl rfl)) ?_
             refine GH_take 7 rfl rfl rfl rfl (by kernel_rfl) (by kernel_rfl) (by kernel_rfl) (fun _ _ => (V_load1 rfl rfl (mem_at 5 rfl) (nth_of (cell_at s14 wt_len hx14 0 (by omega) rfl)) Tryd.underlying9 rfl)) ?_
             refine GH_take 11 rfl rfl rfl rfl (by kernel_rfl) (by kernel_rfl) (by kernel_rfl) (fun _ _ => (V_fieldAddr (fo := 14) rfl Tryd.underlying41 rfl infTellSs_39 rfl rfl rfl)) ?_
             refine GH_take 12 rfl rfl rfl rfl (by kernel_rfl) (by kernel_rfl) (by kernel_rfl) (fun _ _ => (V_load1 rfl rfl (mem_at 6 rfl) rfl Tryd.underlying39 rfl)) ?_
             refine GH_take 13 rfl rfl rfl rfl (by kernel_rfl) (by kernel_rfl) (by kernel_rfl) (fun _ _ => (V_move rfl rfl)) ?_
             first
               | refine GH_take 14 rfl rfl rfl rfl (by kernel_rfl) (by kernel_rfl) (by kernel_rfl) (fun _ _ => (V_indexAddrN (s := 2) rfl Tryd.underlying39 infTellSs_95 rfl rfl rfl rfl (by omega))) ?_
               | refine GH_take 14 rfl rfl rfl rfl (by kernel_rfl) (by kernel_rfl) (by kernel_rfl) (fun _ _ => (V_indexAddr (s := 2) rfl Tryd.underlying39 infTellSs_95 rfl rfl rfl (by omega) (by first | omega | (simp [rqCells, Sl.v, opC, wkC, ivC, ltC, wtC]; done) | (simp [rqCells, Sl.v, opC, wkC, ivC, ltC, wtC]; omega) | (simp [rqCells, Sl.v, opC, wkC, ivC, ltC, wtC] at *; omega)))) ?_
             refine GH_take 15 rfl rfl rfl rfl (by kernel_rfl) (by kernel_rfl) (by kernel_rfl) (fun _ _ => (V_fieldAddr (fo := _ + 1) rfl Tryd.underlying95 rfl infTellSs_3 rfl rfl rfl)) ?_
             refine GH_take 16 rfl rfl rfl rfl (by kernel_rfl) (by kernel_rfl) (by kernel_rfl) (fun _ _ => (V_load1 rfl rfl (mem_at 5 rfl) (nth_of (cell_at s14 wt_len hx14 1 (by omega) rfl)) Tryd.underlying3 rfl)) ?_
             refine GH_all [8] (by kernel_rfl) (by decide) ?_
             refine (And.intro ?_ trivial)
             · skip
               refine GHop_call (L2 := [_]) rfl rfl rfl rfl rfl rfl Tryd.call10 (rtl_quote x14.s (by have := hk14.s1; omega)) [] [] rfl rfl [0] (by rintro v post ⟨rfl, rfl⟩; exact ⟨_, rfl⟩) ?_
               rintro v post ⟨rfl, rfl⟩
               show GH _ _ _ _ _ _ _ [_] _
               refine GH_take 9 rfl rfl rfl rfl (by kernel_rfl) (by kernel_rfl) (by kernel_rfl) (fun _ _ => (V_sadd rfl rfl rfl (by first | omega | (simp [rqCells, Sl.v, opC, wkC, ivC, ltC, wtC]; done) | (simp [rqCells, Sl.v, opC, wkC, ivC, ltC, wtC]; omega) | (simp [rqCells, Sl.v, opC, wkC, ivC, ltC, wtC] at *; omega)))) ?_
               refine GH_take 10 rfl rfl rfl rfl (by kernel_rfl) (by kernel_rfl) (by kernel_rfl) (fun _ _ => (V_sadd rfl rfl rfl (by first | omega | (simp [rqCells, Sl.v, opC, wkC, ivC, ltC, wtC]; done) | (simp [rqCells, Sl.v, opC, wkC, ivC, ltC, wtC]; omega) | (simp [rqCells, Sl.v, opC, wkC, ivC, ltC, wtC] at *; omega)))) ?_
               refine GH_all [17] (by kernel_rfl) (by decide) ?_
               refine (And.intro ?_ trivial)
               · skip
                 refine GHop_call (L2 := [_]) rfl rfl rfl rfl rfl rfl Tryd.call44 (rt_int x14.n hk14.n1.1 hk14.n1.2) [] [] rfl rfl [0] (by rintro v post ⟨rfl, rfl⟩; exact ⟨_, rfl⟩) ?_
                 rintro v post ⟨rfl, rfl⟩
                 show GH _ _ _ _ _ _ _ [_] _
                 refine GH_take 18 rfl rfl rfl rfl (by kernel_rfl) (by kernel_rfl) (by kernel_rfl) (fun _ _ => (V_sadd rfl rfl rfl (by first | omega | (simp [rqCells, Sl.v, opC, wkC, ivC, ltC, wtC]; done) | (simp [rqCells, Sl.v, opC, wkC, ivC, ltC, wtC]; omega) | (simp [rqCells, Sl.v, opC, wkC, ivC, ltC, wtC] at *; omega)))) ?_
                 refine GH_take 19 rfl rfl rfl rfl (by kernel_rfl) (by kernel_rfl) (by kernel_rfl) (fun _ _ => (V_sadd rfl rfl rfl (by first | omega | (simp [rqCells, Sl.v, opC, wkC, ivC, ltC, wtC]; done) | (simp [rqCells, Sl.v, opC, wkC, ivC, ltC, wtC]; omega) | (simp [rqCells, Sl.v, opC, wkC, ivC, ltC, wtC] at *; omega)))) ?_
                 refine GH_take 20 rfl rfl rfl rfl (by kernel_rfl) (by kernel_rfl) (by kernel_rfl) (fun _ _ => (V_assign rfl rfl)) ?_
                 refine GH_done (by kernel_rfl) ?_
                 refine G_inBlock ?_
                 rw [wt_step hx14]
                 refine G_region (l := [0, 1, 2]) rfl ?_
                 refine G_val rfl rfl rfl rfl (V_move rfl rfl) ?_
                 first
                   | refine G_val rfl rfl rfl rfl ((V_add rfl rfl rfl).int (wrap_i64 (by omega))) ?_
                   | refine G_val rfl rfl rfl rfl (V_add rfl rfl rfl) ?_
                 refine G_val rfl rfl rfl rfl (V_assign rfl rfl) ?_
                 refine G_done ?_
                 refine G_sub ?_ [0] ?_ (ih14 (i14 + 1) ?_ ?_)
                 · (refine (And.intro ?_ (And.intro ?_ (And.intro ?_ trivial))) <;> first | rfl | exact slot_int (by omega) | exact slot_int (by simp))
                 · exact ⟨_, rfl⟩
                 · omega
                 · (first | omega | (dsimp only; omega))
           refine G_exit rfl ?_
           refine G_seq ?_
           rw [List.take_of_length_le (show l14.length ≤ i14 by omega)]
           rw [show stT6 tk dr l7 l8 l9 l10 l13 ++ linesT wtParts l14 = stT7 tk dr l7 l8 l9 l10 l13 l14 from rfl]
           have hl7 : (stT7 tk dr l7 l8 l9 l10 l13 l14).length ≤ (stT6 tk dr l7 l8 l9 l10 l13).length + 5000007 * l14.length := by
             have := linesT_len (f := wtParts) (l := l14) (fun y hy => ⟨wt_sum (h14 y hy), by simp [wtParts]⟩)
             unfold stT7; rw [List.length_append]; omega
           refine G_region (l := [0, 1]) rfl ?_
           refine G_val rfl rfl rfl rfl (V_move rfl rfl) ?_
           refine G_val rfl rfl rfl rfl (V_assign rfl rfl) ?_
           refine G_done ?_
           refine G_ret (post := []) Tryd.func18 rfl (RVs_cons (RV_tmp rfl) RVs_nil) [] rfl ?_
           dsimp only [packed]
           exact ⟨rfl, rfl⟩

end
end Go.Proofs.YtjnaeoelnmhjfaaDoor

/- What waits, cell by cell: slices inside slices. -/
set_option linter.unusedSimpArgs false
set_option linter.unusedVariables false
namespace Go.Proofs.YtjnaeoelnmhjfaaDoor
open Go Go.RowKit

section



/-- A slice inside a slice. -/
structure Ins (α : Type) where
  p : Option Addr
  ob : Option Nat
  off : Nat
  cap : Nat
  cs : Array Value
  T : TypeId
  fr : Nat × Nat
  l : List α
def insK {α : Type} (s : Ins α) : Option Nat × Obj := (s.ob, .cells s.cs s.T s.fr)
def insV {α : Type} (s : Ins α) : Value := .slice s.p s.l.length s.cap
structure InsOk {α : Type} (sz : Nat) (f : α → List Value) (s : Ins α) : Prop where
  le : s.l.length ≤ s.cap
  max : s.cap ≤ 9223372036854775807
  n : s.l.length ≤ 1048576
  sees : (s.p = s.ob.map (fun b => ⟨b, s.off, none⟩) ∧ Sees sz s.ob s.off s.cap s.cs (s.l.flatMap f) s.l.length) ∨ (s.l = [] ∧ s.cap = 0)
theorem InsOk.isS {α : Type} {sz : Nat} {f : α → List Value} {s : Ins α} (h : InsOk sz f s) {i : Nat} (hi : i < s.l.length) : ∃ b, s.p = some ⟨b, s.off, none⟩ ∧ s.ob = some b ∧ Sees sz (some b) s.off s.cap s.cs (s.l.flatMap f) s.l.length := by
  rcases h.sees with ⟨h1, h2⟩ | ⟨h1, h2⟩
  · obtain ⟨b, hb⟩ := h2.isSome (by omega)
    refine ⟨b, by rw [h1, hb]; rfl, hb, ?_⟩
    rw [hb] at h2; exact h2
  · rw [h1] at hi; simp at hi
theorem insK_at {α : Type} {s : Ins α} {b : Nat} (h : s.ob = some b) : insK s = (some b, .cells s.cs s.T s.fr) := by unfold insK; rw [h]
/-- Two numbers. -/
def i2C (x : Int × Int) : List Value := [.int .i64 x.1, .int .i64 x.2]
theorem i2_len (x : Int × Int) : (i2C x).length = 2 := rfl
def in63 (x : Int) : Prop := -9223372036854775808 ≤ x ∧ x ≤ 9223372036854775807
/-- An invocation that waits. -/
structure Fr where
  a : Int × Int × Int
  s : Ins (Int × Int)
def frC (x : Fr) : List Value := [.int .i64 x.a.1, .int .i64 x.a.2.1, .int .i64 x.a.2.2, .slice x.s.p x.s.l.length x.s.cap]
theorem fr_len (x : Fr) : (frC x).length = 4 := rfl
structure FrOk (x : Fr) : Prop where
  a1 : in63 x.a.1
  a2 : in63 x.a.2.1
  a3 : in63 x.a.2.2
  s : InsOk 2 i2C x.s
  i : ∀ y ∈ x.s.l, in63 y.1 ∧ in63 y.2
def frK (x : Fr) : Option Nat × Obj := insK x.s
/-- A tenant that waits, as the document has it. -/
structure Tr where
  a : Int × Int × Int
  q : Int
  s : Ins Fr
  g : Bool
def trC (x : Tr) : List Value := [.int .i64 x.a.1, .int .i64 x.a.2.1, .int .i64 x.a.2.2, .int .i64 x.q, .slice x.s.p x.s.l.length x.s.cap, .bool x.g]
theorem tr_len (x : Tr) : (trC x).length = 6 := rfl
structure TrOk (x : Tr) : Prop where
  a1 : in63 x.a.1
  a2 : in63 x.a.2.1
  a3 : in63 x.a.2.2
  q : in63 x.q
  s : InsOk 4 frC x.s
  i : ∀ y ∈ x.s.l, FrOk y
def trK (x : Tr) : List (Option Nat × Obj) := insK x.s :: x.s.l.map frK
/-- A share. -/
structure Sr where
  q : Int
  s : Ins Tr
  g : Bool
def srC (x : Sr) : List Value := [.int .i64 x.q, .slice x.s.p x.s.l.length x.s.cap, .bool x.g]
theorem sr_len (x : Sr) : (srC x).length = 3 := rfl
structure SrOk (x : Sr) : Prop where
  q : in63 x.q
  s : InsOk 6 trC x.s
  i : ∀ y ∈ x.s.l, TrOk y
def srK (x : Sr) : List (Option Nat × Obj) := insK x.s :: x.s.l.flatMap trK
def i1C (x : Int) : List Value := [.int .i64 x]
theorem i1_len (x : Int) : (i1C x).length = 1 := rfl
/-- A need. -/
structure Pr where
  n : List UInt8
  u : Int
  v : Ins Int
  s : Ins Sr
def prC (x : Pr) : List Value := [.string (bs x.n), .int .i64 x.u, .slice x.v.p x.v.l.length x.v.cap, .slice x.s.p x.s.l.length x.s.cap]
theorem pr_len (x : Pr) : (prC x).length = 4 := rfl
structure PrOk (x : Pr) : Prop where
  n : x.n.length ≤ 1048576
  u : in63 x.u
  v : InsOk 1 i1C x.v
  j : ∀ y ∈ x.v.l, in63 y
  s : InsOk 3 srC x.s
  i : ∀ y ∈ x.s.l, SrOk y
def prK (x : Pr) : List (Option Nat × Obj) := insK x.v :: insK x.s :: x.s.l.flatMap srK
section
variable {f : Fr} {t : Tr} {s : Sr} {p : Pr} {l : List Pr} {z : Option Nat × Obj}
theorem in_tr0 : insK t.s ∈ trK t := List.mem_cons_self
theorem in_sr0 : insK s.s ∈ srK s := List.mem_cons_self
theorem in_sr (ht : t ∈ s.s.l) (hz : z ∈ trK t) : z ∈ srK s := List.mem_cons_of_mem _ (List.mem_flatMap.2 ⟨t, ht, hz⟩)
theorem in_pr1 : insK p.s ∈ prK p := List.mem_cons_of_mem _ List.mem_cons_self
theorem in_pr (hs : s ∈ p.s.l) (hz : z ∈ srK s) : z ∈ prK p := List.mem_cons_of_mem _ (List.mem_cons_of_mem _ (List.mem_flatMap.2 ⟨s, hs, hz⟩))
theorem in_ps (hp : p ∈ l) (hz : z ∈ prK p) : z ∈ l.flatMap prK := List.mem_flatMap.2 ⟨p, hp, hz⟩
end

end
end Go.Proofs.YtjnaeoelnmhjfaaDoor

/- billetlaw35.To: what tell.State is told; the pools are not looked at. -/
set_option linter.unusedSimpArgs false
set_option linter.unusedVariables false
namespace Go.Proofs.YtjnaeoelnmhjfaaDoor
open Go Go.Shelf Go.RowKit

section
theorem infTellTo_3 : Tryd.prog.info? 3 = some Tryd.t3 := by kernel_rfl
theorem infTellTo_4 : Tryd.prog.info? 4 = some Tryd.t4 := by kernel_rfl
theorem infTellTo_9 : Tryd.prog.info? 9 = some Tryd.t9 := by kernel_rfl
theorem infTellTo_32 : Tryd.prog.info? 32 = some Tryd.t32 := by kernel_rfl
theorem infTellTo_33 : Tryd.prog.info? 33 = some Tryd.t33 := by kernel_rfl
theorem infTellTo_34 : Tryd.prog.info? 34 = some Tryd.t34 := by kernel_rfl
theorem infTellTo_35 : Tryd.prog.info? 35 = some Tryd.t35 := by kernel_rfl
theorem infTellTo_36 : Tryd.prog.info? 36 = some Tryd.t36 := by kernel_rfl
theorem infTellTo_37 : Tryd.prog.info? 37 = some Tryd.t37 := by kernel_rfl
theorem infTellTo_38 : Tryd.prog.info? 38 = some Tryd.t38 := by kernel_rfl
theorem infTellTo_39 : Tryd.prog.info? 39 = some Tryd.t39 := by kernel_rfl
theorem infTellTo_46 : Tryd.prog.info? 46 = some Tryd.t46 := by kernel_rfl
theorem infTellTo_68 : Tryd.prog.info? 68 = some Tryd.t68 := by kernel_rfl
theorem infTellTo_72 : Tryd.prog.info? 72 = some Tryd.t72 := by kernel_rfl
theorem infTellTo_74 : Tryd.prog.info? 74 = some Tryd.t74 := by kernel_rfl
theorem infTellTo_76 : Tryd.prog.info? 76 = some Tryd.t76 := by kernel_rfl
theorem infTellTo_78 : Tryd.prog.info? 78 = some Tryd.t78 := by kernel_rfl
theorem infTellTo_110 : Tryd.prog.info? 110 = some Tryd.t110 := by kernel_rfl
theorem infTellTo_112 : Tryd.prog.info? 112 = some Tryd.t112 := by kernel_rfl
theorem infTellTo_114 : Tryd.prog.info? 114 = some Tryd.t114 := by kernel_rfl
theorem infTellTo_115 : Tryd.prog.info? 115 = some Tryd.t115 := by kernel_rfl
theorem infTellTo_117 : Tryd.prog.info? 117 = some Tryd.t117 := by kernel_rfl
theorem infTellTo_119 : Tryd.prog.info? 119 = some Tryd.t119 := by kernel_rfl
theorem infTellTo_120 : Tryd.prog.info? 120 = some Tryd.t120 := by kernel_rfl
theorem infTellTo_122 : Tryd.prog.info? 122 = some Tryd.t122 := by kernel_rfl
theorem infTellTo_123 : Tryd.prog.info? 123 = some Tryd.t123 := by kernel_rfl
theorem infTellTo_138 : Tryd.prog.info? 138 = some Tryd.t138 := by kernel_rfl
theorem infTellTo_147 : Tryd.prog.info? 147 = some Tryd.t147 := by kernel_rfl
theorem plcTellTo_46 : placesOf Tryd.prog (Tryd.prog.fieldsOf 46) = some [(0, 1), (1, 1), (2, 1), (3, 1), (4, 1), (5, 1), (6, 1), (7, 1), (8, 1), (9, 1), (10, 1), (11, 1), (12, 1), (13, 1), (14, 1)] := by kernel_rfl
theorem plcTellTo_122 : placesOf Tryd.prog (Tryd.prog.fieldsOf 122) = some [(0, 1), (1, 1), (2, 1), (3, 1), (4, 1)] := by kernel_rfl
theorem plcTellTo_138 : placesOf Tryd.prog (Tryd.prog.fieldsOf 138) = some [(0, 1), (1, 1), (2, 1), (3, 1), (4, 1)] := by kernel_rfl
theorem plcTellTo_147 : placesOf Tryd.prog (Tryd.prog.fieldsOf 147) = some [(0, 1), (1, 1), (2, 1), (3, 1)] := by kernel_rfl

set_option maxRecDepth 100000 in
set_option maxHeartbeats 1000000 in
theorem to_flows (p : Option Addr) (ob : Option Nat) (off cap : Nat) (cs : Array Value) (T : TypeId) (fr : Nat × Nat) (l : List Fr) (h : InsOk 4 frC ⟨p, ob, off, cap, cs, T, fr, l⟩) :
    Ct Tryd.prog 67 [.slice p l.length cap] [(ob, .cells cs T fr)] [] fun v post => (∃ p n q, v = .slice p n q) ∧ post = [] := by
 have hl1 := h.le
 have hl2 := h.max
 have hln := h.n
 simp only at hl1 hl2 hln
 refine ct_of Tryd.func67 rfl rfl (fun w0 => ?_)
 show G _ _ [(0, _)] _ _
 refine G_seq ?_
 refine G_region (l := [0]) rfl ?_
 refine G_val rfl rfl rfl rfl (V_assign rfl rfl) ?_
 refine G_done ?_
 refine G_seq ?_
 refine G_region (l := [0, 1]) rfl ?_
 refine G_new rfl rfl rfl rfl (N_build0 rfl Tryd.underlying135 infTellTo_147) (fun b5 => ?_)
 refine G_val rfl rfl rfl rfl (V_assign rfl rfl) ?_
 refine G_done ?_
 refine G_seq ?_
 refine G_seq ?_
 refine G_region (l := [0]) rfl ?_
 refine G_val rfl rfl rfl rfl (V_assign rfl rfl) ?_
 refine G_done ?_
 refine G_block ?_
 refine G_sub ?he3 [0] ?hl3 (G_loop (X := Nat × Sl × List Value) (fun y => match y with | ⟨i, u, xs⟩ => i ≤ l.length ∧ Own 4 u xs i) (fun y => match y with | ⟨i, u, xs⟩ => l.length - i) (fun y => match y with | ⟨i, u, xs⟩ => [(0, .slice p l.length cap), (3, u.v i), (4, .int .i64 (i : Int))]) (fun y => match y with | ⟨i, u, xs⟩ => [(u.ob, .cells u.cs 147 u.fz)]) ?round3 (0, ⟨some b5, #[], (0, 0), 0⟩, []) ?h03)
 case he3 => exact (And.intro rfl (And.intro rfl (And.intro rfl trivial)))
 case hl3 => exact ⟨_, rfl⟩
 case h03 => exact ⟨Nat.zero_le _, own_empty 4 b5⟩
 case round3 =>
  intro y hJ ih
  try dsimp only at hJ ih
  obtain ⟨i, u, xs⟩ := y
  try dsimp only at hJ ih
  obtain ⟨hi, hux⟩ := hJ
  show G _ _ [(0, .slice p l.length cap), (3, u.v i), (4, .int .i64 (i : Int))] [(u.ob, .cells u.cs 147 u.fz)] _
  refine G_seq ?_
  refine G_seq ?_
  refine G_region (l := [0, 1, 2, 3]) rfl ?_
  refine G_val rfl rfl rfl rfl (V_move rfl rfl) ?_
  refine G_val rfl rfl rfl rfl (V_move rfl rfl) ?_
  refine G_val rfl rfl rfl rfl (V_len rfl rfl Tryd.underlying110 rfl) ?_
  refine G_val rfl rfl rfl rfl (V_lss rfl rfl rfl) ?_
  refine G_done ?_
  refine G_ifD rfl (fun hc1 => ?_) (fun hc1 => ?_)
  · skip
    refine G_skip ?_
    refine G_seq ?_
    refine G_block ?_
    obtain ⟨x, hx⟩ := getI (show i < l.length by omega)
    obtain ⟨bi, hbi1, hbi2, hs⟩ := h.isS (i := i) (by show i < l.length; omega)
    simp only at hbi1 hbi2 hs
    subst hbi1 hbi2
    refine GH_start (Lq := []) (isq := []) (m := 25) mixedK rfl rfl ?_
    refine GH_take 0 rfl rfl rfl rfl (by kernel_rfl) (by kernel_rfl) (by kernel_rfl) (fun _ _ => (V_move rfl rfl)) ?_
    refine GH_take 1 rfl rfl rfl rfl (by kernel_rfl) (by kernel_rfl) (by kernel_rfl) (fun _ _ => (V_move rfl rfl)) ?_
    refine GH_take 2 rfl rfl rfl rfl (by kernel_rfl) (by kernel_rfl) (by kernel_rfl) (fun _ _ => (V_move rfl rfl)) ?_
    first
      | refine GH_take 3 rfl rfl rfl rfl (by kernel_rfl) (by kernel_rfl) (by kernel_rfl) (fun _ _ => (V_indexAddrN (s := 4) rfl Tryd.underlying110 infTellTo_117 rfl rfl rfl rfl (by omega))) ?_
      | refine GH_take 3 rfl rfl rfl rfl (by kernel_rfl) (by kernel_rfl) (by kernel_rfl) (fun _ _ => (V_indexAddr (s := 4) rfl Tryd.underlying110 infTellTo_117 rfl rfl rfl (by omega) (by first | omega | (simp [rqCells, Sl.v, opC, wkC, ivC, ltC, wtC, sv, frC, trC, srC, prC]; done) | (simp [rqCells, Sl.v, opC, wkC, ivC, ltC, wtC, sv, frC, trC, srC, prC]; omega) | (simp [rqCells, Sl.v, opC, wkC, ivC, ltC, wtC, sv, frC, trC, srC, prC] at *; omega)))) ?_
    refine GH_take 4 rfl rfl rfl rfl (by kernel_rfl) (by kernel_rfl) (by kernel_rfl) (fun _ _ => (V_fieldAddr (fo := _) rfl Tryd.underlying117 rfl infTellTo_3 rfl rfl rfl)) ?_
    refine GH_take 5 rfl rfl rfl rfl (by kernel_rfl) (by kernel_rfl) (by kernel_rfl) (fun _ _ => (V_load1 rfl rfl (mem_at 0 rfl) (nth_of (cell_at hs fr_len hx 0 (by omega) rfl)) Tryd.underlying3 rfl)) ?_
    refine GH_take 6 rfl rfl rfl rfl (by kernel_rfl) (by kernel_rfl) (by kernel_rfl) (fun _ _ => (V_move rfl rfl)) ?_
    refine GH_take 7 rfl rfl rfl rfl (by kernel_rfl) (by kernel_rfl) (by kernel_rfl) (fun _ _ => (V_move rfl rfl)) ?_
    first
      | refine GH_take 8 rfl rfl rfl rfl (by kernel_rfl) (by kernel_rfl) (by kernel_rfl) (fun _ _ => (V_indexAddrN (s := 4) rfl Tryd.underlying110 infTellTo_117 rfl rfl rfl rfl (by omega))) ?_
      | refine GH_take 8 rfl rfl rfl rfl (by kernel_rfl) (by kernel_rfl) (by kernel_rfl) (fun _ _ => (V_indexAddr (s := 4) rfl Tryd.underlying110 infTellTo_117 rfl rfl rfl (by omega) (by first | omega | (simp [rqCells, Sl.v, opC, wkC, ivC, ltC, wtC, sv, frC, trC, srC, prC]; done) | (simp [rqCells, Sl.v, opC, wkC, ivC, ltC, wtC, sv, frC, trC, srC, prC]; omega) | (simp [rqCells, Sl.v, opC, wkC, ivC, ltC, wtC, sv, frC, trC, srC, prC] at *; omega)))) ?_
    refine GH_take 9 rfl rfl rfl rfl (by kernel_rfl) (by kernel_rfl) (by kernel_rfl) (fun _ _ => (V_fieldAddr (fo := _ + 1) rfl Tryd.underlying117 rfl infTellTo_3 rfl rfl rfl)) ?_
    refine GH_take 10 rfl rfl rfl rfl (by kernel_rfl) (by kernel_rfl) (by kernel_rfl) (fun _ _ => (V_load1 rfl rfl (mem_at 0 rfl) (nth_of (cell_at hs fr_len hx 1 (by omega) rfl)) Tryd.underlying3 rfl)) ?_
    refine GH_take 11 rfl rfl rfl rfl (by kernel_rfl) (by kernel_rfl) (by kernel_rfl) (fun _ _ => (V_move rfl rfl)) ?_
    refine GH_take 12 rfl rfl rfl rfl (by kernel_rfl) (by kernel_rfl) (by kernel_rfl) (fun _ _ => (V_move rfl rfl)) ?_
    first
      | refine GH_take 13 rfl rfl rfl rfl (by kernel_rfl) (by kernel_rfl) (by kernel_rfl) (fun _ _ => (V_indexAddrN (s := 4) rfl Tryd.underlying110 infTellTo_117 rfl rfl rfl rfl (by omega))) ?_
      | refine GH_take 13 rfl rfl rfl rfl (by kernel_rfl) (by kernel_rfl) (by kernel_rfl) (fun _ _ => (V_indexAddr (s := 4) rfl Tryd.underlying110 infTellTo_117 rfl rfl rfl (by omega) (by first | omega | (simp [rqCells, Sl.v, opC, wkC, ivC, ltC, wtC, sv, frC, trC, srC, prC]; done) | (simp [rqCells, Sl.v, opC, wkC, ivC, ltC, wtC, sv, frC, trC, srC, prC]; omega) | (simp [rqCells, Sl.v, opC, wkC, ivC, ltC, wtC, sv, frC, trC, srC, prC] at *; omega)))) ?_
    refine GH_take 14 rfl rfl rfl rfl (by kernel_rfl) (by kernel_rfl) (by kernel_rfl) (fun _ _ => (V_fieldAddr (fo := _ + 2) rfl Tryd.underlying117 rfl infTellTo_3 rfl rfl rfl)) ?_
    refine GH_take 15 rfl rfl rfl rfl (by kernel_rfl) (by kernel_rfl) (by kernel_rfl) (fun _ _ => (V_load1 rfl rfl (mem_at 0 rfl) (nth_of (cell_at hs fr_len hx 2 (by omega) rfl)) Tryd.underlying3 rfl)) ?_
    refine GH_take 16 rfl rfl rfl rfl (by kernel_rfl) (by kernel_rfl) (by kernel_rfl) (fun _ _ => (V_move rfl rfl)) ?_
    refine GH_take 17 rfl rfl rfl rfl (by kernel_rfl) (by kernel_rfl) (by kernel_rfl) (fun _ _ => (V_move rfl rfl)) ?_
    first
      | refine GH_take 18 rfl rfl rfl rfl (by kernel_rfl) (by kernel_rfl) (by kernel_rfl) (fun _ _ => (V_indexAddrN (s := 4) rfl Tryd.underlying110 infTellTo_117 rfl rfl rfl rfl (by omega))) ?_
      | refine GH_take 18 rfl rfl rfl rfl (by kernel_rfl) (by kernel_rfl) (by kernel_rfl) (fun _ _ => (V_indexAddr (s := 4) rfl Tryd.underlying110 infTellTo_117 rfl rfl rfl (by omega) (by first | omega | (simp [rqCells, Sl.v, opC, wkC, ivC, ltC, wtC, sv, frC, trC, srC, prC]; done) | (simp [rqCells, Sl.v, opC, wkC, ivC, ltC, wtC, sv, frC, trC, srC, prC]; omega) | (simp [rqCells, Sl.v, opC, wkC, ivC, ltC, wtC, sv, frC, trC, srC, prC] at *; omega)))) ?_
    refine GH_take 19 rfl rfl rfl rfl (by kernel_rfl) (by kernel_rfl) (by kernel_rfl) (fun _ _ => (V_fieldAddr (fo := _ + 3) rfl Tryd.underlying117 rfl infTellTo_115 rfl rfl rfl)) ?_
    refine GH_take 20 rfl rfl rfl rfl (by kernel_rfl) (by kernel_rfl) (by kernel_rfl) (fun _ _ => (V_load1 rfl rfl (mem_at 0 rfl) (nth_of (cell_at hs fr_len hx 3 (by omega) rfl)) Tryd.underlying115 rfl)) ?_
    refine GH_take 21 rfl rfl rfl rfl (by kernel_rfl) (by kernel_rfl) (by kernel_rfl) (fun _ _ => (V_buildS (cs := [_, _, _, _]) rfl Tryd.underlying147 infTellTo_147 rfl plcTellTo_147 rfl rfl rfl)) ?_
    refine GH_all [22] (by kernel_rfl) (by decide) ?_
    refine (And.intro ?_ trivial)
    · skip
      refine GHop_new rfl rfl rfl rfl (N_buildAll (s := 4) (cs := [_, _, _, _]) rfl Tryd.underlying135 infTellTo_147 rfl rfl rfl rfl rfl rfl rfl rfl rfl) [] (fun _ => ⟨_, rfl⟩) (fun b34 => ?_)
      refine GH_all [23] (by kernel_rfl) (by decide) ?_
      refine (And.intro ?_ trivial)
      · skip
        refine GHop_append (l1 := [_]) (s := u) (nn := i) (m := 1) (news := (frC x)) (bt := 48) rfl rfl rfl rfl Tryd.underlying135 Tryd.underlying135 (by first | exact .inl rfl | exact .inr ⟨_, rfl⟩) infTellTo_147 rfl rfl rfl rfl rfl rfl hux rfl (src_mem (mem_at 1 rfl) rfl rfl (by simp [frC, Value.oneCell'])) (by omega) (by omega) [] (fun _ => ⟨_, rfl⟩) ?_
        intro u1 hu1 _
        show GH _ _ _ _ _ _ _ [_, _] _
        refine GH_take 24 rfl rfl rfl rfl (by kernel_rfl) (by kernel_rfl) (by kernel_rfl) (fun _ _ => (V_assign rfl rfl)) ?_
        refine GH_done (by kernel_rfl) ?_
        refine G_inBlock ?_
        refine G_region (l := [0, 1, 2]) rfl ?_
        refine G_val rfl rfl rfl rfl (V_move rfl rfl) ?_
        first
          | refine G_val rfl rfl rfl rfl ((V_add rfl rfl rfl).int (wrap_i64 (by omega))) ?_
          | refine G_val rfl rfl rfl rfl (V_add rfl rfl rfl) ?_
        refine G_val rfl rfl rfl rfl (V_assign rfl rfl) ?_
        refine G_done ?_
        refine G_sub ?_ [1] ?_ (ih (i + 1, u1, xs ++ frC x) ?_ ?_)
        · (refine (And.intro ?_ (And.intro ?_ (And.intro ?_ trivial))) <;> first | rfl | exact slot_int (by omega) | exact slot_int (by simp))
        · exact ⟨_, rfl⟩
        · exact ⟨by omega, hu1⟩
        · (first | omega | (dsimp only; omega))
  refine G_exit rfl ?_
  refine G_seq ?_
  refine G_region (l := [0, 1]) rfl ?_
  refine G_val rfl rfl rfl rfl (V_move rfl rfl) ?_
  refine G_val rfl rfl rfl rfl (V_assign rfl rfl) ?_
  refine G_done ?_
  refine G_ret (post := []) Tryd.func67 rfl (RVs_cons (RV_tmp rfl) RVs_nil) [] rfl ?_
  dsimp only [packed]
  exact ⟨⟨_, _, _, rfl⟩, rfl⟩

set_option maxRecDepth 100000 in
set_option maxHeartbeats 1000000 in
theorem to_shares (p : Option Addr) (ob : Option Nat) (off cap : Nat) (cs : Array Value) (T : TypeId) (fr : Nat × Nat) (l : List Tr) (h : InsOk 6 trC ⟨p, ob, off, cap, cs, T, fr, l⟩) (hok : ∀ x ∈ l, TrOk x) :
    Ct Tryd.prog 56 [.slice p l.length cap] ((ob, .cells cs T fr) :: l.flatMap trK) [] fun v post => (∃ p n q, v = .slice p n q) ∧ post = [] := by
 have hl1 := h.le
 have hl2 := h.max
 have hln := h.n
 simp only at hl1 hl2 hln
 refine ct_of Tryd.func56 rfl rfl (fun w0 => ?_)
 show G _ _ [(0, _)] _ _
 refine G_seq ?_
 refine G_region (l := [0]) rfl ?_
 refine G_val rfl rfl rfl rfl (V_assign rfl rfl) ?_
 refine G_done ?_
 refine G_seq ?_
 refine G_region (l := [0, 1]) rfl ?_
 refine G_new rfl rfl rfl rfl (N_build0 rfl Tryd.underlying123 infTellTo_138) (fun b5 => ?_)
 refine G_val rfl rfl rfl rfl (V_assign rfl rfl) ?_
 refine G_done ?_
 refine G_seq ?_
 refine G_seq ?_
 refine G_region (l := [0]) rfl ?_
 refine G_val rfl rfl rfl rfl (V_assign rfl rfl) ?_
 refine G_done ?_
 refine G_block ?_
 refine G_sub ?he3 [0] ?hl3 (G_loop (X := Nat × Sl × List Value) (fun y => match y with | ⟨i, u, xs⟩ => i ≤ l.length ∧ Own 5 u xs i) (fun y => match y with | ⟨i, u, xs⟩ => l.length - i) (fun y => match y with | ⟨i, u, xs⟩ => [(0, .slice p l.length cap), (3, u.v i), (4, .int .i64 (i : Int))]) (fun y => match y with | ⟨i, u, xs⟩ => [(u.ob, .cells u.cs 138 u.fz)]) ?round3 (0, ⟨some b5, #[], (0, 0), 0⟩, []) ?h03)
 case he3 => exact (And.intro rfl (And.intro rfl (And.intro rfl trivial)))
 case hl3 => exact ⟨_, rfl⟩
 case h03 => exact ⟨Nat.zero_le _, own_empty 5 b5⟩
 case round3 =>
  intro y hJ ih
  try dsimp only at hJ ih
  obtain ⟨i, u, xs⟩ := y
  try dsimp only at hJ ih
  obtain ⟨hi, hux⟩ := hJ
  show G _ _ [(0, .slice p l.length cap), (3, u.v i), (4, .int .i64 (i : Int))] [(u.ob, .cells u.cs 138 u.fz)] _
  refine G_seq ?_
  refine G_seq ?_
  refine G_region (l := [0, 1, 2, 3]) rfl ?_
  refine G_val rfl rfl rfl rfl (V_move rfl rfl) ?_
  refine G_val rfl rfl rfl rfl (V_move rfl rfl) ?_
  refine G_val rfl rfl rfl rfl (V_len rfl rfl Tryd.underlying76 rfl) ?_
  refine G_val rfl rfl rfl rfl (V_lss rfl rfl rfl) ?_
  refine G_done ?_
  refine G_ifD rfl (fun hc1 => ?_) (fun hc1 => ?_)
  · skip
    refine G_skip ?_
    refine G_seq ?_
    refine G_block ?_
    obtain ⟨x, hx⟩ := getI (show i < l.length by omega)
    obtain ⟨bi, hbi1, hbi2, hs⟩ := h.isS (i := i) (by show i < l.length; omega)
    simp only at hbi1 hbi2 hs
    subst hbi1 hbi2
    have hxo := hok x (List.mem_of_getElem? hx)
    refine GH_start (Lq := []) (isq := []) (m := 33) mixedK rfl rfl ?_
    refine GH_take 0 rfl rfl rfl rfl (by kernel_rfl) (by kernel_rfl) (by kernel_rfl) (fun _ _ => (V_move rfl rfl)) ?_
    refine GH_take 1 rfl rfl rfl rfl (by kernel_rfl) (by kernel_rfl) (by kernel_rfl) (fun _ _ => (V_move rfl rfl)) ?_
    refine GH_take 2 rfl rfl rfl rfl (by kernel_rfl) (by kernel_rfl) (by kernel_rfl) (fun _ _ => (V_move rfl rfl)) ?_
    first
      | refine GH_take 3 rfl rfl rfl rfl (by kernel_rfl) (by kernel_rfl) (by kernel_rfl) (fun _ _ => (V_indexAddrN (s := 6) rfl Tryd.underlying76 infTellTo_114 rfl rfl rfl rfl (by omega))) ?_
      | refine GH_take 3 rfl rfl rfl rfl (by kernel_rfl) (by kernel_rfl) (by kernel_rfl) (fun _ _ => (V_indexAddr (s := 6) rfl Tryd.underlying76 infTellTo_114 rfl rfl rfl (by omega) (by first | omega | (simp [rqCells, Sl.v, opC, wkC, ivC, ltC, wtC, sv, frC, trC, srC, prC]; done) | (simp [rqCells, Sl.v, opC, wkC, ivC, ltC, wtC, sv, frC, trC, srC, prC]; omega) | (simp [rqCells, Sl.v, opC, wkC, ivC, ltC, wtC, sv, frC, trC, srC, prC] at *; omega)))) ?_
    refine GH_take 4 rfl rfl rfl rfl (by kernel_rfl) (by kernel_rfl) (by kernel_rfl) (fun _ _ => (V_fieldAddr (fo := _) rfl Tryd.underlying114 rfl infTellTo_3 rfl rfl rfl)) ?_
    refine GH_take 5 rfl rfl rfl rfl (by kernel_rfl) (by kernel_rfl) (by kernel_rfl) (fun _ _ => (V_load1 rfl rfl (List.mem_append_left _ (mem_at 0 rfl)) (nth_of (cell_at hs tr_len hx 0 (by omega) rfl)) Tryd.underlying3 rfl)) ?_
    refine GH_take 6 rfl rfl rfl rfl (by kernel_rfl) (by kernel_rfl) (by kernel_rfl) (fun _ _ => (V_move rfl rfl)) ?_
    refine GH_take 7 rfl rfl rfl rfl (by kernel_rfl) (by kernel_rfl) (by kernel_rfl) (fun _ _ => (V_move rfl rfl)) ?_
    first
      | refine GH_take 8 rfl rfl rfl rfl (by kernel_rfl) (by kernel_rfl) (by kernel_rfl) (fun _ _ => (V_indexAddrN (s := 6) rfl Tryd.underlying76 infTellTo_114 rfl rfl rfl rfl (by omega))) ?_
      | refine GH_take 8 rfl rfl rfl rfl (by kernel_rfl) (by kernel_rfl) (by kernel_rfl) (fun _ _ => (V_indexAddr (s := 6) rfl Tryd.underlying76 infTellTo_114 rfl rfl rfl (by omega) (by first | omega | (simp [rqCells, Sl.v, opC, wkC, ivC, ltC, wtC, sv, frC, trC, srC, prC]; done) | (simp [rqCells, Sl.v, opC, wkC, ivC, ltC, wtC, sv, frC, trC, srC, prC]; omega) | (simp [rqCells, Sl.v, opC, wkC, ivC, ltC, wtC, sv, frC, trC, srC, prC] at *; omega)))) ?_
    refine GH_take 9 rfl rfl rfl rfl (by kernel_rfl) (by kernel_rfl) (by kernel_rfl) (fun _ _ => (V_fieldAddr (fo := _ + 1) rfl Tryd.underlying114 rfl infTellTo_3 rfl rfl rfl)) ?_
    refine GH_take 10 rfl rfl rfl rfl (by kernel_rfl) (by kernel_rfl) (by kernel_rfl) (fun _ _ => (V_load1 rfl rfl (List.mem_append_left _ (mem_at 0 rfl)) (nth_of (cell_at hs tr_len hx 1 (by omega) rfl)) Tryd.underlying3 rfl)) ?_
    refine GH_take 11 rfl rfl rfl rfl (by kernel_rfl) (by kernel_rfl) (by kernel_rfl) (fun _ _ => (V_move rfl rfl)) ?_
    refine GH_take 12 rfl rfl rfl rfl (by kernel_rfl) (by kernel_rfl) (by kernel_rfl) (fun _ _ => (V_move rfl rfl)) ?_
    first
      | refine GH_take 13 rfl rfl rfl rfl (by kernel_rfl) (by kernel_rfl) (by kernel_rfl) (fun _ _ => (V_indexAddrN (s := 6) rfl Tryd.underlying76 infTellTo_114 rfl rfl rfl rfl (by omega))) ?_
      | refine GH_take 13 rfl rfl rfl rfl (by kernel_rfl) (by kernel_rfl) (by kernel_rfl) (fun _ _ => (V_indexAddr (s := 6) rfl Tryd.underlying76 infTellTo_114 rfl rfl rfl (by omega) (by first | omega | (simp [rqCells, Sl.v, opC, wkC, ivC, ltC, wtC, sv, frC, trC, srC, prC]; done) | (simp [rqCells, Sl.v, opC, wkC, ivC, ltC, wtC, sv, frC, trC, srC, prC]; omega) | (simp [rqCells, Sl.v, opC, wkC, ivC, ltC, wtC, sv, frC, trC, srC, prC] at *; omega)))) ?_
    refine GH_take 14 rfl rfl rfl rfl (by kernel_rfl) (by kernel_rfl) (by kernel_rfl) (fun _ _ => (V_fieldAddr (fo := _ + 2) rfl Tryd.underlying114 rfl infTellTo_3 rfl rfl rfl)) ?_
    refine GH_take 15 rfl rfl rfl rfl (by kernel_rfl) (by kernel_rfl) (by kernel_rfl) (fun _ _ => (V_load1 rfl rfl (List.mem_append_left _ (mem_at 0 rfl)) (nth_of (cell_at hs tr_len hx 2 (by omega) rfl)) Tryd.underlying3 rfl)) ?_
    refine GH_take 16 rfl rfl rfl rfl (by kernel_rfl) (by kernel_rfl) (by kernel_rfl) (fun _ _ => (V_move rfl rfl)) ?_
    refine GH_take 17 rfl rfl rfl rfl (by kernel_rfl) (by kernel_rfl) (by kernel_rfl) (fun _ _ => (V_move rfl rfl)) ?_
    first
      | refine GH_take 18 rfl rfl rfl rfl (by kernel_rfl) (by kernel_rfl) (by kernel_rfl) (fun _ _ => (V_indexAddrN (s := 6) rfl Tryd.underlying76 infTellTo_114 rfl rfl rfl rfl (by omega))) ?_
      | refine GH_take 18 rfl rfl rfl rfl (by kernel_rfl) (by kernel_rfl) (by kernel_rfl) (fun _ _ => (V_indexAddr (s := 6) rfl Tryd.underlying76 infTellTo_114 rfl rfl rfl (by omega) (by first | omega | (simp [rqCells, Sl.v, opC, wkC, ivC, ltC, wtC, sv, frC, trC, srC, prC]; done) | (simp [rqCells, Sl.v, opC, wkC, ivC, ltC, wtC, sv, frC, trC, srC, prC]; omega) | (simp [rqCells, Sl.v, opC, wkC, ivC, ltC, wtC, sv, frC, trC, srC, prC] at *; omega)))) ?_
    refine GH_take 19 rfl rfl rfl rfl (by kernel_rfl) (by kernel_rfl) (by kernel_rfl) (fun _ _ => (V_fieldAddr (fo := _ + 3) rfl Tryd.underlying114 rfl infTellTo_112 rfl rfl rfl)) ?_
    refine GH_take 20 rfl rfl rfl rfl (by kernel_rfl) (by kernel_rfl) (by kernel_rfl) (fun _ _ => (V_fieldAddr (fo := _ + 1) rfl Tryd.underlying112 rfl infTellTo_110 rfl rfl rfl)) ?_
    refine GH_take 21 rfl rfl rfl rfl (by kernel_rfl) (by kernel_rfl) (by kernel_rfl) (fun _ _ => (V_load1 rfl rfl (List.mem_append_left _ (mem_at 0 rfl)) (nth_of (cell_at hs tr_len hx 4 (by omega) rfl)) Tryd.underlying110 rfl)) ?_
    refine GH_take 23 rfl rfl rfl rfl (by kernel_rfl) (by kernel_rfl) (by kernel_rfl) (fun _ _ => (V_move rfl rfl)) ?_
    refine GH_take 24 rfl rfl rfl rfl (by kernel_rfl) (by kernel_rfl) (by kernel_rfl) (fun _ _ => (V_move rfl rfl)) ?_
    first
      | refine GH_take 25 rfl rfl rfl rfl (by kernel_rfl) (by kernel_rfl) (by kernel_rfl) (fun _ _ => (V_indexAddrN (s := 6) rfl Tryd.underlying76 infTellTo_114 rfl rfl rfl rfl (by omega))) ?_
      | refine GH_take 25 rfl rfl rfl rfl (by kernel_rfl) (by kernel_rfl) (by kernel_rfl) (fun _ _ => (V_indexAddr (s := 6) rfl Tryd.underlying76 infTellTo_114 rfl rfl rfl (by omega) (by first | omega | (simp [rqCells, Sl.v, opC, wkC, ivC, ltC, wtC, sv, frC, trC, srC, prC]; done) | (simp [rqCells, Sl.v, opC, wkC, ivC, ltC, wtC, sv, frC, trC, srC, prC]; omega) | (simp [rqCells, Sl.v, opC, wkC, ivC, ltC, wtC, sv, frC, trC, srC, prC] at *; omega)))) ?_
    refine GH_take 26 rfl rfl rfl rfl (by kernel_rfl) (by kernel_rfl) (by kernel_rfl) (fun _ _ => (V_fieldAddr (fo := _ + 3) rfl Tryd.underlying114 rfl infTellTo_112 rfl rfl rfl)) ?_
    refine GH_take 27 rfl rfl rfl rfl (by kernel_rfl) (by kernel_rfl) (by kernel_rfl) (fun _ _ => (V_fieldAddr (fo := _ + 2) rfl Tryd.underlying112 rfl infTellTo_4 rfl rfl rfl)) ?_
    refine GH_take 28 rfl rfl rfl rfl (by kernel_rfl) (by kernel_rfl) (by kernel_rfl) (fun _ _ => (V_load1 rfl rfl (List.mem_append_left _ (mem_at 0 rfl)) (nth_of (cell_at hs tr_len hx 5 (by omega) rfl)) Tryd.underlying4 rfl)) ?_
    refine GH_all [22] (by kernel_rfl) (by decide) ?_
    refine (And.intro ?_ trivial)
    · skip
      refine GHop_callM (L2 := [_]) rfl rfl rfl rfl rfl rfl Tryd.call67 (to_flows x.s.p x.s.ob x.s.off x.s.cap x.s.cs x.s.T x.s.fr x.s.l hxo.s) [] rfl (subA_cons (List.mem_append_left _ (List.mem_cons_of_mem _ (List.mem_flatMap.2 ⟨x, List.mem_of_getElem? hx, in_tr0⟩))) subA_nil) [] (by rintro v post ⟨⟨fp, fn_, fq, rfl⟩, rfl⟩; exact ⟨_, rfl⟩) ?_
      rintro v post ⟨⟨fp, fn_, fq, rfl⟩, rfl⟩
      show GH _ _ _ _ _ _ _ [_] _
      refine GH_take 29 rfl rfl rfl rfl (by kernel_rfl) (by kernel_rfl) (by kernel_rfl) (fun _ _ => (V_buildS (cs := [_, _, _, _, _]) rfl Tryd.underlying138 infTellTo_138 rfl plcTellTo_138 rfl rfl rfl)) ?_
      refine GH_all [30] (by kernel_rfl) (by decide) ?_
      refine (And.intro ?_ trivial)
      · skip
        refine GHop_new rfl rfl rfl rfl (N_buildAll (s := 5) (cs := [_, _, _, _, _]) rfl Tryd.underlying123 infTellTo_138 rfl rfl rfl rfl rfl rfl rfl rfl rfl) [] (fun _ => ⟨_, rfl⟩) (fun b42 => ?_)
        refine GH_all [31] (by kernel_rfl) (by decide) ?_
        refine (And.intro ?_ trivial)
        · skip
          refine GHop_append (l1 := [_]) (s := u) (nn := i) (m := 1) (news := [.int .i64 x.a.1, .int .i64 x.a.2.1, .int .i64 x.a.2.2, .slice fp fn_ fq, .bool x.g]) (bt := 56) rfl rfl rfl rfl Tryd.underlying123 Tryd.underlying123 (by first | exact .inl rfl | exact .inr ⟨_, rfl⟩) infTellTo_138 rfl rfl rfl rfl rfl rfl hux rfl (src_mem (List.mem_append_right _ (mem_at 0 rfl)) rfl rfl (by simp [Value.oneCell'])) (by omega) (by omega) [] (fun _ => ⟨_, rfl⟩) ?_
          intro u1 hu1 _
          show GH _ _ _ _ _ _ _ [_, _] _
          refine GH_take 32 rfl rfl rfl rfl (by kernel_rfl) (by kernel_rfl) (by kernel_rfl) (fun _ _ => (V_assign rfl rfl)) ?_
          refine GH_done (by kernel_rfl) ?_
          refine G_inBlock ?_
          refine G_region (l := [0, 1, 2]) rfl ?_
          refine G_val rfl rfl rfl rfl (V_move rfl rfl) ?_
          first
            | refine G_val rfl rfl rfl rfl ((V_add rfl rfl rfl).int (wrap_i64 (by omega))) ?_
            | refine G_val rfl rfl rfl rfl (V_add rfl rfl rfl) ?_
          refine G_val rfl rfl rfl rfl (V_assign rfl rfl) ?_
          refine G_done ?_
          refine G_sub ?_ [1] ?_ (ih (i + 1, u1, xs ++ [.int .i64 x.a.1, .int .i64 x.a.2.1, .int .i64 x.a.2.2, .slice fp fn_ fq, .bool x.g]) ?_ ?_)
          · (refine (And.intro ?_ (And.intro ?_ (And.intro ?_ trivial))) <;> first | rfl | exact slot_int (by omega) | exact slot_int (by simp))
          · exact ⟨_, rfl⟩
          · exact ⟨by omega, hu1⟩
          · (first | omega | (dsimp only; omega))
  refine G_exit rfl ?_
  refine G_seq ?_
  refine G_region (l := [0, 1]) rfl ?_
  refine G_val rfl rfl rfl rfl (V_move rfl rfl) ?_
  refine G_val rfl rfl rfl rfl (V_assign rfl rfl) ?_
  refine G_done ?_
  refine G_ret (post := []) Tryd.func56 rfl (RVs_cons (RV_tmp rfl) RVs_nil) [] rfl ?_
  dsimp only [packed]
  exact ⟨⟨_, _, _, rfl⟩, rfl⟩


theorem sub_share {l : List Pr} {x : Pr} {y : Sr} {o : Option Nat × Obj} (hx : x ∈ l) (hy : y ∈ x.s.l) : ∀ z ∈ (y.s.ob, Obj.cells y.s.cs y.s.T y.s.fr) :: y.s.l.flatMap trK, z ∈ o :: l.flatMap prK := fun z hz => List.mem_cons_of_mem _ (in_ps hx (in_pr hy hz))

set_option maxRecDepth 100000 in
set_option maxHeartbeats 2000000 in
theorem to_pools (p : Option Addr) (ob : Option Nat) (off cap : Nat) (cs : Array Value) (T : TypeId) (fr : Nat × Nat) (l : List Pr) (h : InsOk 4 prC ⟨p, ob, off, cap, cs, T, fr, l⟩) (hok : ∀ x ∈ l, PrOk x) :
    Ct Tryd.prog 41 [.slice p l.length cap] ((ob, .cells cs T fr) :: l.flatMap prK) [] fun v post => (∃ p n q, v = .slice p n q) ∧ post = [] := by
 have hl1 := h.le
 have hl2 := h.max
 have hln := h.n
 simp only at hl1 hl2 hln
 refine ct_of Tryd.func41 rfl rfl (fun w0 => ?_)
 show G _ _ [(0, _)] _ _
 refine G_seq ?_
 refine G_region (l := [0]) rfl ?_
 refine G_val rfl rfl rfl rfl (V_assign rfl rfl) ?_
 refine G_done ?_
 refine G_seq ?_
 refine G_region (l := [0, 1]) rfl ?_
 refine G_new rfl rfl rfl rfl (N_build0 rfl Tryd.underlying44 infTellTo_122) (fun b7 => ?_)
 refine G_val rfl rfl rfl rfl (V_assign rfl rfl) ?_
 refine G_done ?_
 refine G_seq ?_
 refine G_seq ?_
 refine G_region (l := [0]) rfl ?_
 refine G_val rfl rfl rfl rfl (V_assign rfl rfl) ?_
 refine G_done ?_
 refine G_block ?_
 refine G_sub ?he3 [0] ?hl3 (G_loop (X := Nat × Sl × List Value) (fun y_ => match y_ with | ⟨i, u, xs⟩ => i ≤ l.length ∧ Own 5 u xs i) (fun y_ => match y_ with | ⟨i, u, xs⟩ => l.length - i) (fun y_ => match y_ with | ⟨i, u, xs⟩ => [(0, .slice p l.length cap), (3, u.v i), (4, .int .i64 (i : Int))]) (fun y_ => match y_ with | ⟨i, u, xs⟩ => [(u.ob, .cells u.cs 122 u.fz)]) ?round3 (0, ⟨some b7, #[], (0, 0), 0⟩, []) ?h03)
 case he3 => exact (And.intro rfl (And.intro rfl (And.intro rfl trivial)))
 case hl3 => exact ⟨_, rfl⟩
 case h03 => exact ⟨Nat.zero_le _, own_empty 5 b7⟩
 case round3 =>
  intro y_ hJ ih
  try dsimp only at hJ ih
  obtain ⟨i, u, xs⟩ := y_
  try dsimp only at hJ ih
  obtain ⟨hi, hux⟩ := hJ
  show G _ _ [(0, .slice p l.length cap), (3, u.v i), (4, .int .i64 (i : Int))] [(u.ob, .cells u.cs 122 u.fz)] _
  refine G_seq ?_
  refine G_seq ?_
  refine G_region (l := [0, 1, 2, 3]) rfl ?_
  refine G_val rfl rfl rfl rfl (V_move rfl rfl) ?_
  refine G_val rfl rfl rfl rfl (V_move rfl rfl) ?_
  refine G_val rfl rfl rfl rfl (V_len rfl rfl Tryd.underlying36 rfl) ?_
  refine G_val rfl rfl rfl rfl (V_lss rfl rfl rfl) ?_
  refine G_done ?_
  refine G_ifD rfl (fun hc1 => ?_) (fun hc1 => ?_)
  · skip
    refine G_skip ?_
    refine G_seq ?_
    refine G_block ?_
    refine G_seq ?_
    obtain ⟨x, hx⟩ := getI (show i < l.length by omega)
    obtain ⟨bi, hbi1, hbi2, hs⟩ := h.isS (i := i) (by show i < l.length; omega)
    simp only at hbi1 hbi2 hs
    subst hbi1 hbi2
    have hxo := hok x (List.mem_of_getElem? hx)
    have hxn := hxo.s.n
    have hxl := hxo.s.le
    have hxm := hxo.s.max
    refine GH_start (Lq := []) (isq := []) (m := 18) mixedK rfl rfl ?_
    refine GH_take 0 rfl rfl rfl rfl (by kernel_rfl) (by kernel_rfl) (by kernel_rfl) (fun _ _ => (V_move rfl rfl)) ?_
    refine GH_take 1 rfl rfl rfl rfl (by kernel_rfl) (by kernel_rfl) (by kernel_rfl) (fun _ _ => (V_move rfl rfl)) ?_
    first
      | refine GH_take 2 rfl rfl rfl rfl (by kernel_rfl) (by kernel_rfl) (by kernel_rfl) (fun _ _ => (V_indexAddrN (s := 4) rfl Tryd.underlying36 infTellTo_74 rfl rfl rfl rfl (by omega))) ?_
      | refine GH_take 2 rfl rfl rfl rfl (by kernel_rfl) (by kernel_rfl) (by kernel_rfl) (fun _ _ => (V_indexAddr (s := 4) rfl Tryd.underlying36 infTellTo_74 rfl rfl rfl (by omega) (by first | omega | (simp [rqCells, Sl.v, opC, wkC, ivC, ltC, wtC, sv, frC, trC, srC, prC]; done) | (simp [rqCells, Sl.v, opC, wkC, ivC, ltC, wtC, sv, frC, trC, srC, prC]; omega) | (simp [rqCells, Sl.v, opC, wkC, ivC, ltC, wtC, sv, frC, trC, srC, prC] at *; omega)))) ?_
    refine GH_take 3 rfl rfl rfl rfl (by kernel_rfl) (by kernel_rfl) (by kernel_rfl) (fun _ _ => (V_fieldAddr (fo := _) rfl Tryd.underlying74 rfl infTellTo_9 rfl rfl rfl)) ?_
    refine GH_take 4 rfl rfl rfl rfl (by kernel_rfl) (by kernel_rfl) (by kernel_rfl) (fun _ _ => (V_load1 rfl rfl (List.mem_append_left _ (mem_at 0 rfl)) (nth_of (cell_at hs pr_len hx 0 (by omega) rfl)) Tryd.underlying9 rfl)) ?_
    refine GH_take 5 rfl rfl rfl rfl (by kernel_rfl) (by kernel_rfl) (by kernel_rfl) (fun _ _ => (V_move rfl rfl)) ?_
    refine GH_take 6 rfl rfl rfl rfl (by kernel_rfl) (by kernel_rfl) (by kernel_rfl) (fun _ _ => (V_move rfl rfl)) ?_
    first
      | refine GH_take 7 rfl rfl rfl rfl (by kernel_rfl) (by kernel_rfl) (by kernel_rfl) (fun _ _ => (V_indexAddrN (s := 4) rfl Tryd.underlying36 infTellTo_74 rfl rfl rfl rfl (by omega))) ?_
      | refine GH_take 7 rfl rfl rfl rfl (by kernel_rfl) (by kernel_rfl) (by kernel_rfl) (fun _ _ => (V_indexAddr (s := 4) rfl Tryd.underlying36 infTellTo_74 rfl rfl rfl (by omega) (by first | omega | (simp [rqCells, Sl.v, opC, wkC, ivC, ltC, wtC, sv, frC, trC, srC, prC]; done) | (simp [rqCells, Sl.v, opC, wkC, ivC, ltC, wtC, sv, frC, trC, srC, prC]; omega) | (simp [rqCells, Sl.v, opC, wkC, ivC, ltC, wtC, sv, frC, trC, srC, prC] at *; omega)))) ?_
    refine GH_take 8 rfl rfl rfl rfl (by kernel_rfl) (by kernel_rfl) (by kernel_rfl) (fun _ _ => (V_fieldAddr (fo := _ + 1) rfl Tryd.underlying74 rfl infTellTo_3 rfl rfl rfl)) ?_
    refine GH_take 9 rfl rfl rfl rfl (by kernel_rfl) (by kernel_rfl) (by kernel_rfl) (fun _ _ => (V_load1 rfl rfl (List.mem_append_left _ (mem_at 0 rfl)) (nth_of (cell_at hs pr_len hx 1 (by omega) rfl)) Tryd.underlying3 rfl)) ?_
    refine GH_take 10 rfl rfl rfl rfl (by kernel_rfl) (by kernel_rfl) (by kernel_rfl) (fun _ _ => (V_move rfl rfl)) ?_
    refine GH_take 11 rfl rfl rfl rfl (by kernel_rfl) (by kernel_rfl) (by kernel_rfl) (fun _ _ => (V_move rfl rfl)) ?_
    first
      | refine GH_take 12 rfl rfl rfl rfl (by kernel_rfl) (by kernel_rfl) (by kernel_rfl) (fun _ _ => (V_indexAddrN (s := 4) rfl Tryd.underlying36 infTellTo_74 rfl rfl rfl rfl (by omega))) ?_
      | refine GH_take 12 rfl rfl rfl rfl (by kernel_rfl) (by kernel_rfl) (by kernel_rfl) (fun _ _ => (V_indexAddr (s := 4) rfl Tryd.underlying36 infTellTo_74 rfl rfl rfl (by omega) (by first | omega | (simp [rqCells, Sl.v, opC, wkC, ivC, ltC, wtC, sv, frC, trC, srC, prC]; done) | (simp [rqCells, Sl.v, opC, wkC, ivC, ltC, wtC, sv, frC, trC, srC, prC]; omega) | (simp [rqCells, Sl.v, opC, wkC, ivC, ltC, wtC, sv, frC, trC, srC, prC] at *; omega)))) ?_
    refine GH_take 13 rfl rfl rfl rfl (by kernel_rfl) (by kernel_rfl) (by kernel_rfl) (fun _ _ => (V_fieldAddr (fo := _ + 2) rfl Tryd.underlying74 rfl infTellTo_68 rfl rfl rfl)) ?_
    refine GH_take 14 rfl rfl rfl rfl (by kernel_rfl) (by kernel_rfl) (by kernel_rfl) (fun _ _ => (V_load1 rfl rfl (List.mem_append_left _ (mem_at 0 rfl)) (nth_of (cell_at hs pr_len hx 2 (by omega) rfl)) Tryd.underlying68 rfl)) ?_
    refine GH_take 15 rfl rfl rfl rfl (by kernel_rfl) (by kernel_rfl) (by kernel_rfl) (fun _ _ => (V_buildS (cs := [_, _, _, _, _]) rfl Tryd.underlying122 infTellTo_122 rfl plcTellTo_122 rfl rfl rfl)) ?_
    refine GH_all [16] (by kernel_rfl) (by decide) ?_
    refine (And.intro ?_ trivial)
    · skip
      refine GHop_new rfl rfl rfl rfl (N_allocA rfl infTellTo_122 rfl) [] (fun _ => ⟨_, rfl⟩) (fun b5 => ?_)
      refine GH_all [17] (by kernel_rfl) (by decide) ?_
      refine (And.intro ?_ trivial)
      · skip
        refine GHop_put (l1 := []) (L' := [_, _]) rfl rfl rfl rfl (P_storeA (s := 5) rfl rfl rfl (mem_at 0 rfl) (by first | rfl | (simp [bcells_length, rqCells, Sl.v, opC, wkC, ivC, ltC, wtC, sv, frC, trC, srC, prC]; done) | (simp [bcells_length, rqCells, Sl.v, opC, wkC, ivC, ltC, wtC, sv, frC, trC, srC, prC]; omega) | (simp [bcells_length, *, rqCells, Sl.v, opC, wkC, ivC, ltC, wtC, sv, frC, trC, srC, prC]; done)) infTellTo_122 rfl (by first | rfl | (simp [bcells_length, rqCells, Sl.v, opC, wkC, ivC, ltC, wtC, sv, frC, trC, srC, prC]; done) | (simp [bcells_length, rqCells, Sl.v, opC, wkC, ivC, ltC, wtC, sv, frC, trC, srC, prC]; omega) | (simp [bcells_length, *, rqCells, Sl.v, opC, wkC, ivC, ltC, wtC, sv, frC, trC, srC, prC]; done)) (by first | rfl | exact bcells_all _ | (simp [Value.oneCell', rqCells, Sl.v, opC, wkC, ivC, ltC, wtC, sv, frC, trC, srC, prC]; done) | (simp [Value.oneCell', *, rqCells, Sl.v, opC, wkC, ivC, ltC, wtC, sv, frC, trC, srC, prC]; done))) rfl [] rfl ?_
        refine GH_done (by kernel_rfl) ?_
        refine G_seq ?_
        refine G_seq ?_
        refine G_addNone (.cells #[] 123 (0, 0)) ?_
        refine G_addNone (.cells #[] 4 (0, 0)) ?_
        refine G_region (l := [0]) rfl ?_
        refine G_val rfl rfl rfl rfl (V_assign rfl rfl) ?_
        refine G_done ?_
        refine G_block ?_
        refine G_sub ?he7 [2, 1, 0, 0] ?hl7 (G_loop (X := Nat × Sl × Sl × List Value × List Value) (fun z_ => match z_ with | ⟨k, v1, v2, ys, zs⟩ => k ≤ x.s.l.length ∧ Own 1 v1 ys k ∧ Own 1 v2 zs k) (fun z_ => match z_ with | ⟨k, v1, v2, ys, zs⟩ => x.s.l.length - k) (fun z_ => match z_ with | ⟨k, v1, v2, ys, zs⟩ => [(0, .slice (some ⟨bi, off, none⟩) l.length cap), (3, u.v i), (4, .int .i64 (i : Int)), (5, .pointer (some ⟨b5, 0, none⟩)), (6, .int .i64 (k : Int))]) (fun z_ => match z_ with | ⟨k, v1, v2, ys, zs⟩ => [(some b5, .cells #[.string (bs x.n), .int .i64 x.u, .slice x.v.p x.v.l.length x.v.cap, v1.v k, v2.v k] 122 (0, 0)), (v1.ob, .cells v1.cs 123 v1.fz), (v2.ob, .cells v2.cs 4 v2.fz), (u.ob, .cells u.cs 122 u.fz)]) ?round7 (0, slNil, slNil, [], []) ?h07)
        case he7 => exact (And.intro rfl (And.intro rfl (And.intro rfl (And.intro rfl (And.intro rfl trivial)))))
        case hl7 => exact ⟨_, rfl⟩
        case h07 => exact ⟨Nat.zero_le _, own_nil 1, own_nil 1⟩
        case round7 =>
         intro z_ hJ ih2
         try dsimp only at hJ ih2
         obtain ⟨k, v1, v2, ys, zs⟩ := z_
         try dsimp only at hJ ih2
         obtain ⟨hk, hv1, hv2⟩ := hJ
         show G _ _ [(0, .slice (some ⟨bi, off, none⟩) l.length cap), (3, u.v i), (4, .int .i64 (i : Int)), (5, .pointer (some ⟨b5, 0, none⟩)), (6, .int .i64 (k : Int))] [(some b5, .cells #[.string (bs x.n), .int .i64 x.u, .slice x.v.p x.v.l.length x.v.cap, v1.v k, v2.v k] 122 (0, 0)), (v1.ob, .cells v1.cs 123 v1.fz), (v2.ob, .cells v2.cs 4 v2.fz), (u.ob, .cells u.cs 122 u.fz)] _
         refine G_seq ?_
         refine G_seq ?_
         refine G_region (l := [0, 1, 2, 3, 4, 5, 6, 7]) rfl ?_
         refine G_val rfl rfl rfl rfl (V_move rfl rfl) ?_
         refine G_val rfl rfl rfl rfl (V_move rfl rfl) ?_
         refine G_val rfl rfl rfl rfl (V_move rfl rfl) ?_
         first
           | refine G_val rfl rfl rfl rfl (V_indexAddrN (s := 4) rfl Tryd.underlying36 infTellTo_74 rfl rfl rfl rfl (by omega)) ?_
           | refine G_val rfl rfl rfl rfl (V_indexAddr (s := 4) rfl Tryd.underlying36 infTellTo_74 rfl rfl rfl (by omega) (by first | omega | (simp [rqCells, Sl.v, opC, wkC, ivC, ltC, wtC, sv, frC, trC, srC, prC]; done) | (simp [rqCells, Sl.v, opC, wkC, ivC, ltC, wtC, sv, frC, trC, srC, prC]; omega) | (simp [rqCells, Sl.v, opC, wkC, ivC, ltC, wtC, sv, frC, trC, srC, prC] at *; omega))) ?_
         refine G_val rfl rfl rfl rfl (V_fieldAddr (fo := _ + 3) rfl Tryd.underlying74 rfl infTellTo_72 rfl rfl rfl) ?_
         refine G_val rfl rfl rfl rfl (V_load1 rfl rfl (List.mem_append_left _ (mem_at 0 rfl)) (nth_of (cell_at hs pr_len hx 3 (by omega) rfl)) Tryd.underlying72 rfl) ?_
         refine G_val rfl rfl rfl rfl (V_len rfl rfl Tryd.underlying72 rfl) ?_
         refine G_val rfl rfl rfl rfl (V_lss rfl rfl rfl) ?_
         refine G_done ?_
         refine G_ifD rfl (fun hc2 => ?_) (fun hc2 => ?_)
         · skip
           refine G_skip ?_
           refine G_seq ?_
           refine G_block ?_
           refine G_seq ?_
           obtain ⟨y, hy⟩ := getI (show k < x.s.l.length by omega)
           obtain ⟨bs_, hbs1, hbs2, hss⟩ := hxo.s.isS (i := k) (by omega)
           have hmem := insK_at hbs2
           have hyo := hxo.i y (List.mem_of_getElem? hy)
           refine GH_start (Lq := []) (isq := []) (m := 16) mixedK rfl rfl ?_
           refine GH_take 0 rfl rfl rfl rfl (by kernel_rfl) (by kernel_rfl) (by kernel_rfl) (fun _ _ => (V_fieldAddr (fo := 3) rfl Tryd.underlying122 rfl infTellTo_119 rfl rfl rfl)) ?_
           refine GH_take 2 rfl rfl rfl rfl (by kernel_rfl) (by kernel_rfl) (by kernel_rfl) (fun _ _ => (V_move rfl rfl)) ?_
           refine GH_take 3 rfl rfl rfl rfl (by kernel_rfl) (by kernel_rfl) (by kernel_rfl) (fun _ _ => (V_move rfl rfl)) ?_
           first
             | refine GH_take 4 rfl rfl rfl rfl (by kernel_rfl) (by kernel_rfl) (by kernel_rfl) (fun _ _ => (V_indexAddrN (s := 4) rfl Tryd.underlying36 infTellTo_74 rfl rfl rfl rfl (by omega))) ?_
             | refine GH_take 4 rfl rfl rfl rfl (by kernel_rfl) (by kernel_rfl) (by kernel_rfl) (fun _ _ => (V_indexAddr (s := 4) rfl Tryd.underlying36 infTellTo_74 rfl rfl rfl (by omega) (by first | omega | (simp [rqCells, Sl.v, opC, wkC, ivC, ltC, wtC, sv, frC, trC, srC, prC]; done) | (simp [rqCells, Sl.v, opC, wkC, ivC, ltC, wtC, sv, frC, trC, srC, prC]; omega) | (simp [rqCells, Sl.v, opC, wkC, ivC, ltC, wtC, sv, frC, trC, srC, prC] at *; omega)))) ?_
           refine GH_take 5 rfl rfl rfl rfl (by kernel_rfl) (by kernel_rfl) (by kernel_rfl) (fun _ _ => (V_fieldAddr (fo := _ + 3) rfl Tryd.underlying74 rfl infTellTo_72 rfl rfl rfl)) ?_
           refine GH_take 6 rfl rfl rfl rfl (by kernel_rfl) (by kernel_rfl) (by kernel_rfl) (fun _ _ => (V_load1 rfl rfl (List.mem_append_left _ (mem_at 0 rfl)) (nth_of (cell_at hs pr_len hx 3 (by omega) rfl)) Tryd.underlying72 rfl)) ?_
           rw [hbs1]
           refine GH_take 7 rfl rfl rfl rfl (by kernel_rfl) (by kernel_rfl) (by kernel_rfl) (fun _ _ => (V_move rfl rfl)) ?_
           first
             | refine GH_take 8 rfl rfl rfl rfl (by kernel_rfl) (by kernel_rfl) (by kernel_rfl) (fun _ _ => (V_indexAddrN (s := 3) rfl Tryd.underlying72 infTellTo_78 rfl rfl rfl rfl (by omega))) ?_
             | refine GH_take 8 rfl rfl rfl rfl (by kernel_rfl) (by kernel_rfl) (by kernel_rfl) (fun _ _ => (V_indexAddr (s := 3) rfl Tryd.underlying72 infTellTo_78 rfl rfl rfl (by omega) (by first | omega | (simp [rqCells, Sl.v, opC, wkC, ivC, ltC, wtC, sv, frC, trC, srC, prC]; done) | (simp [rqCells, Sl.v, opC, wkC, ivC, ltC, wtC, sv, frC, trC, srC, prC]; omega) | (simp [rqCells, Sl.v, opC, wkC, ivC, ltC, wtC, sv, frC, trC, srC, prC] at *; omega)))) ?_
           refine GH_take 9 rfl rfl rfl rfl (by kernel_rfl) (by kernel_rfl) (by kernel_rfl) (fun _ _ => (V_fieldAddr (fo := _ + 1) rfl Tryd.underlying78 rfl infTellTo_76 rfl rfl rfl)) ?_
           refine GH_all [1, 10] (by kernel_rfl) (by decide) ?_
           refine (And.intro ?_ (And.intro ?_ trivial))
           · skip
             refine GHop_val rfl rfl rfl rfl (V_load1 rfl rfl (List.mem_append_right _ (mem_at 0 rfl)) rfl Tryd.underlying119 rfl) ?_
             refine GH_all [10] (by kernel_rfl) (by decide) ?_
             refine (And.intro ?_ trivial)
             · skip
               refine GHop_val rfl rfl rfl rfl (V_load1 rfl rfl (by rw [← hmem]; exact List.mem_append_left _ (List.mem_cons_of_mem _ (in_ps (List.mem_of_getElem? hx) in_pr1))) (nth_of (cell_at hss sr_len hy 1 (by omega) rfl)) Tryd.underlying76 rfl) ?_
               refine GH_all [11] (by kernel_rfl) (by decide) ?_
               refine (And.intro ?_ trivial)
               · skip
                 refine GHop_callM (L2 := [_, _, _, _]) rfl rfl rfl rfl rfl rfl Tryd.call56 (to_shares y.s.p y.s.ob y.s.off y.s.cap y.s.cs y.s.T y.s.fr y.s.l hyo.s hyo.i) [] rfl (fun z hz => List.mem_append_left _ (sub_share (List.mem_of_getElem? hx) (List.mem_of_getElem? hy) z hz)) [] (by rintro v post ⟨⟨fp, fn_, fq, rfl⟩, rfl⟩; exact ⟨_, rfl⟩) ?_
                 rintro v post ⟨⟨fp, fn_, fq, rfl⟩, rfl⟩
                 show GH _ _ _ _ _ _ _ [_, _, _, _] _
                 refine GH_all [12] (by kernel_rfl) (by decide) ?_
                 refine (And.intro ?_ trivial)
                 · skip
                   refine GHop_new rfl rfl rfl rfl (N_buildAll (s := 1) (cs := [_]) rfl Tryd.underlying119 infTellTo_123 rfl rfl rfl rfl rfl rfl rfl rfl rfl) [] (fun _ => ⟨_, rfl⟩) (fun b52 => ?_)
                   refine GH_all [13] (by kernel_rfl) (by decide) ?_
                   refine (And.intro ?_ trivial)
                   · skip
                     refine GHop_append (l1 := [_, _]) (s := v1) (nn := k) (m := 1) (news := [.slice fp fn_ fq]) (bt := 24) rfl rfl rfl rfl Tryd.underlying119 Tryd.underlying119 (by first | exact .inl rfl | exact .inr ⟨_, rfl⟩) infTellTo_123 rfl rfl rfl rfl rfl rfl hv1 rfl (src_mem (List.mem_append_right _ (mem_at 0 rfl)) rfl rfl (by simp [Value.oneCell'])) (by omega) (by omega) [] (fun _ => ⟨_, rfl⟩) ?_
                     intro w1 hw1 _
                     show GH _ _ _ _ _ _ _ [_, _, _, _, _] _
                     refine GH_take 14 rfl rfl rfl rfl (by kernel_rfl) (by kernel_rfl) (by kernel_rfl) (fun _ _ => (V_fieldAddr (fo := 3) rfl Tryd.underlying122 rfl infTellTo_119 rfl rfl rfl)) ?_
                     refine GH_all [15] (by kernel_rfl) (by decide) ?_
                     refine (And.intro ?_ trivial)
                     · skip
                       refine GHop_put (l1 := [_]) (L' := [_, _, _, _, _]) rfl rfl rfl rfl (P_store1 rfl rfl rfl (mem_at 1 rfl) (by first | exact of_decide_eq_true rfl | omega | (simp [rqCells, Sl.v, opC, wkC, ivC, ltC, wtC, sv, frC, trC, srC, prC]; done) | (simp [rqCells, Sl.v, opC, wkC, ivC, ltC, wtC, sv, frC, trC, srC, prC]; omega) | (simp [rqCells, Sl.v, opC, wkC, ivC, ltC, wtC, sv, frC, trC, srC, prC] at *; omega)) infTellTo_119 rfl rfl) rfl [] rfl ?_
                       refine GH_done (by kernel_rfl) ?_
                       refine GH_start (Lq := []) (isq := []) (m := 15) mixedK rfl rfl ?_
                       refine GH_take 0 rfl rfl rfl rfl (by kernel_rfl) (by kernel_rfl) (by kernel_rfl) (fun _ _ => (V_fieldAddr (fo := 4) rfl Tryd.underlying122 rfl infTellTo_120 rfl rfl rfl)) ?_
                       refine GH_take 2 rfl rfl rfl rfl (by kernel_rfl) (by kernel_rfl) (by kernel_rfl) (fun _ _ => (V_move rfl rfl)) ?_
                       refine GH_take 3 rfl rfl rfl rfl (by kernel_rfl) (by kernel_rfl) (by kernel_rfl) (fun _ _ => (V_move rfl rfl)) ?_
                       first
                         | refine GH_take 4 rfl rfl rfl rfl (by kernel_rfl) (by kernel_rfl) (by kernel_rfl) (fun _ _ => (V_indexAddrN (s := 4) rfl Tryd.underlying36 infTellTo_74 rfl rfl rfl rfl (by omega))) ?_
                         | refine GH_take 4 rfl rfl rfl rfl (by kernel_rfl) (by kernel_rfl) (by kernel_rfl) (fun _ _ => (V_indexAddr (s := 4) rfl Tryd.underlying36 infTellTo_74 rfl rfl rfl (by omega) (by first | omega | (simp [rqCells, Sl.v, opC, wkC, ivC, ltC, wtC, sv, frC, trC, srC, prC]; done) | (simp [rqCells, Sl.v, opC, wkC, ivC, ltC, wtC, sv, frC, trC, srC, prC]; omega) | (simp [rqCells, Sl.v, opC, wkC, ivC, ltC, wtC, sv, frC, trC, srC, prC] at *; omega)))) ?_
                       refine GH_take 5 rfl rfl rfl rfl (by kernel_rfl) (by kernel_rfl) (by kernel_rfl) (fun _ _ => (V_fieldAddr (fo := _ + 3) rfl Tryd.underlying74 rfl infTellTo_72 rfl rfl rfl)) ?_
                       refine GH_take 6 rfl rfl rfl rfl (by kernel_rfl) (by kernel_rfl) (by kernel_rfl) (fun _ _ => (V_load1 rfl rfl (List.mem_append_left _ (mem_at 0 rfl)) (nth_of (cell_at hs pr_len hx 3 (by omega) rfl)) Tryd.underlying72 rfl)) ?_
                       rw [hbs1]
                       refine GH_take 7 rfl rfl rfl rfl (by kernel_rfl) (by kernel_rfl) (by kernel_rfl) (fun _ _ => (V_move rfl rfl)) ?_
                       first
                         | refine GH_take 8 rfl rfl rfl rfl (by kernel_rfl) (by kernel_rfl) (by kernel_rfl) (fun _ _ => (V_indexAddrN (s := 3) rfl Tryd.underlying72 infTellTo_78 rfl rfl rfl rfl (by omega))) ?_
                         | refine GH_take 8 rfl rfl rfl rfl (by kernel_rfl) (by kernel_rfl) (by kernel_rfl) (fun _ _ => (V_indexAddr (s := 3) rfl Tryd.underlying72 infTellTo_78 rfl rfl rfl (by omega) (by first | omega | (simp [rqCells, Sl.v, opC, wkC, ivC, ltC, wtC, sv, frC, trC, srC, prC]; done) | (simp [rqCells, Sl.v, opC, wkC, ivC, ltC, wtC, sv, frC, trC, srC, prC]; omega) | (simp [rqCells, Sl.v, opC, wkC, ivC, ltC, wtC, sv, frC, trC, srC, prC] at *; omega)))) ?_
                       refine GH_take 9 rfl rfl rfl rfl (by kernel_rfl) (by kernel_rfl) (by kernel_rfl) (fun _ _ => (V_fieldAddr (fo := _ + 2) rfl Tryd.underlying78 rfl infTellTo_4 rfl rfl rfl)) ?_
                       refine GH_all [1, 10] (by kernel_rfl) (by decide) ?_
                       refine (And.intro ?_ (And.intro ?_ trivial))
                       · skip
                         refine GHop_val rfl rfl rfl rfl (V_load1 rfl rfl (List.mem_append_right _ (mem_at 1 rfl)) rfl Tryd.underlying120 rfl) ?_
                         refine GH_all [10] (by kernel_rfl) (by decide) ?_
                         refine (And.intro ?_ trivial)
                         · skip
                           refine GHop_val rfl rfl rfl rfl (V_load1 rfl rfl (by rw [← hmem]; exact List.mem_append_left _ (List.mem_cons_of_mem _ (in_ps (List.mem_of_getElem? hx) in_pr1))) (nth_of (cell_at hss sr_len hy 2 (by omega) rfl)) Tryd.underlying4 rfl) ?_
                           refine GH_all [11] (by kernel_rfl) (by decide) ?_
                           refine (And.intro ?_ trivial)
                           · skip
                             refine GHop_new rfl rfl rfl rfl (N_buildAll (s := 1) (cs := [_]) rfl Tryd.underlying120 infTellTo_4 rfl rfl rfl rfl rfl rfl rfl rfl rfl) [] (fun _ => ⟨_, rfl⟩) (fun b66 => ?_)
                             refine GH_all [12] (by kernel_rfl) (by decide) ?_
                             refine (And.intro ?_ trivial)
                             · skip
                               refine GHop_append (l1 := [_, _, _, _]) (s := v2) (nn := k) (m := 1) (news := [.bool y.g]) (bt := 1) rfl rfl rfl rfl Tryd.underlying120 Tryd.underlying120 (by first | exact .inl rfl | exact .inr ⟨_, rfl⟩) infTellTo_4 rfl rfl rfl rfl rfl rfl hv2 rfl (src_mem (List.mem_append_right _ (mem_at 0 rfl)) rfl rfl (by simp [Value.oneCell'])) (by omega) (by omega) [] (fun _ => ⟨_, rfl⟩) ?_
                               intro w2 hw2 _
                               show GH _ _ _ _ _ _ _ [_, _, _, _, _, _] _
                               refine GH_take 13 rfl rfl rfl rfl (by kernel_rfl) (by kernel_rfl) (by kernel_rfl) (fun _ _ => (V_fieldAddr (fo := 4) rfl Tryd.underlying122 rfl infTellTo_120 rfl rfl rfl)) ?_
                               refine GH_all [14] (by kernel_rfl) (by decide) ?_
                               refine (And.intro ?_ trivial)
                               · skip
                                 refine GHop_put (l1 := [_, _]) (L' := [_, _, _, _, _, _]) rfl rfl rfl rfl (P_store1 rfl rfl rfl (mem_at 2 rfl) (by first | exact of_decide_eq_true rfl | omega | (simp [rqCells, Sl.v, opC, wkC, ivC, ltC, wtC, sv, frC, trC, srC, prC]; done) | (simp [rqCells, Sl.v, opC, wkC, ivC, ltC, wtC, sv, frC, trC, srC, prC]; omega) | (simp [rqCells, Sl.v, opC, wkC, ivC, ltC, wtC, sv, frC, trC, srC, prC] at *; omega)) infTellTo_120 rfl rfl) rfl [] rfl ?_
                                 refine GH_done (by kernel_rfl) ?_
                                 refine G_inBlock ?_
                                 refine G_region (l := [0, 1, 2]) rfl ?_
                                 refine G_val rfl rfl rfl rfl (V_move rfl rfl) ?_
                                 first
                                   | refine G_val rfl rfl rfl rfl ((V_add rfl rfl rfl).int (wrap_i64 (by omega))) ?_
                                   | refine G_val rfl rfl rfl rfl (V_add rfl rfl rfl) ?_
                                 refine G_val rfl rfl rfl rfl (V_assign rfl rfl) ?_
                                 refine G_done ?_
                                 refine G_sub ?_ [2, 2, 2, 2] ?_ (ih2 (k + 1, w1, w2, ys ++ [.slice fp fn_ fq], zs ++ [.bool y.g]) ?_ ?_)
                                 · (refine (And.intro ?_ (And.intro ?_ (And.intro ?_ (And.intro ?_ (And.intro ?_ trivial))))) <;> first | rfl | exact slot_int (by omega) | exact slot_int (by simp))
                                 · exact ⟨_, rfl⟩
                                 · exact ⟨by omega, hw1, hw2⟩
                                 · (first | omega | (dsimp only; omega))
                       · skip
                         refine GHop_val rfl rfl rfl rfl (V_load1 rfl rfl (by rw [← hmem]; exact List.mem_append_left _ (List.mem_cons_of_mem _ (in_ps (List.mem_of_getElem? hx) in_pr1))) (nth_of (cell_at hss sr_len hy 2 (by omega) rfl)) Tryd.underlying4 rfl) ?_
                         refine GH_all [1, 11] (by kernel_rfl) (by decide) ?_
                         refine (And.intro ?_ (And.intro ?_ trivial))
                         · skip
                           refine GHop_val rfl rfl rfl rfl (V_load1 rfl rfl (List.mem_append_right _ (mem_at 1 rfl)) rfl Tryd.underlying120 rfl) ?_
                           refine GH_all [11] (by kernel_rfl) (by decide) ?_
                           refine (And.intro ?_ trivial)
                           · skip
                             refine GHop_new rfl rfl rfl rfl (N_buildAll (s := 1) (cs := [_]) rfl Tryd.underlying120 infTellTo_4 rfl rfl rfl rfl rfl rfl rfl rfl rfl) [] (fun _ => ⟨_, rfl⟩) (fun b66 => ?_)
                             refine GH_all [12] (by kernel_rfl) (by decide) ?_
                             refine (And.intro ?_ trivial)
                             · skip
                               refine GHop_append (l1 := [_, _, _, _]) (s := v2) (nn := k) (m := 1) (news := [.bool y.g]) (bt := 1) rfl rfl rfl rfl Tryd.underlying120 Tryd.underlying120 (by first | exact .inl rfl | exact .inr ⟨_, rfl⟩) infTellTo_4 rfl rfl rfl rfl rfl rfl hv2 rfl (src_mem (List.mem_append_right _ (mem_at 0 rfl)) rfl rfl (by simp [Value.oneCell'])) (by omega) (by omega) [] (fun _ => ⟨_, rfl⟩) ?_
                               intro w2 hw2 _
                               show GH _ _ _ _ _ _ _ [_, _, _, _, _, _] _
                               refine GH_take 13 rfl rfl rfl rfl (by kernel_rfl) (by kernel_rfl) (by kernel_rfl) (fun _ _ => (V_fieldAddr (fo := 4) rfl Tryd.underlying122 rfl infTellTo_120 rfl rfl rfl)) ?_
                               refine GH_all [14] (by kernel_rfl) (by decide) ?_
                               refine (And.intro ?_ trivial)
                               · skip
                                 refine GHop_put (l1 := [_, _]) (L' := [_, _, _, _, _, _]) rfl rfl rfl rfl (P_store1 rfl rfl rfl (mem_at 2 rfl) (by first | exact of_decide_eq_true rfl | omega | (simp [rqCells, Sl.v, opC, wkC, ivC, ltC, wtC, sv, frC, trC, srC, prC]; done) | (simp [rqCells, Sl.v, opC, wkC, ivC, ltC, wtC, sv, frC, trC, srC, prC]; omega) | (simp [rqCells, Sl.v, opC, wkC, ivC, ltC, wtC, sv, frC, trC, srC, prC] at *; omega)) infTellTo_120 rfl rfl) rfl [] rfl ?_
                                 refine GH_done (by kernel_rfl) ?_
                                 refine G_inBlock ?_
                                 refine G_region (l := [0, 1, 2]) rfl ?_
                                 refine G_val rfl rfl rfl rfl (V_move rfl rfl) ?_
                                 first
                                   | refine G_val rfl rfl rfl rfl ((V_add rfl rfl rfl).int (wrap_i64 (by omega))) ?_
                                   | refine G_val rfl rfl rfl rfl (V_add rfl rfl rfl) ?_
                                 refine G_val rfl rfl rfl rfl (V_assign rfl rfl) ?_
                                 refine G_done ?_
                                 refine G_sub ?_ [2, 2, 2, 2] ?_ (ih2 (k + 1, w1, w2, ys ++ [.slice fp fn_ fq], zs ++ [.bool y.g]) ?_ ?_)
                                 · (refine (And.intro ?_ (And.intro ?_ (And.intro ?_ (And.intro ?_ (And.intro ?_ trivial))))) <;> first | rfl | exact slot_int (by omega) | exact slot_int (by simp))
                                 · exact ⟨_, rfl⟩
                                 · exact ⟨by omega, hw1, hw2⟩
                                 · (first | omega | (dsimp only; omega))
                         · skip
                           refine GHop_new rfl rfl rfl rfl (N_buildAll (s := 1) (cs := [_]) rfl Tryd.underlying120 infTellTo_4 rfl rfl rfl rfl rfl rfl rfl rfl rfl) [] (fun _ => ⟨_, rfl⟩) (fun b66 => ?_)
                           refine GH_all [1] (by kernel_rfl) (by decide) ?_
                           refine (And.intro ?_ trivial)
                           · skip
                             refine GHop_val rfl rfl rfl rfl (V_load1 rfl rfl (List.mem_append_right _ (mem_at 2 rfl)) rfl Tryd.underlying120 rfl) ?_
                             refine GH_all [12] (by kernel_rfl) (by decide) ?_
                             refine (And.intro ?_ trivial)
                             · skip
                               refine GHop_append (l1 := [_, _, _, _]) (s := v2) (nn := k) (m := 1) (news := [.bool y.g]) (bt := 1) rfl rfl rfl rfl Tryd.underlying120 Tryd.underlying120 (by first | exact .inl rfl | exact .inr ⟨_, rfl⟩) infTellTo_4 rfl rfl rfl rfl rfl rfl hv2 rfl (src_mem (List.mem_append_right _ (mem_at 0 rfl)) rfl rfl (by simp [Value.oneCell'])) (by omega) (by omega) [] (fun _ => ⟨_, rfl⟩) ?_
                               intro w2 hw2 _
                               show GH _ _ _ _ _ _ _ [_, _, _, _, _, _] _
                               refine GH_take 13 rfl rfl rfl rfl (by kernel_rfl) (by kernel_rfl) (by kernel_rfl) (fun _ _ => (V_fieldAddr (fo := 4) rfl Tryd.underlying122 rfl infTellTo_120 rfl rfl rfl)) ?_
                               refine GH_all [14] (by kernel_rfl) (by decide) ?_
                               refine (And.intro ?_ trivial)
                               · skip
                                 refine GHop_put (l1 := [_, _]) (L' := [_, _, _, _, _, _]) rfl rfl rfl rfl (P_store1 rfl rfl rfl (mem_at 2 rfl) (by first | exact of_decide_eq_true rfl | omega | (simp [rqCells, Sl.v, opC, wkC, ivC, ltC, wtC, sv, frC, trC, srC, prC]; done) | (simp [rqCells, Sl.v, opC, wkC, ivC, ltC, wtC, sv, frC, trC, srC, prC]; omega) | (simp [rqCells, Sl.v, opC, wkC, ivC, ltC, wtC, sv, frC, trC, srC, prC] at *; omega)) infTellTo_120 rfl rfl) rfl [] rfl ?_
                                 refine GH_done (by kernel_rfl) ?_
                                 refine G_inBlock ?_
                                 refine G_region (l := [0, 1, 2]) rfl ?_
                                 refine G_val rfl rfl rfl rfl (V_move rfl rfl) ?_
                                 first
                                   | refine G_val rfl rfl rfl rfl ((V_add rfl rfl rfl).int (wrap_i64 (by omega))) ?_
                                   | refine G_val rfl rfl rfl rfl (V_add rfl rfl rfl) ?_
                                 refine G_val rfl rfl rfl rfl (V_assign rfl rfl) ?_
                                 refine G_done ?_
                                 refine G_sub ?_ [2, 2, 2, 2] ?_ (ih2 (k + 1, w1, w2, ys ++ [.slice fp fn_ fq], zs ++ [.bool y.g]) ?_ ?_)
                                 · (refine (And.intro ?_ (And.intro ?_ (And.intro ?_ (And.intro ?_ (And.intro ?_ trivial))))) <;> first | rfl | exact slot_int (by omega) | exact slot_int (by simp))
                                 · exact ⟨_, rfl⟩
                                 · exact ⟨by omega, hw1, hw2⟩
                                 · (first | omega | (dsimp only; omega))
           · skip
             refine GHop_val rfl rfl rfl rfl (V_load1 rfl rfl (by rw [← hmem]; exact List.mem_append_left _ (List.mem_cons_of_mem _ (in_ps (List.mem_of_getElem? hx) in_pr1))) (nth_of (cell_at hss sr_len hy 1 (by omega) rfl)) Tryd.underlying76 rfl) ?_
             refine GH_all [1, 11] (by kernel_rfl) (by decide) ?_
             refine (And.intro ?_ (And.intro ?_ trivial))
             · skip
               refine GHop_val rfl rfl rfl rfl (V_load1 rfl rfl (List.mem_append_right _ (mem_at 0 rfl)) rfl Tryd.underlying119 rfl) ?_
               refine GH_all [11] (by kernel_rfl) (by decide) ?_
               refine (And.intro ?_ trivial)
               · skip
                 refine GHop_callM (L2 := [_, _, _, _]) rfl rfl rfl rfl rfl rfl Tryd.call56 (to_shares y.s.p y.s.ob y.s.off y.s.cap y.s.cs y.s.T y.s.fr y.s.l hyo.s hyo.i) [] rfl (fun z hz => List.mem_append_left _ (sub_share (List.mem_of_getElem? hx) (List.mem_of_getElem? hy) z hz)) [] (by rintro v post ⟨⟨fp, fn_, fq, rfl⟩, rfl⟩; exact ⟨_, rfl⟩) ?_
                 rintro v post ⟨⟨fp, fn_, fq, rfl⟩, rfl⟩
                 show GH _ _ _ _ _ _ _ [_, _, _, _] _
                 refine GH_all [12] (by kernel_rfl) (by decide) ?_
                 refine (And.intro ?_ trivial)
                 · skip
                   refine GHop_new rfl rfl rfl rfl (N_buildAll (s := 1) (cs := [_]) rfl Tryd.underlying119 infTellTo_123 rfl rfl rfl rfl rfl rfl rfl rfl rfl) [] (fun _ => ⟨_, rfl⟩) (fun b52 => ?_)
                   refine GH_all [13] (by kernel_rfl) (by decide) ?_
                   refine (And.intro ?_ trivial)
                   · skip
                     refine GHop_append (l1 := [_, _]) (s := v1) (nn := k) (m := 1) (news := [.slice fp fn_ fq]) (bt := 24) rfl rfl rfl rfl Tryd.underlying119 Tryd.underlying119 (by first | exact .inl rfl | exact .inr ⟨_, rfl⟩) infTellTo_123 rfl rfl rfl rfl rfl rfl hv1 rfl (src_mem (List.mem_append_right _ (mem_at 0 rfl)) rfl rfl (by simp [Value.oneCell'])) (by omega) (by omega) [] (fun _ => ⟨_, rfl⟩) ?_
                     intro w1 hw1 _
                     show GH _ _ _ _ _ _ _ [_, _, _, _, _] _
                     refine GH_take 14 rfl rfl rfl rfl (by kernel_rfl) (by kernel_rfl) (by kernel_rfl) (fun _ _ => (V_fieldAddr (fo := 3) rfl Tryd.underlying122 rfl infTellTo_119 rfl rfl rfl)) ?_
                     refine GH_all [15] (by kernel_rfl) (by decide) ?_
                     refine (And.intro ?_ trivial)
                     · skip
                       refine GHop_put (l1 := [_]) (L' := [_, _, _, _, _]) rfl rfl rfl rfl (P_store1 rfl rfl rfl (mem_at 1 rfl) (by first | exact of_decide_eq_true rfl | omega | (simp [rqCells, Sl.v, opC, wkC, ivC, ltC, wtC, sv, frC, trC, srC, prC]; done) | (simp [rqCells, Sl.v, opC, wkC, ivC, ltC, wtC, sv, frC, trC, srC, prC]; omega) | (simp [rqCells, Sl.v, opC, wkC, ivC, ltC, wtC, sv, frC, trC, srC, prC] at *; omega)) infTellTo_119 rfl rfl) rfl [] rfl ?_
                       refine GH_done (by kernel_rfl) ?_
                       refine GH_start (Lq := []) (isq := []) (m := 15) mixedK rfl rfl ?_
                       refine GH_take 0 rfl rfl rfl rfl (by kernel_rfl) (by kernel_rfl) (by kernel_rfl) (fun _ _ => (V_fieldAddr (fo := 4) rfl Tryd.underlying122 rfl infTellTo_120 rfl rfl rfl)) ?_
                       refine GH_take 2 rfl rfl rfl rfl (by kernel_rfl) (by kernel_rfl) (by kernel_rfl) (fun _ _ => (V_move rfl rfl)) ?_
                       refine GH_take 3 rfl rfl rfl rfl (by kernel_rfl) (by kernel_rfl) (by kernel_rfl) (fun _ _ => (V_move rfl rfl)) ?_
                       first
                         | refine GH_take 4 rfl rfl rfl rfl (by kernel_rfl) (by kernel_rfl) (by kernel_rfl) (fun _ _ => (V_indexAddrN (s := 4) rfl Tryd.underlying36 infTellTo_74 rfl rfl rfl rfl (by omega))) ?_
                         | refine GH_take 4 rfl rfl rfl rfl (by kernel_rfl) (by kernel_rfl) (by kernel_rfl) (fun _ _ => (V_indexAddr (s := 4) rfl Tryd.underlying36 infTellTo_74 rfl rfl rfl (by omega) (by first | omega | (simp [rqCells, Sl.v, opC, wkC, ivC, ltC, wtC, sv, frC, trC, srC, prC]; done) | (simp [rqCells, Sl.v, opC, wkC, ivC, ltC, wtC, sv, frC, trC, srC, prC]; omega) | (simp [rqCells, Sl.v, opC, wkC, ivC, ltC, wtC, sv, frC, trC, srC, prC] at *; omega)))) ?_
                       refine GH_take 5 rfl rfl rfl rfl (by kernel_rfl) (by kernel_rfl) (by kernel_rfl) (fun _ _ => (V_fieldAddr (fo := _ + 3) rfl Tryd.underlying74 rfl infTellTo_72 rfl rfl rfl)) ?_
                       refine GH_take 6 rfl rfl rfl rfl (by kernel_rfl) (by kernel_rfl) (by kernel_rfl) (fun _ _ => (V_load1 rfl rfl (List.mem_append_left _ (mem_at 0 rfl)) (nth_of (cell_at hs pr_len hx 3 (by omega) rfl)) Tryd.underlying72 rfl)) ?_
                       rw [hbs1]
                       refine GH_take 7 rfl rfl rfl rfl (by kernel_rfl) (by kernel_rfl) (by kernel_rfl) (fun _ _ => (V_move rfl rfl)) ?_
                       first
                         | refine GH_take 8 rfl rfl rfl rfl (by kernel_rfl) (by kernel_rfl) (by kernel_rfl) (fun _ _ => (V_indexAddrN (s := 3) rfl Tryd.underlying72 infTellTo_78 rfl rfl rfl rfl (by omega))) ?_
                         | refine GH_take 8 rfl rfl rfl rfl (by kernel_rfl) (by kernel_rfl) (by kernel_rfl) (fun _ _ => (V_indexAddr (s := 3) rfl Tryd.underlying72 infTellTo_78 rfl rfl rfl (by omega) (by first | omega | (simp [rqCells, Sl.v, opC, wkC, ivC, ltC, wtC, sv, frC, trC, srC, prC]; done) | (simp [rqCells, Sl.v, opC, wkC, ivC, ltC, wtC, sv, frC, trC, srC, prC]; omega) | (simp [rqCells, Sl.v, opC, wkC, ivC, ltC, wtC, sv, frC, trC, srC, prC] at *; omega)))) ?_
                       refine GH_take 9 rfl rfl rfl rfl (by kernel_rfl) (by kernel_rfl) (by kernel_rfl) (fun _ _ => (V_fieldAddr (fo := _ + 2) rfl Tryd.underlying78 rfl infTellTo_4 rfl rfl rfl)) ?_
                       refine GH_all [1, 10] (by kernel_rfl) (by decide) ?_
                       refine (And.intro ?_ (And.intro ?_ trivial))
                       · skip
                         refine GHop_val rfl rfl rfl rfl (V_load1 rfl rfl (List.mem_append_right _ (mem_at 1 rfl)) rfl Tryd.underlying120 rfl) ?_
                         refine GH_all [10] (by kernel_rfl) (by decide) ?_
                         refine (And.intro ?_ trivial)
                         · skip
                           refine GHop_val rfl rfl rfl rfl (V_load1 rfl rfl (by rw [← hmem]; exact List.mem_append_left _ (List.mem_cons_of_mem _ (in_ps (List.mem_of_getElem? hx) in_pr1))) (nth_of (cell_at hss sr_len hy 2 (by omega) rfl)) Tryd.underlying4 rfl) ?_
                           refine GH_all [11] (by kernel_rfl) (by decide) ?_
                           refine (And.intro ?_ trivial)
                           · skip
                             refine GHop_new rfl rfl rfl rfl (N_buildAll (s := 1) (cs := [_]) rfl Tryd.underlying120 infTellTo_4 rfl rfl rfl rfl rfl rfl rfl rfl rfl) [] (fun _ => ⟨_, rfl⟩) (fun b66 => ?_)
                             refine GH_all [12] (by kernel_rfl) (by decide) ?_
                             refine (And.intro ?_ trivial)
                             · skip
                               refine GHop_append (l1 := [_, _, _, _]) (s := v2) (nn := k) (m := 1) (news := [.bool y.g]) (bt := 1) rfl rfl rfl rfl Tryd.underlying120 Tryd.underlying120 (by first | exact .inl rfl | exact .inr ⟨_, rfl⟩) infTellTo_4 rfl rfl rfl rfl rfl rfl hv2 rfl (src_mem (List.mem_append_right _ (mem_at 0 rfl)) rfl rfl (by simp [Value.oneCell'])) (by omega) (by omega) [] (fun _ => ⟨_, rfl⟩) ?_
                               intro w2 hw2 _
                               show GH _ _ _ _ _ _ _ [_, _, _, _, _, _] _
                               refine GH_take 13 rfl rfl rfl rfl (by kernel_rfl) (by kernel_rfl) (by kernel_rfl) (fun _ _ => (V_fieldAddr (fo := 4) rfl Tryd.underlying122 rfl infTellTo_120 rfl rfl rfl)) ?_
                               refine GH_all [14] (by kernel_rfl) (by decide) ?_
                               refine (And.intro ?_ trivial)
                               · skip
                                 refine GHop_put (l1 := [_, _]) (L' := [_, _, _, _, _, _]) rfl rfl rfl rfl (P_store1 rfl rfl rfl (mem_at 2 rfl) (by first | exact of_decide_eq_true rfl | omega | (simp [rqCells, Sl.v, opC, wkC, ivC, ltC, wtC, sv, frC, trC, srC, prC]; done) | (simp [rqCells, Sl.v, opC, wkC, ivC, ltC, wtC, sv, frC, trC, srC, prC]; omega) | (simp [rqCells, Sl.v, opC, wkC, ivC, ltC, wtC, sv, frC, trC, srC, prC] at *; omega)) infTellTo_120 rfl rfl) rfl [] rfl ?_
                                 refine GH_done (by kernel_rfl) ?_
                                 refine G_inBlock ?_
                                 refine G_region (l := [0, 1, 2]) rfl ?_
                                 refine G_val rfl rfl rfl rfl (V_move rfl rfl) ?_
                                 first
                                   | refine G_val rfl rfl rfl rfl ((V_add rfl rfl rfl).int (wrap_i64 (by omega))) ?_
                                   | refine G_val rfl rfl rfl rfl (V_add rfl rfl rfl) ?_
                                 refine G_val rfl rfl rfl rfl (V_assign rfl rfl) ?_
                                 refine G_done ?_
                                 refine G_sub ?_ [2, 2, 2, 2] ?_ (ih2 (k + 1, w1, w2, ys ++ [.slice fp fn_ fq], zs ++ [.bool y.g]) ?_ ?_)
                                 · (refine (And.intro ?_ (And.intro ?_ (And.intro ?_ (And.intro ?_ (And.intro ?_ trivial))))) <;> first | rfl | exact slot_int (by omega) | exact slot_int (by simp))
                                 · exact ⟨_, rfl⟩
                                 · exact ⟨by omega, hw1, hw2⟩
                                 · (first | omega | (dsimp only; omega))
                       · skip
                         refine GHop_val rfl rfl rfl rfl (V_load1 rfl rfl (by rw [← hmem]; exact List.mem_append_left _ (List.mem_cons_of_mem _ (in_ps (List.mem_of_getElem? hx) in_pr1))) (nth_of (cell_at hss sr_len hy 2 (by omega) rfl)) Tryd.underlying4 rfl) ?_
                         refine GH_all [1, 11] (by kernel_rfl) (by decide) ?_
                         refine (And.intro ?_ (And.intro ?_ trivial))
                         · skip
                           refine GHop_val rfl rfl rfl rfl (V_load1 rfl rfl (List.mem_append_right _ (mem_at 1 rfl)) rfl Tryd.underlying120 rfl) ?_
                           refine GH_all [11] (by kernel_rfl) (by decide) ?_
                           refine (And.intro ?_ trivial)
                           · skip
                             refine GHop_new rfl rfl rfl rfl (N_buildAll (s := 1) (cs := [_]) rfl Tryd.underlying120 infTellTo_4 rfl rfl rfl rfl rfl rfl rfl rfl rfl) [] (fun _ => ⟨_, rfl⟩) (fun b66 => ?_)
                             refine GH_all [12] (by kernel_rfl) (by decide) ?_
                             refine (And.intro ?_ trivial)
                             · skip
                               refine GHop_append (l1 := [_, _, _, _]) (s := v2) (nn := k) (m := 1) (news := [.bool y.g]) (bt := 1) rfl rfl rfl rfl Tryd.underlying120 Tryd.underlying120 (by first | exact .inl rfl | exact .inr ⟨_, rfl⟩) infTellTo_4 rfl rfl rfl rfl rfl rfl hv2 rfl (src_mem (List.mem_append_right _ (mem_at 0 rfl)) rfl rfl (by simp [Value.oneCell'])) (by omega) (by omega) [] (fun _ => ⟨_, rfl⟩) ?_
                               intro w2 hw2 _
                               show GH _ _ _ _ _ _ _ [_, _, _, _, _, _] _
                               refine GH_take 13 rfl rfl rfl rfl (by kernel_rfl) (by kernel_rfl) (by kernel_rfl) (fun _ _ => (V_fieldAddr (fo := 4) rfl Tryd.underlying122 rfl infTellTo_120 rfl rfl rfl)) ?_
                               refine GH_all [14] (by kernel_rfl) (by decide) ?_
                               refine (And.intro ?_ trivial)
                               · skip
                                 refine GHop_put (l1 := [_, _]) (L' := [_, _, _, _, _, _]) rfl rfl rfl rfl (P_store1 rfl rfl rfl (mem_at 2 rfl) (by first | exact of_decide_eq_true rfl | omega | (simp [rqCells, Sl.v, opC, wkC, ivC, ltC, wtC, sv, frC, trC, srC, prC]; done) | (simp [rqCells, Sl.v, opC, wkC, ivC, ltC, wtC, sv, frC, trC, srC, prC]; omega) | (simp [rqCells, Sl.v, opC, wkC, ivC, ltC, wtC, sv, frC, trC, srC, prC] at *; omega)) infTellTo_120 rfl rfl) rfl [] rfl ?_
                                 refine GH_done (by kernel_rfl) ?_
                                 refine G_inBlock ?_
                                 refine G_region (l := [0, 1, 2]) rfl ?_
                                 refine G_val rfl rfl rfl rfl (V_move rfl rfl) ?_
                                 first
                                   | refine G_val rfl rfl rfl rfl ((V_add rfl rfl rfl).int (wrap_i64 (by omega))) ?_
                                   | refine G_val rfl rfl rfl rfl (V_add rfl rfl rfl) ?_
                                 refine G_val rfl rfl rfl rfl (V_assign rfl rfl) ?_
                                 refine G_done ?_
                                 refine G_sub ?_ [2, 2, 2, 2] ?_ (ih2 (k + 1, w1, w2, ys ++ [.slice fp fn_ fq], zs ++ [.bool y.g]) ?_ ?_)
                                 · (refine (And.intro ?_ (And.intro ?_ (And.intro ?_ (And.intro ?_ (And.intro ?_ trivial))))) <;> first | rfl | exact slot_int (by omega) | exact slot_int (by simp))
                                 · exact ⟨_, rfl⟩
                                 · exact ⟨by omega, hw1, hw2⟩
                                 · (first | omega | (dsimp only; omega))
                         · skip
                           refine GHop_new rfl rfl rfl rfl (N_buildAll (s := 1) (cs := [_]) rfl Tryd.underlying120 infTellTo_4 rfl rfl rfl rfl rfl rfl rfl rfl rfl) [] (fun _ => ⟨_, rfl⟩) (fun b66 => ?_)
                           refine GH_all [1] (by kernel_rfl) (by decide) ?_
                           refine (And.intro ?_ trivial)
                           · skip
                             refine GHop_val rfl rfl rfl rfl (V_load1 rfl rfl (List.mem_append_right _ (mem_at 2 rfl)) rfl Tryd.underlying120 rfl) ?_
                             refine GH_all [12] (by kernel_rfl) (by decide) ?_
                             refine (And.intro ?_ trivial)
                             · skip
                               refine GHop_append (l1 := [_, _, _, _]) (s := v2) (nn := k) (m := 1) (news := [.bool y.g]) (bt := 1) rfl rfl rfl rfl Tryd.underlying120 Tryd.underlying120 (by first | exact .inl rfl | exact .inr ⟨_, rfl⟩) infTellTo_4 rfl rfl rfl rfl rfl rfl hv2 rfl (src_mem (List.mem_append_right _ (mem_at 0 rfl)) rfl rfl (by simp [Value.oneCell'])) (by omega) (by omega) [] (fun _ => ⟨_, rfl⟩) ?_
                               intro w2 hw2 _
                               show GH _ _ _ _ _ _ _ [_, _, _, _, _, _] _
                               refine GH_take 13 rfl rfl rfl rfl (by kernel_rfl) (by kernel_rfl) (by kernel_rfl) (fun _ _ => (V_fieldAddr (fo := 4) rfl Tryd.underlying122 rfl infTellTo_120 rfl rfl rfl)) ?_
                               refine GH_all [14] (by kernel_rfl) (by decide) ?_
                               refine (And.intro ?_ trivial)
                               · skip
                                 refine GHop_put (l1 := [_, _]) (L' := [_, _, _, _, _, _]) rfl rfl rfl rfl (P_store1 rfl rfl rfl (mem_at 2 rfl) (by first | exact of_decide_eq_true rfl | omega | (simp [rqCells, Sl.v, opC, wkC, ivC, ltC, wtC, sv, frC, trC, srC, prC]; done) | (simp [rqCells, Sl.v, opC, wkC, ivC, ltC, wtC, sv, frC, trC, srC, prC]; omega) | (simp [rqCells, Sl.v, opC, wkC, ivC, ltC, wtC, sv, frC, trC, srC, prC] at *; omega)) infTellTo_120 rfl rfl) rfl [] rfl ?_
                                 refine GH_done (by kernel_rfl) ?_
                                 refine G_inBlock ?_
                                 refine G_region (l := [0, 1, 2]) rfl ?_
                                 refine G_val rfl rfl rfl rfl (V_move rfl rfl) ?_
                                 first
                                   | refine G_val rfl rfl rfl rfl ((V_add rfl rfl rfl).int (wrap_i64 (by omega))) ?_
                                   | refine G_val rfl rfl rfl rfl (V_add rfl rfl rfl) ?_
                                 refine G_val rfl rfl rfl rfl (V_assign rfl rfl) ?_
                                 refine G_done ?_
                                 refine G_sub ?_ [2, 2, 2, 2] ?_ (ih2 (k + 1, w1, w2, ys ++ [.slice fp fn_ fq], zs ++ [.bool y.g]) ?_ ?_)
                                 · (refine (And.intro ?_ (And.intro ?_ (And.intro ?_ (And.intro ?_ (And.intro ?_ trivial))))) <;> first | rfl | exact slot_int (by omega) | exact slot_int (by simp))
                                 · exact ⟨_, rfl⟩
                                 · exact ⟨by omega, hw1, hw2⟩
                                 · (first | omega | (dsimp only; omega))
             · skip
               refine GHop_callM (L2 := [_, _, _, _]) rfl rfl rfl rfl rfl rfl Tryd.call56 (to_shares y.s.p y.s.ob y.s.off y.s.cap y.s.cs y.s.T y.s.fr y.s.l hyo.s hyo.i) [] rfl (fun z hz => List.mem_append_left _ (sub_share (List.mem_of_getElem? hx) (List.mem_of_getElem? hy) z hz)) [] (by rintro v post ⟨⟨fp, fn_, fq, rfl⟩, rfl⟩; exact ⟨_, rfl⟩) ?_
               rintro v post ⟨⟨fp, fn_, fq, rfl⟩, rfl⟩
               show GH _ _ _ _ _ _ _ [_, _, _, _] _
               refine GH_all [1, 12] (by kernel_rfl) (by decide) ?_
               refine (And.intro ?_ (And.intro ?_ trivial))
               · skip
                 refine GHop_val rfl rfl rfl rfl (V_load1 rfl rfl (List.mem_append_right _ (mem_at 0 rfl)) rfl Tryd.underlying119 rfl) ?_
                 refine GH_all [12] (by kernel_rfl) (by decide) ?_
                 refine (And.intro ?_ trivial)
                 · skip
                   refine GHop_new rfl rfl rfl rfl (N_buildAll (s := 1) (cs := [_]) rfl Tryd.underlying119 infTellTo_123 rfl rfl rfl rfl rfl rfl rfl rfl rfl) [] (fun _ => ⟨_, rfl⟩) (fun b52 => ?_)
                   refine GH_all [13] (by kernel_rfl) (by decide) ?_
                   refine (And.intro ?_ trivial)
                   · skip
                     refine GHop_append (l1 := [_, _]) (s := v1) (nn := k) (m := 1) (news := [.slice fp fn_ fq]) (bt := 24) rfl rfl rfl rfl Tryd.underlying119 Tryd.underlying119 (by first | exact .inl rfl | exact .inr ⟨_, rfl⟩) infTellTo_123 rfl rfl rfl rfl rfl rfl hv1 rfl (src_mem (List.mem_append_right _ (mem_at 0 rfl)) rfl rfl (by simp [Value.oneCell'])) (by omega) (by omega) [] (fun _ => ⟨_, rfl⟩) ?_
                     intro w1 hw1 _
                     show GH _ _ _ _ _ _ _ [_, _, _, _, _] _
                     refine GH_take 14 rfl rfl rfl rfl (by kernel_rfl) (by kernel_rfl) (by kernel_rfl) (fun _ _ => (V_fieldAddr (fo := 3) rfl Tryd.underlying122 rfl infTellTo_119 rfl rfl rfl)) ?_
                     refine GH_all [15] (by kernel_rfl) (by decide) ?_
                     refine (And.intro ?_ trivial)
                     · skip
                       refine GHop_put (l1 := [_]) (L' := [_, _, _, _, _]) rfl rfl rfl rfl (P_store1 rfl rfl rfl (mem_at 1 rfl) (by first | exact of_decide_eq_true rfl | omega | (simp [rqCells, Sl.v, opC, wkC, ivC, ltC, wtC, sv, frC, trC, srC, prC]; done) | (simp [rqCells, Sl.v, opC, wkC, ivC, ltC, wtC, sv, frC, trC, srC, prC]; omega) | (simp [rqCells, Sl.v, opC, wkC, ivC, ltC, wtC, sv, frC, trC, srC, prC] at *; omega)) infTellTo_119 rfl rfl) rfl [] rfl ?_
                       refine GH_done (by kernel_rfl) ?_
                       refine GH_start (Lq := []) (isq := []) (m := 15) mixedK rfl rfl ?_
                       refine GH_take 0 rfl rfl rfl rfl (by kernel_rfl) (by kernel_rfl) (by kernel_rfl) (fun _ _ => (V_fieldAddr (fo := 4) rfl Tryd.underlying122 rfl infTellTo_120 rfl rfl rfl)) ?_
                       refine GH_take 2 rfl rfl rfl rfl (by kernel_rfl) (by kernel_rfl) (by kernel_rfl) (fun _ _ => (V_move rfl rfl)) ?_
                       refine GH_take 3 rfl rfl rfl rfl (by kernel_rfl) (by kernel_rfl) (by kernel_rfl) (fun _ _ => (V_move rfl rfl)) ?_
                       first
                         | refine GH_take 4 rfl rfl rfl rfl (by kernel_rfl) (by kernel_rfl) (by kernel_rfl) (fun _ _ => (V_indexAddrN (s := 4) rfl Tryd.underlying36 infTellTo_74 rfl rfl rfl rfl (by omega))) ?_
                         | refine GH_take 4 rfl rfl rfl rfl (by kernel_rfl) (by kernel_rfl) (by kernel_rfl) (fun _ _ => (V_indexAddr (s := 4) rfl Tryd.underlying36 infTellTo_74 rfl rfl rfl (by omega) (by first | omega | (simp [rqCells, Sl.v, opC, wkC, ivC, ltC, wtC, sv, frC, trC, srC, prC]; done) | (simp [rqCells, Sl.v, opC, wkC, ivC, ltC, wtC, sv, frC, trC, srC, prC]; omega) | (simp [rqCells, Sl.v, opC, wkC, ivC, ltC, wtC, sv, frC, trC, srC, prC] at *; omega)))) ?_
                       refine GH_take 5 rfl rfl rfl rfl (by kernel_rfl) (by kernel_rfl) (by kernel_rfl) (fun _ _ => (V_fieldAddr (fo := _ + 3) rfl Tryd.underlying74 rfl infTellTo_72 rfl rfl rfl)) ?_
                       refine GH_take 6 rfl rfl rfl rfl (by kernel_rfl) (by kernel_rfl) (by kernel_rfl) (fun _ _ => (V_load1 rfl rfl (List.mem_append_left _ (mem_at 0 rfl)) (nth_of (cell_at hs pr_len hx 3 (by omega) rfl)) Tryd.underlying72 rfl)) ?_
                       rw [hbs1]
                       refine GH_take 7 rfl rfl rfl rfl (by kernel_rfl) (by kernel_rfl) (by kernel_rfl) (fun _ _ => (V_move rfl rfl)) ?_
                       first
                         | refine GH_take 8 rfl rfl rfl rfl (by kernel_rfl) (by kernel_rfl) (by kernel_rfl) (fun _ _ => (V_indexAddrN (s := 3) rfl Tryd.underlying72 infTellTo_78 rfl rfl rfl rfl (by omega))) ?_
                         | refine GH_take 8 rfl rfl rfl rfl (by kernel_rfl) (by kernel_rfl) (by kernel_rfl) (fun _ _ => (V_indexAddr (s := 3) rfl Tryd.underlying72 infTellTo_78 rfl rfl rfl (by omega) (by first | omega | (simp [rqCells, Sl.v, opC, wkC, ivC, ltC, wtC, sv, frC, trC, srC, prC]; done) | (simp [rqCells, Sl.v, opC, wkC, ivC, ltC, wtC, sv, frC, trC, srC, prC]; omega) | (simp [rqCells, Sl.v, opC, wkC, ivC, ltC, wtC, sv, frC, trC, srC, prC] at *; omega)))) ?_
                       refine GH_take 9 rfl rfl rfl rfl (by kernel_rfl) (by kernel_rfl) (by kernel_rfl) (fun _ _ => (V_fieldAddr (fo := _ + 2) rfl Tryd.underlying78 rfl infTellTo_4 rfl rfl rfl)) ?_
                       refine GH_all [1, 10] (by kernel_rfl) (by decide) ?_
                       refine (And.intro ?_ (And.intro ?_ trivial))
                       · skip
                         refine GHop_val rfl rfl rfl rfl (V_load1 rfl rfl (List.mem_append_right _ (mem_at 1 rfl)) rfl Tryd.underlying120 rfl) ?_
                         refine GH_all [10] (by kernel_rfl) (by decide) ?_
                         refine (And.intro ?_ trivial)
                         · skip
                           refine GHop_val rfl rfl rfl rfl (V_load1 rfl rfl (by rw [← hmem]; exact List.mem_append_left _ (List.mem_cons_of_mem _ (in_ps (List.mem_of_getElem? hx) in_pr1))) (nth_of (cell_at hss sr_len hy 2 (by omega) rfl)) Tryd.underlying4 rfl) ?_
                           refine GH_all [11] (by kernel_rfl) (by decide) ?_
                           refine (And.intro ?_ trivial)
                           · skip
                             refine GHop_new rfl rfl rfl rfl (N_buildAll (s := 1) (cs := [_]) rfl Tryd.underlying120 infTellTo_4 rfl rfl rfl rfl rfl rfl rfl rfl rfl) [] (fun _ => ⟨_, rfl⟩) (fun b66 => ?_)
                             refine GH_all [12] (by kernel_rfl) (by decide) ?_
                             refine (And.intro ?_ trivial)
                             · skip
                               refine GHop_append (l1 := [_, _, _, _]) (s := v2) (nn := k) (m := 1) (news := [.bool y.g]) (bt := 1) rfl rfl rfl rfl Tryd.underlying120 Tryd.underlying120 (by first | exact .inl rfl | exact .inr ⟨_, rfl⟩) infTellTo_4 rfl rfl rfl rfl rfl rfl hv2 rfl (src_mem (List.mem_append_right _ (mem_at 0 rfl)) rfl rfl (by simp [Value.oneCell'])) (by omega) (by omega) [] (fun _ => ⟨_, rfl⟩) ?_
                               intro w2 hw2 _
                               show GH _ _ _ _ _ _ _ [_, _, _, _, _, _] _
                               refine GH_take 13 rfl rfl rfl rfl (by kernel_rfl) (by kernel_rfl) (by kernel_rfl) (fun _ _ => (V_fieldAddr (fo := 4) rfl Tryd.underlying122 rfl infTellTo_120 rfl rfl rfl)) ?_
                               refine GH_all [14] (by kernel_rfl) (by decide) ?_
                               refine (And.intro ?_ trivial)
                               · skip
                                 refine GHop_put (l1 := [_, _]) (L' := [_, _, _, _, _, _]) rfl rfl rfl rfl (P_store1 rfl rfl rfl (mem_at 2 rfl) (by first | exact of_decide_eq_true rfl | omega | (simp [rqCells, Sl.v, opC, wkC, ivC, ltC, wtC, sv, frC, trC, srC, prC]; done) | (simp [rqCells, Sl.v, opC, wkC, ivC, ltC, wtC, sv, frC, trC, srC, prC]; omega) | (simp [rqCells, Sl.v, opC, wkC, ivC, ltC, wtC, sv, frC, trC, srC, prC] at *; omega)) infTellTo_120 rfl rfl) rfl [] rfl ?_
                                 refine GH_done (by kernel_rfl) ?_
                                 refine G_inBlock ?_
                                 refine G_region (l := [0, 1, 2]) rfl ?_
                                 refine G_val rfl rfl rfl rfl (V_move rfl rfl) ?_
                                 first
                                   | refine G_val rfl rfl rfl rfl ((V_add rfl rfl rfl).int (wrap_i64 (by omega))) ?_
                                   | refine G_val rfl rfl rfl rfl (V_add rfl rfl rfl) ?_
                                 refine G_val rfl rfl rfl rfl (V_assign rfl rfl) ?_
                                 refine G_done ?_
                                 refine G_sub ?_ [2, 2, 2, 2] ?_ (ih2 (k + 1, w1, w2, ys ++ [.slice fp fn_ fq], zs ++ [.bool y.g]) ?_ ?_)
                                 · (refine (And.intro ?_ (And.intro ?_ (And.intro ?_ (And.intro ?_ (And.intro ?_ trivial))))) <;> first | rfl | exact slot_int (by omega) | exact slot_int (by simp))
                                 · exact ⟨_, rfl⟩
                                 · exact ⟨by omega, hw1, hw2⟩
                                 · (first | omega | (dsimp only; omega))
                       · skip
                         refine GHop_val rfl rfl rfl rfl (V_load1 rfl rfl (by rw [← hmem]; exact List.mem_append_left _ (List.mem_cons_of_mem _ (in_ps (List.mem_of_getElem? hx) in_pr1))) (nth_of (cell_at hss sr_len hy 2 (by omega) rfl)) Tryd.underlying4 rfl) ?_
                         refine GH_all [1, 11] (by kernel_rfl) (by decide) ?_
                         refine (And.intro ?_ (And.intro ?_ trivial))
                         · skip
                           refine GHop_val rfl rfl rfl rfl (V_load1 rfl rfl (List.mem_append_right _ (mem_at 1 rfl)) rfl Tryd.underlying120 rfl) ?_
                           refine GH_all [11] (by kernel_rfl) (by decide) ?_
                           refine (And.intro ?_ trivial)
                           · skip
                             refine GHop_new rfl rfl rfl rfl (N_buildAll (s := 1) (cs := [_]) rfl Tryd.underlying120 infTellTo_4 rfl rfl rfl rfl rfl rfl rfl rfl rfl) [] (fun _ => ⟨_, rfl⟩) (fun b66 => ?_)
                             refine GH_all [12] (by kernel_rfl) (by decide) ?_
                             refine (And.intro ?_ trivial)
                             · skip
                               refine GHop_append (l1 := [_, _, _, _]) (s := v2) (nn := k) (m := 1) (news := [.bool y.g]) (bt := 1) rfl rfl rfl rfl Tryd.underlying120 Tryd.underlying120 (by first | exact .inl rfl | exact .inr ⟨_, rfl⟩) infTellTo_4 rfl rfl rfl rfl rfl rfl hv2 rfl (src_mem (List.mem_append_right _ (mem_at 0 rfl)) rfl rfl (by simp [Value.oneCell'])) (by omega) (by omega) [] (fun _ => ⟨_, rfl⟩) ?_
                               intro w2 hw2 _
                               show GH _ _ _ _ _ _ _ [_, _, _, _, _, _] _
                               refine GH_take 13 rfl rfl rfl rfl (by kernel_rfl) (by kernel_rfl) (by kernel_rfl) (fun _ _ => (V_fieldAddr (fo := 4) rfl Tryd.underlying122 rfl infTellTo_120 rfl rfl rfl)) ?_
                               refine GH_all [14] (by kernel_rfl) (by decide) ?_
                               refine (And.intro ?_ trivial)
                               · skip
                                 refine GHop_put (l1 := [_, _]) (L' := [_, _, _, _, _, _]) rfl rfl rfl rfl (P_store1 rfl rfl rfl (mem_at 2 rfl) (by first | exact of_decide_eq_true rfl | omega | (simp [rqCells, Sl.v, opC, wkC, ivC, ltC, wtC, sv, frC, trC, srC, prC]; done) | (simp [rqCells, Sl.v, opC, wkC, ivC, ltC, wtC, sv, frC, trC, srC, prC]; omega) | (simp [rqCells, Sl.v, opC, wkC, ivC, ltC, wtC, sv, frC, trC, srC, prC] at *; omega)) infTellTo_120 rfl rfl) rfl [] rfl ?_
                                 refine GH_done (by kernel_rfl) ?_
                                 refine G_inBlock ?_
                                 refine G_region (l := [0, 1, 2]) rfl ?_
                                 refine G_val rfl rfl rfl rfl (V_move rfl rfl) ?_
                                 first
                                   | refine G_val rfl rfl rfl rfl ((V_add rfl rfl rfl).int (wrap_i64 (by omega))) ?_
                                   | refine G_val rfl rfl rfl rfl (V_add rfl rfl rfl) ?_
                                 refine G_val rfl rfl rfl rfl (V_assign rfl rfl) ?_
                                 refine G_done ?_
                                 refine G_sub ?_ [2, 2, 2, 2] ?_ (ih2 (k + 1, w1, w2, ys ++ [.slice fp fn_ fq], zs ++ [.bool y.g]) ?_ ?_)
                                 · (refine (And.intro ?_ (And.intro ?_ (And.intro ?_ (And.intro ?_ (And.intro ?_ trivial))))) <;> first | rfl | exact slot_int (by omega) | exact slot_int (by simp))
                                 · exact ⟨_, rfl⟩
                                 · exact ⟨by omega, hw1, hw2⟩
                                 · (first | omega | (dsimp only; omega))
                         · skip
                           refine GHop_new rfl rfl rfl rfl (N_buildAll (s := 1) (cs := [_]) rfl Tryd.underlying120 infTellTo_4 rfl rfl rfl rfl rfl rfl rfl rfl rfl) [] (fun _ => ⟨_, rfl⟩) (fun b66 => ?_)
                           refine GH_all [1] (by kernel_rfl) (by decide) ?_
                           refine (And.intro ?_ trivial)
                           · skip
                             refine GHop_val rfl rfl rfl rfl (V_load1 rfl rfl (List.mem_append_right _ (mem_at 2 rfl)) rfl Tryd.underlying120 rfl) ?_
                             refine GH_all [12] (by kernel_rfl) (by decide) ?_
                             refine (And.intro ?_ trivial)
                             · skip
                               refine GHop_append (l1 := [_, _, _, _]) (s := v2) (nn := k) (m := 1) (news := [.bool y.g]) (bt := 1) rfl rfl rfl rfl Tryd.underlying120 Tryd.underlying120 (by first | exact .inl rfl | exact .inr ⟨_, rfl⟩) infTellTo_4 rfl rfl rfl rfl rfl rfl hv2 rfl (src_mem (List.mem_append_right _ (mem_at 0 rfl)) rfl rfl (by simp [Value.oneCell'])) (by omega) (by omega) [] (fun _ => ⟨_, rfl⟩) ?_
                               intro w2 hw2 _
                               show GH _ _ _ _ _ _ _ [_, _, _, _, _, _] _
                               refine GH_take 13 rfl rfl rfl rfl (by kernel_rfl) (by kernel_rfl) (by kernel_rfl) (fun _ _ => (V_fieldAddr (fo := 4) rfl Tryd.underlying122 rfl infTellTo_120 rfl rfl rfl)) ?_
                               refine GH_all [14] (by kernel_rfl) (by decide) ?_
                               refine (And.intro ?_ trivial)
                               · skip
                                 refine GHop_put (l1 := [_, _]) (L' := [_, _, _, _, _, _]) rfl rfl rfl rfl (P_store1 rfl rfl rfl (mem_at 2 rfl) (by first | exact of_decide_eq_true rfl | omega | (simp [rqCells, Sl.v, opC, wkC, ivC, ltC, wtC, sv, frC, trC, srC, prC]; done) | (simp [rqCells, Sl.v, opC, wkC, ivC, ltC, wtC, sv, frC, trC, srC, prC]; omega) | (simp [rqCells, Sl.v, opC, wkC, ivC, ltC, wtC, sv, frC, trC, srC, prC] at *; omega)) infTellTo_120 rfl rfl) rfl [] rfl ?_
                                 refine GH_done (by kernel_rfl) ?_
                                 refine G_inBlock ?_
                                 refine G_region (l := [0, 1, 2]) rfl ?_
                                 refine G_val rfl rfl rfl rfl (V_move rfl rfl) ?_
                                 first
                                   | refine G_val rfl rfl rfl rfl ((V_add rfl rfl rfl).int (wrap_i64 (by omega))) ?_
                                   | refine G_val rfl rfl rfl rfl (V_add rfl rfl rfl) ?_
                                 refine G_val rfl rfl rfl rfl (V_assign rfl rfl) ?_
                                 refine G_done ?_
                                 refine G_sub ?_ [2, 2, 2, 2] ?_ (ih2 (k + 1, w1, w2, ys ++ [.slice fp fn_ fq], zs ++ [.bool y.g]) ?_ ?_)
                                 · (refine (And.intro ?_ (And.intro ?_ (And.intro ?_ (And.intro ?_ (And.intro ?_ trivial))))) <;> first | rfl | exact slot_int (by omega) | exact slot_int (by simp))
                                 · exact ⟨_, rfl⟩
                                 · exact ⟨by omega, hw1, hw2⟩
                                 · (first | omega | (dsimp only; omega))
               · skip
                 refine GHop_new rfl rfl rfl rfl (N_buildAll (s := 1) (cs := [_]) rfl Tryd.underlying119 infTellTo_123 rfl rfl rfl rfl rfl rfl rfl rfl rfl) [] (fun _ => ⟨_, rfl⟩) (fun b52 => ?_)
                 refine GH_all [1] (by kernel_rfl) (by decide) ?_
                 refine (And.intro ?_ trivial)
                 · skip
                   refine GHop_val rfl rfl rfl rfl (V_load1 rfl rfl (List.mem_append_right _ (mem_at 1 rfl)) rfl Tryd.underlying119 rfl) ?_
                   refine GH_all [13] (by kernel_rfl) (by decide) ?_
                   refine (And.intro ?_ trivial)
                   · skip
                     refine GHop_append (l1 := [_, _]) (s := v1) (nn := k) (m := 1) (news := [.slice fp fn_ fq]) (bt := 24) rfl rfl rfl rfl Tryd.underlying119 Tryd.underlying119 (by first | exact .inl rfl | exact .inr ⟨_, rfl⟩) infTellTo_123 rfl rfl rfl rfl rfl rfl hv1 rfl (src_mem (List.mem_append_right _ (mem_at 0 rfl)) rfl rfl (by simp [Value.oneCell'])) (by omega) (by omega) [] (fun _ => ⟨_, rfl⟩) ?_
                     intro w1 hw1 _
                     show GH _ _ _ _ _ _ _ [_, _, _, _, _] _
                     refine GH_take 14 rfl rfl rfl rfl (by kernel_rfl) (by kernel_rfl) (by kernel_rfl) (fun _ _ => (V_fieldAddr (fo := 3) rfl Tryd.underlying122 rfl infTellTo_119 rfl rfl rfl)) ?_
                     refine GH_all [15] (by kernel_rfl) (by decide) ?_
                     refine (And.intro ?_ trivial)
                     · skip
                       refine GHop_put (l1 := [_]) (L' := [_, _, _, _, _]) rfl rfl rfl rfl (P_store1 rfl rfl rfl (mem_at 1 rfl) (by first | exact of_decide_eq_true rfl | omega | (simp [rqCells, Sl.v, opC, wkC, ivC, ltC, wtC, sv, frC, trC, srC, prC]; done) | (simp [rqCells, Sl.v, opC, wkC, ivC, ltC, wtC, sv, frC, trC, srC, prC]; omega) | (simp [rqCells, Sl.v, opC, wkC, ivC, ltC, wtC, sv, frC, trC, srC, prC] at *; omega)) infTellTo_119 rfl rfl) rfl [] rfl ?_
                       refine GH_done (by kernel_rfl) ?_
                       refine GH_start (Lq := []) (isq := []) (m := 15) mixedK rfl rfl ?_
                       refine GH_take 0 rfl rfl rfl rfl (by kernel_rfl) (by kernel_rfl) (by kernel_rfl) (fun _ _ => (V_fieldAddr (fo := 4) rfl Tryd.underlying122 rfl infTellTo_120 rfl rfl rfl)) ?_
                       refine GH_take 2 rfl rfl rfl rfl (by kernel_rfl) (by kernel_rfl) (by kernel_rfl) (fun _ _ => (V_move rfl rfl)) ?_
                       refine GH_take 3 rfl rfl rfl rfl (by kernel_rfl) (by kernel_rfl) (by kernel_rfl) (fun _ _ => (V_move rfl rfl)) ?_
                       first
                         | refine GH_take 4 rfl rfl rfl rfl (by kernel_rfl) (by kernel_rfl) (by kernel_rfl) (fun _ _ => (V_indexAddrN (s := 4) rfl Tryd.underlying36 infTellTo_74 rfl rfl rfl rfl (by omega))) ?_
                         | refine GH_take 4 rfl rfl rfl rfl (by kernel_rfl) (by kernel_rfl) (by kernel_rfl) (fun _ _ => (V_indexAddr (s := 4) rfl Tryd.underlying36 infTellTo_74 rfl rfl rfl (by omega) (by first | omega | (simp [rqCells, Sl.v, opC, wkC, ivC, ltC, wtC, sv, frC, trC, srC, prC]; done) | (simp [rqCells, Sl.v, opC, wkC, ivC, ltC, wtC, sv, frC, trC, srC, prC]; omega) | (simp [rqCells, Sl.v, opC, wkC, ivC, ltC, wtC, sv, frC, trC, srC, prC] at *; omega)))) ?_
                       refine GH_take 5 rfl rfl rfl rfl (by kernel_rfl) (by kernel_rfl) (by kernel_rfl) (fun _ _ => (V_fieldAddr (fo := _ + 3) rfl Tryd.underlying74 rfl infTellTo_72 rfl rfl rfl)) ?_
                       refine GH_take 6 rfl rfl rfl rfl (by kernel_rfl) (by kernel_rfl) (by kernel_rfl) (fun _ _ => (V_load1 rfl rfl (List.mem_append_left _ (mem_at 0 rfl)) (nth_of (cell_at hs pr_len hx 3 (by omega) rfl)) Tryd.underlying72 rfl)) ?_
                       rw [hbs1]
                       refine GH_take 7 rfl rfl rfl rfl (by kernel_rfl) (by kernel_rfl) (by kernel_rfl) (fun _ _ => (V_move rfl rfl)) ?_
                       first
                         | refine GH_take 8 rfl rfl rfl rfl (by kernel_rfl) (by kernel_rfl) (by kernel_rfl) (fun _ _ => (V_indexAddrN (s := 3) rfl Tryd.underlying72 infTellTo_78 rfl rfl rfl rfl (by omega))) ?_
                         | refine GH_take 8 rfl rfl rfl rfl (by kernel_rfl) (by kernel_rfl) (by kernel_rfl) (fun _ _ => (V_indexAddr (s := 3) rfl Tryd.underlying72 infTellTo_78 rfl rfl rfl (by omega) (by first | omega | (simp [rqCells, Sl.v, opC, wkC, ivC, ltC, wtC, sv, frC, trC, srC, prC]; done) | (simp [rqCells, Sl.v, opC, wkC, ivC, ltC, wtC, sv, frC, trC, srC, prC]; omega) | (simp [rqCells, Sl.v, opC, wkC, ivC, ltC, wtC, sv, frC, trC, srC, prC] at *; omega)))) ?_
                       refine GH_take 9 rfl rfl rfl rfl (by kernel_rfl) (by kernel_rfl) (by kernel_rfl) (fun _ _ => (V_fieldAddr (fo := _ + 2) rfl Tryd.underlying78 rfl infTellTo_4 rfl rfl rfl)) ?_
                       refine GH_all [1, 10] (by kernel_rfl) (by decide) ?_
                       refine (And.intro ?_ (And.intro ?_ trivial))
                       · skip
                         refine GHop_val rfl rfl rfl rfl (V_load1 rfl rfl (List.mem_append_right _ (mem_at 1 rfl)) rfl Tryd.underlying120 rfl) ?_
                         refine GH_all [10] (by kernel_rfl) (by decide) ?_
                         refine (And.intro ?_ trivial)
                         · skip
                           refine GHop_val rfl rfl rfl rfl (V_load1 rfl rfl (by rw [← hmem]; exact List.mem_append_left _ (List.mem_cons_of_mem _ (in_ps (List.mem_of_getElem? hx) in_pr1))) (nth_of (cell_at hss sr_len hy 2 (by omega) rfl)) Tryd.underlying4 rfl) ?_
                           refine GH_all [11] (by kernel_rfl) (by decide) ?_
                           refine (And.intro ?_ trivial)
                           · skip
                             refine GHop_new rfl rfl rfl rfl (N_buildAll (s := 1) (cs := [_]) rfl Tryd.underlying120 infTellTo_4 rfl rfl rfl rfl rfl rfl rfl rfl rfl) [] (fun _ => ⟨_, rfl⟩) (fun b66 => ?_)
                             refine GH_all [12] (by kernel_rfl) (by decide) ?_
                             refine (And.intro ?_ trivial)
                             · skip
                               refine GHop_append (l1 := [_, _, _, _]) (s := v2) (nn := k) (m := 1) (news := [.bool y.g]) (bt := 1) rfl rfl rfl rfl Tryd.underlying120 Tryd.underlying120 (by first | exact .inl rfl | exact .inr ⟨_, rfl⟩) infTellTo_4 rfl rfl rfl rfl rfl rfl hv2 rfl (src_mem (List.mem_append_right _ (mem_at 0 rfl)) rfl rfl (by simp [Value.oneCell'])) (by omega) (by omega) [] (fun _ => ⟨_, rfl⟩) ?_
                               intro w2 hw2 _
                               show GH _ _ _ _ _ _ _ [_, _, _, _, _, _] _
                               refine GH_take 13 rfl rfl rfl rfl (by kernel_rfl) (by kernel_rfl) (by kernel_rfl) (fun _ _ => (V_fieldAddr (fo := 4) rfl Tryd.underlying122 rfl infTellTo_120 rfl rfl rfl)) ?_
                               refine GH_all [14] (by kernel_rfl) (by decide) ?_
                               refine (And.intro ?_ trivial)
                               · skip
                                 refine GHop_put (l1 := [_, _]) (L' := [_, _, _, _, _, _]) rfl rfl rfl rfl (P_store1 rfl rfl rfl (mem_at 2 rfl) (by first | exact of_decide_eq_true rfl | omega | (simp [rqCells, Sl.v, opC, wkC, ivC, ltC, wtC, sv, frC, trC, srC, prC]; done) | (simp [rqCells, Sl.v, opC, wkC, ivC, ltC, wtC, sv, frC, trC, srC, prC]; omega) | (simp [rqCells, Sl.v, opC, wkC, ivC, ltC, wtC, sv, frC, trC, srC, prC] at *; omega)) infTellTo_120 rfl rfl) rfl [] rfl ?_
                                 refine GH_done (by kernel_rfl) ?_
                                 refine G_inBlock ?_
                                 refine G_region (l := [0, 1, 2]) rfl ?_
                                 refine G_val rfl rfl rfl rfl (V_move rfl rfl) ?_
                                 first
                                   | refine G_val rfl rfl rfl rfl ((V_add rfl rfl rfl).int (wrap_i64 (by omega))) ?_
                                   | refine G_val rfl rfl rfl rfl (V_add rfl rfl rfl) ?_
                                 refine G_val rfl rfl rfl rfl (V_assign rfl rfl) ?_
                                 refine G_done ?_
                                 refine G_sub ?_ [2, 2, 2, 2] ?_ (ih2 (k + 1, w1, w2, ys ++ [.slice fp fn_ fq], zs ++ [.bool y.g]) ?_ ?_)
                                 · (refine (And.intro ?_ (And.intro ?_ (And.intro ?_ (And.intro ?_ (And.intro ?_ trivial))))) <;> first | rfl | exact slot_int (by omega) | exact slot_int (by simp))
                                 · exact ⟨_, rfl⟩
                                 · exact ⟨by omega, hw1, hw2⟩
                                 · (first | omega | (dsimp only; omega))
                       · skip
                         refine GHop_val rfl rfl rfl rfl (V_load1 rfl rfl (by rw [← hmem]; exact List.mem_append_left _ (List.mem_cons_of_mem _ (in_ps (List.mem_of_getElem? hx) in_pr1))) (nth_of (cell_at hss sr_len hy 2 (by omega) rfl)) Tryd.underlying4 rfl) ?_
                         refine GH_all [1, 11] (by kernel_rfl) (by decide) ?_
                         refine (And.intro ?_ (And.intro ?_ trivial))
                         · skip
                           refine GHop_val rfl rfl rfl rfl (V_load1 rfl rfl (List.mem_append_right _ (mem_at 1 rfl)) rfl Tryd.underlying120 rfl) ?_
                           refine GH_all [11] (by kernel_rfl) (by decide) ?_
                           refine (And.intro ?_ trivial)
                           · skip
                             refine GHop_new rfl rfl rfl rfl (N_buildAll (s := 1) (cs := [_]) rfl Tryd.underlying120 infTellTo_4 rfl rfl rfl rfl rfl rfl rfl rfl rfl) [] (fun _ => ⟨_, rfl⟩) (fun b66 => ?_)
                             refine GH_all [12] (by kernel_rfl) (by decide) ?_
                             refine (And.intro ?_ trivial)
                             · skip
                               refine GHop_append (l1 := [_, _, _, _]) (s := v2) (nn := k) (m := 1) (news := [.bool y.g]) (bt := 1) rfl rfl rfl rfl Tryd.underlying120 Tryd.underlying120 (by first | exact .inl rfl | exact .inr ⟨_, rfl⟩) infTellTo_4 rfl rfl rfl rfl rfl rfl hv2 rfl (src_mem (List.mem_append_right _ (mem_at 0 rfl)) rfl rfl (by simp [Value.oneCell'])) (by omega) (by omega) [] (fun _ => ⟨_, rfl⟩) ?_
                               intro w2 hw2 _
                               show GH _ _ _ _ _ _ _ [_, _, _, _, _, _] _
                               refine GH_take 13 rfl rfl rfl rfl (by kernel_rfl) (by kernel_rfl) (by kernel_rfl) (fun _ _ => (V_fieldAddr (fo := 4) rfl Tryd.underlying122 rfl infTellTo_120 rfl rfl rfl)) ?_
                               refine GH_all [14] (by kernel_rfl) (by decide) ?_
                               refine (And.intro ?_ trivial)
                               · skip
                                 refine GHop_put (l1 := [_, _]) (L' := [_, _, _, _, _, _]) rfl rfl rfl rfl (P_store1 rfl rfl rfl (mem_at 2 rfl) (by first | exact of_decide_eq_true rfl | omega | (simp [rqCells, Sl.v, opC, wkC, ivC, ltC, wtC, sv, frC, trC, srC, prC]; done) | (simp [rqCells, Sl.v, opC, wkC, ivC, ltC, wtC, sv, frC, trC, srC, prC]; omega) | (simp [rqCells, Sl.v, opC, wkC, ivC, ltC, wtC, sv, frC, trC, srC, prC] at *; omega)) infTellTo_120 rfl rfl) rfl [] rfl ?_
                                 refine GH_done (by kernel_rfl) ?_
                                 refine G_inBlock ?_
                                 refine G_region (l := [0, 1, 2]) rfl ?_
                                 refine G_val rfl rfl rfl rfl (V_move rfl rfl) ?_
                                 first
                                   | refine G_val rfl rfl rfl rfl ((V_add rfl rfl rfl).int (wrap_i64 (by omega))) ?_
                                   | refine G_val rfl rfl rfl rfl (V_add rfl rfl rfl) ?_
                                 refine G_val rfl rfl rfl rfl (V_assign rfl rfl) ?_
                                 refine G_done ?_
                                 refine G_sub ?_ [2, 2, 2, 2] ?_ (ih2 (k + 1, w1, w2, ys ++ [.slice fp fn_ fq], zs ++ [.bool y.g]) ?_ ?_)
                                 · (refine (And.intro ?_ (And.intro ?_ (And.intro ?_ (And.intro ?_ (And.intro ?_ trivial))))) <;> first | rfl | exact slot_int (by omega) | exact slot_int (by simp))
                                 · exact ⟨_, rfl⟩
                                 · exact ⟨by omega, hw1, hw2⟩
                                 · (first | omega | (dsimp only; omega))
                         · skip
                           refine GHop_new rfl rfl rfl rfl (N_buildAll (s := 1) (cs := [_]) rfl Tryd.underlying120 infTellTo_4 rfl rfl rfl rfl rfl rfl rfl rfl rfl) [] (fun _ => ⟨_, rfl⟩) (fun b66 => ?_)
                           refine GH_all [1] (by kernel_rfl) (by decide) ?_
                           refine (And.intro ?_ trivial)
                           · skip
                             refine GHop_val rfl rfl rfl rfl (V_load1 rfl rfl (List.mem_append_right _ (mem_at 2 rfl)) rfl Tryd.underlying120 rfl) ?_
                             refine GH_all [12] (by kernel_rfl) (by decide) ?_
                             refine (And.intro ?_ trivial)
                             · skip
                               refine GHop_append (l1 := [_, _, _, _]) (s := v2) (nn := k) (m := 1) (news := [.bool y.g]) (bt := 1) rfl rfl rfl rfl Tryd.underlying120 Tryd.underlying120 (by first | exact .inl rfl | exact .inr ⟨_, rfl⟩) infTellTo_4 rfl rfl rfl rfl rfl rfl hv2 rfl (src_mem (List.mem_append_right _ (mem_at 0 rfl)) rfl rfl (by simp [Value.oneCell'])) (by omega) (by omega) [] (fun _ => ⟨_, rfl⟩) ?_
                               intro w2 hw2 _
                               show GH _ _ _ _ _ _ _ [_, _, _, _, _, _] _
                               refine GH_take 13 rfl rfl rfl rfl (by kernel_rfl) (by kernel_rfl) (by kernel_rfl) (fun _ _ => (V_fieldAddr (fo := 4) rfl Tryd.underlying122 rfl infTellTo_120 rfl rfl rfl)) ?_
                               refine GH_all [14] (by kernel_rfl) (by decide) ?_
                               refine (And.intro ?_ trivial)
                               · skip
                                 refine GHop_put (l1 := [_, _]) (L' := [_, _, _, _, _, _]) rfl rfl rfl rfl (P_store1 rfl rfl rfl (mem_at 2 rfl) (by first | exact of_decide_eq_true rfl | omega | (simp [rqCells, Sl.v, opC, wkC, ivC, ltC, wtC, sv, frC, trC, srC, prC]; done) | (simp [rqCells, Sl.v, opC, wkC, ivC, ltC, wtC, sv, frC, trC, srC, prC]; omega) | (simp [rqCells, Sl.v, opC, wkC, ivC, ltC, wtC, sv, frC, trC, srC, prC] at *; omega)) infTellTo_120 rfl rfl) rfl [] rfl ?_
                                 refine GH_done (by kernel_rfl) ?_
                                 refine G_inBlock ?_
                                 refine G_region (l := [0, 1, 2]) rfl ?_
                                 refine G_val rfl rfl rfl rfl (V_move rfl rfl) ?_
                                 first
                                   | refine G_val rfl rfl rfl rfl ((V_add rfl rfl rfl).int (wrap_i64 (by omega))) ?_
                                   | refine G_val rfl rfl rfl rfl (V_add rfl rfl rfl) ?_
                                 refine G_val rfl rfl rfl rfl (V_assign rfl rfl) ?_
                                 refine G_done ?_
                                 refine G_sub ?_ [2, 2, 2, 2] ?_ (ih2 (k + 1, w1, w2, ys ++ [.slice fp fn_ fq], zs ++ [.bool y.g]) ?_ ?_)
                                 · (refine (And.intro ?_ (And.intro ?_ (And.intro ?_ (And.intro ?_ (And.intro ?_ trivial))))) <;> first | rfl | exact slot_int (by omega) | exact slot_int (by simp))
                                 · exact ⟨_, rfl⟩
                                 · exact ⟨by omega, hw1, hw2⟩
                                 · (first | omega | (dsimp only; omega))
         refine G_exit rfl ?_
         refine G_region (l := [0, 1, 2, 3, 4]) rfl ?_
         refine G_val rfl rfl rfl rfl (V_move rfl rfl) ?_
         first
           | refine G_val rfl rfl rfl rfl (V_loadW (s := 5) rfl rfl (List.mem_append_right _ (mem_at 0 rfl)) Tryd.underlying122 rfl infTellTo_122 rfl (by first | rfl | (simp [bcells_length, rqCells, Sl.v, opC, wkC, ivC, ltC, wtC, sv, frC, trC, srC, prC]; done) | (simp [bcells_length, rqCells, Sl.v, opC, wkC, ivC, ltC, wtC, sv, frC, trC, srC, prC]; omega) | (simp [bcells_length, *, rqCells, Sl.v, opC, wkC, ivC, ltC, wtC, sv, frC, trC, srC, prC]; done))) ?_
           | refine G_val rfl rfl rfl rfl (V_loadA (s := 5) rfl rfl (List.mem_append_right _ (mem_at 0 rfl)) Tryd.underlying122 rfl infTellTo_122 rfl rfl (by first | rfl | (simp [bcells_length, rqCells, Sl.v, opC, wkC, ivC, ltC, wtC, sv, frC, trC, srC, prC]; done) | (simp [bcells_length, rqCells, Sl.v, opC, wkC, ivC, ltC, wtC, sv, frC, trC, srC, prC]; omega) | (simp [bcells_length, *, rqCells, Sl.v, opC, wkC, ivC, ltC, wtC, sv, frC, trC, srC, prC]; done))) ?_
         refine G_new rfl rfl rfl rfl (N_buildAll (s := 5) (cs := [_, _, _, _, _]) rfl Tryd.underlying44 infTellTo_122 rfl rfl rfl rfl rfl rfl rfl rfl rfl) (fun b71 => ?_)
         refine G_append (l1 := [_, _, _, _]) (s := u) (nn := i) (m := 1) (news := [.string (bs x.n), .int .i64 x.u, .slice x.v.p x.v.l.length x.v.cap, v1.v k, v2.v k]) (bt := 96) rfl rfl rfl rfl Tryd.underlying44 Tryd.underlying44 (by first | exact .inl rfl | exact .inr ⟨_, rfl⟩) infTellTo_122 rfl rfl rfl rfl rfl rfl hux rfl (src_mem (List.mem_append_right _ (mem_at 0 rfl)) rfl rfl (by simp [Value.oneCell', Sl.v])) (by omega) (by omega) ?_
         intro u1 hu1 _
         show G _ _ _ [_, _, _, _, _] _
         refine G_val rfl rfl rfl rfl (V_assign rfl rfl) ?_
         refine G_done ?_
         refine G_inBlock ?_
         refine G_region (l := [0, 1, 2]) rfl ?_
         refine G_val rfl rfl rfl rfl (V_move rfl rfl) ?_
         first
           | refine G_val rfl rfl rfl rfl ((V_add rfl rfl rfl).int (wrap_i64 (by omega))) ?_
           | refine G_val rfl rfl rfl rfl (V_add rfl rfl rfl) ?_
         refine G_val rfl rfl rfl rfl (V_assign rfl rfl) ?_
         refine G_done ?_
         refine G_sub ?_ [4] ?_ (ih (i + 1, u1, xs ++ [.string (bs x.n), .int .i64 x.u, .slice x.v.p x.v.l.length x.v.cap, v1.v k, v2.v k]) ?_ ?_)
         · (refine (And.intro ?_ (And.intro ?_ (And.intro ?_ trivial))) <;> first | rfl | exact slot_int (by omega) | exact slot_int (by simp))
         · exact ⟨_, rfl⟩
         · exact ⟨by omega, hu1⟩
         · (first | omega | (dsimp only; omega))
  refine G_exit rfl ?_
  refine G_seq ?_
  refine G_region (l := [0, 1]) rfl ?_
  refine G_val rfl rfl rfl rfl (V_move rfl rfl) ?_
  refine G_val rfl rfl rfl rfl (V_assign rfl rfl) ?_
  refine G_done ?_
  refine G_ret (post := []) Tryd.func41 rfl (RVs_cons (RV_tmp rfl) RVs_nil) [] rfl ?_
  dsimp only [packed]
  exact ⟨⟨_, _, _, rfl⟩, rfl⟩

set_option maxRecDepth 100000 in
set_option maxHeartbeats 2000000 in
theorem to_state (tk : Nat) (dr : Bool) (n2 n3 n4 n5 n6 : Int) (x12 : Option Addr) (n12 q12 : Nat) (o7 : Option Nat) (p7 q7 : Nat) (l7 : List Opr) (o8 : Option Nat) (p8 q8 : Nat) (l8 : List Opr) (o9 : Option Nat) (p9 q9 : Nat) (l9 : List Wkr) (o10 : Option Nat) (p10 q10 : Nat) (l10 : List Ivr) (o13 : Option Nat) (p13 q13 : Nat) (l13 : List Ltr) (o14 : Option Nat) (p14 q14 : Nat) (l14 : List Wtr) (o11 : Option Nat) (p11 q11 : Nat) (c11 : Array Value) (T11 : TypeId) (f11 : Nat × Nat) (l11 : List Pr) (s11 : Sees 4 o11 p11 q11 c11 (l11.flatMap prC) l11.length) (hok : ∀ x ∈ l11, PrOk x) (hn : l11.length ≤ 1048576) :
    Ct Tryd.prog 17 [.agg #[.int .u64 (tk : Int), .bool dr, .int .i64 n2, .int .i64 n3, .int .i64 n4, .int .i64 n5, .int .i64 n6, sv o7 p7 l7.length q7, sv o8 p8 l8.length q8, sv o9 p9 l9.length q9, sv o10 p10 l10.length q10, sv o11 p11 l11.length q11, .slice x12 n12 q12, sv o13 p13 l13.length q13, sv o14 p14 l14.length q14]] ((o11, .cells c11 T11 f11) :: l11.flatMap prK) [] fun v post => (∃ x11 n11 q11, v = .agg #[.int .u64 (tk : Int), .bool dr, .int .i64 n2, .int .i64 n3, .int .i64 n4, .int .i64 n5, .int .i64 n6, sv o7 p7 l7.length q7, sv o8 p8 l8.length q8, sv o9 p9 l9.length q9, sv o10 p10 l10.length q10, .slice x11 n11 q11, .slice x12 n12 q12, sv o13 p13 l13.length q13, sv o14 p14 l14.length q14]) ∧ post = [] := by
 refine ct_of Tryd.func17 rfl rfl (fun w0 => ?_)
 show G _ _ [(0, _)] _ _
 refine G_seq ?_
 refine G_region (l := [0, 1]) rfl ?_
 refine G_new rfl rfl rfl rfl (N_boxA rfl rfl) (fun b1 => ?_)
 refine G_new rfl rfl rfl rfl (N_allocA rfl infTellTo_46 rfl) (fun b2 => ?_)
 refine G_done ?_
 refine G_seq ?_
 refine GH_start (Lq := [_]) (isq := [1]) (m := 33) mixedK rfl rfl ?_
 refine GH_take 0 rfl rfl rfl rfl (by kernel_rfl) (by kernel_rfl) (by kernel_rfl) (fun _ _ => (V_fieldAddr (fo := 0) rfl Tryd.underlying41 rfl infTellTo_32 rfl rfl rfl)) ?_
 refine GH_take 1 rfl rfl rfl rfl (by kernel_rfl) (by kernel_rfl) (by kernel_rfl) (fun _ _ => (V_load1 rfl rfl (List.mem_append_right _ (mem_at 0 rfl)) rfl Tryd.underlying32 rfl)) ?_
 refine GH_take 2 rfl rfl rfl rfl (by kernel_rfl) (by kernel_rfl) (by kernel_rfl) (fun _ _ => (V_fieldAddr (fo := 1) rfl Tryd.underlying41 rfl infTellTo_4 rfl rfl rfl)) ?_
 refine GH_take 3 rfl rfl rfl rfl (by kernel_rfl) (by kernel_rfl) (by kernel_rfl) (fun _ _ => (V_load1 rfl rfl (List.mem_append_right _ (mem_at 0 rfl)) rfl Tryd.underlying4 rfl)) ?_
 refine GH_take 4 rfl rfl rfl rfl (by kernel_rfl) (by kernel_rfl) (by kernel_rfl) (fun _ _ => (V_fieldAddr (fo := 2) rfl Tryd.underlying41 rfl infTellTo_3 rfl rfl rfl)) ?_
 refine GH_take 5 rfl rfl rfl rfl (by kernel_rfl) (by kernel_rfl) (by kernel_rfl) (fun _ _ => (V_load1 rfl rfl (List.mem_append_right _ (mem_at 0 rfl)) rfl Tryd.underlying3 rfl)) ?_
 refine GH_take 6 rfl rfl rfl rfl (by kernel_rfl) (by kernel_rfl) (by kernel_rfl) (fun _ _ => (V_fieldAddr (fo := 3) rfl Tryd.underlying41 rfl infTellTo_3 rfl rfl rfl)) ?_
 refine GH_take 7 rfl rfl rfl rfl (by kernel_rfl) (by kernel_rfl) (by kernel_rfl) (fun _ _ => (V_load1 rfl rfl (List.mem_append_right _ (mem_at 0 rfl)) rfl Tryd.underlying3 rfl)) ?_
 refine GH_take 8 rfl rfl rfl rfl (by kernel_rfl) (by kernel_rfl) (by kernel_rfl) (fun _ _ => (V_fieldAddr (fo := 4) rfl Tryd.underlying41 rfl infTellTo_3 rfl rfl rfl)) ?_
 refine GH_take 9 rfl rfl rfl rfl (by kernel_rfl) (by kernel_rfl) (by kernel_rfl) (fun _ _ => (V_load1 rfl rfl (List.mem_append_right _ (mem_at 0 rfl)) rfl Tryd.underlying3 rfl)) ?_
 refine GH_take 10 rfl rfl rfl rfl (by kernel_rfl) (by kernel_rfl) (by kernel_rfl) (fun _ _ => (V_fieldAddr (fo := 5) rfl Tryd.underlying41 rfl infTellTo_3 rfl rfl rfl)) ?_
 refine GH_take 11 rfl rfl rfl rfl (by kernel_rfl) (by kernel_rfl) (by kernel_rfl) (fun _ _ => (V_load1 rfl rfl (List.mem_append_right _ (mem_at 0 rfl)) rfl Tryd.underlying3 rfl)) ?_
 refine GH_take 12 rfl rfl rfl rfl (by kernel_rfl) (by kernel_rfl) (by kernel_rfl) (fun _ _ => (V_fieldAddr (fo := 6) rfl Tryd.underlying41 rfl infTellTo_3 rfl rfl rfl)) ?_
 refine GH_take 13 rfl rfl rfl rfl (by kernel_rfl) (by kernel_rfl) (by kernel_rfl) (fun _ _ => (V_load1 rfl rfl (List.mem_append_right _ (mem_at 0 rfl)) rfl Tryd.underlying3 rfl)) ?_
 refine GH_take 14 rfl rfl rfl rfl (by kernel_rfl) (by kernel_rfl) (by kernel_rfl) (fun _ _ => (V_fieldAddr (fo := 7) rfl Tryd.underlying41 rfl infTellTo_33 rfl rfl rfl)) ?_
 refine GH_take 15 rfl rfl rfl rfl (by kernel_rfl) (by kernel_rfl) (by kernel_rfl) (fun _ _ => (V_load1 rfl rfl (List.mem_append_right _ (mem_at 0 rfl)) rfl Tryd.underlying33 rfl)) ?_
 refine GH_take 16 rfl rfl rfl rfl (by kernel_rfl) (by kernel_rfl) (by kernel_rfl) (fun _ _ => (V_fieldAddr (fo := 8) rfl Tryd.underlying41 rfl infTellTo_33 rfl rfl rfl)) ?_
 refine GH_take 17 rfl rfl rfl rfl (by kernel_rfl) (by kernel_rfl) (by kernel_rfl) (fun _ _ => (V_load1 rfl rfl (List.mem_append_right _ (mem_at 0 rfl)) rfl Tryd.underlying33 rfl)) ?_
 refine GH_take 18 rfl rfl rfl rfl (by kernel_rfl) (by kernel_rfl) (by kernel_rfl) (fun _ _ => (V_fieldAddr (fo := 9) rfl Tryd.underlying41 rfl infTellTo_34 rfl rfl rfl)) ?_
 refine GH_take 19 rfl rfl rfl rfl (by kernel_rfl) (by kernel_rfl) (by kernel_rfl) (fun _ _ => (V_load1 rfl rfl (List.mem_append_right _ (mem_at 0 rfl)) rfl Tryd.underlying34 rfl)) ?_
 refine GH_take 20 rfl rfl rfl rfl (by kernel_rfl) (by kernel_rfl) (by kernel_rfl) (fun _ _ => (V_fieldAddr (fo := 10) rfl Tryd.underlying41 rfl infTellTo_35 rfl rfl rfl)) ?_
 refine GH_take 21 rfl rfl rfl rfl (by kernel_rfl) (by kernel_rfl) (by kernel_rfl) (fun _ _ => (V_load1 rfl rfl (List.mem_append_right _ (mem_at 0 rfl)) rfl Tryd.underlying35 rfl)) ?_
 refine GH_take 22 rfl rfl rfl rfl (by kernel_rfl) (by kernel_rfl) (by kernel_rfl) (fun _ _ => (V_fieldAddr (fo := 11) rfl Tryd.underlying41 rfl infTellTo_36 rfl rfl rfl)) ?_
 refine GH_take 23 rfl rfl rfl rfl (by kernel_rfl) (by kernel_rfl) (by kernel_rfl) (fun _ _ => (V_load1 rfl rfl (List.mem_append_right _ (mem_at 0 rfl)) rfl Tryd.underlying36 rfl)) ?_
 refine GH_take 25 rfl rfl rfl rfl (by kernel_rfl) (by kernel_rfl) (by kernel_rfl) (fun _ _ => (V_fieldAddr (fo := 12) rfl Tryd.underlying41 rfl infTellTo_37 rfl rfl rfl)) ?_
 refine GH_take 26 rfl rfl rfl rfl (by kernel_rfl) (by kernel_rfl) (by kernel_rfl) (fun _ _ => (V_load1 rfl rfl (List.mem_append_right _ (mem_at 0 rfl)) rfl Tryd.underlying37 rfl)) ?_
 refine GH_take 27 rfl rfl rfl rfl (by kernel_rfl) (by kernel_rfl) (by kernel_rfl) (fun _ _ => (V_fieldAddr (fo := 13) rfl Tryd.underlying41 rfl infTellTo_38 rfl rfl rfl)) ?_
 refine GH_take 28 rfl rfl rfl rfl (by kernel_rfl) (by kernel_rfl) (by kernel_rfl) (fun _ _ => (V_load1 rfl rfl (List.mem_append_right _ (mem_at 0 rfl)) rfl Tryd.underlying38 rfl)) ?_
 refine GH_take 29 rfl rfl rfl rfl (by kernel_rfl) (by kernel_rfl) (by kernel_rfl) (fun _ _ => (V_fieldAddr (fo := 14) rfl Tryd.underlying41 rfl infTellTo_39 rfl rfl rfl)) ?_
 refine GH_take 30 rfl rfl rfl rfl (by kernel_rfl) (by kernel_rfl) (by kernel_rfl) (fun _ _ => (V_load1 rfl rfl (List.mem_append_right _ (mem_at 0 rfl)) rfl Tryd.underlying39 rfl)) ?_
 refine GH_all [24] (by kernel_rfl) (by decide) ?_
 refine (And.intro ?_ trivial)
 · skip
   refine GHop_callM (L2 := [_, _]) rfl rfl rfl rfl rfl rfl Tryd.call41 (to_pools (o11.map fun b => ⟨b, p11, none⟩) o11 p11 q11 c11 T11 f11 l11 ⟨s11.le, s11.max, hn, .inl ⟨rfl, s11⟩⟩ hok) [] rfl (fun z hz => List.mem_append_left _ hz) [1] (by rintro v post ⟨⟨x11, n11, q11_, rfl⟩, rfl⟩; exact ⟨_, rfl⟩) ?_
   rintro v post ⟨⟨x11, n11, q11_, rfl⟩, rfl⟩
   show GH _ _ _ _ _ _ _ [_, _] _
   refine GH_take 31 rfl rfl rfl rfl (by kernel_rfl) (by kernel_rfl) (by kernel_rfl) (fun _ _ => (V_buildS (cs := [_, _, _, _, _, _, _, _, _, _, _, _, _, _, _]) rfl Tryd.underlying46 infTellTo_46 rfl plcTellTo_46 rfl rfl rfl)) ?_
   refine GH_all [32] (by kernel_rfl) (by decide) ?_
   refine (And.intro ?_ trivial)
   · skip
     refine GHop_put (l1 := []) (L' := [_, _]) rfl rfl rfl rfl (P_storeA (s := 15) rfl rfl rfl (mem_at 0 rfl) (by first | rfl | (simp [bcells_length, rqCells, Sl.v, opC, wkC, ivC, ltC, wtC, sv, frC, trC, srC, prC]; done) | (simp [bcells_length, rqCells, Sl.v, opC, wkC, ivC, ltC, wtC, sv, frC, trC, srC, prC]; omega) | (simp [bcells_length, *, rqCells, Sl.v, opC, wkC, ivC, ltC, wtC, sv, frC, trC, srC, prC]; done)) infTellTo_46 rfl (by first | rfl | (simp [bcells_length, rqCells, Sl.v, opC, wkC, ivC, ltC, wtC, sv, frC, trC, srC, prC]; done) | (simp [bcells_length, rqCells, Sl.v, opC, wkC, ivC, ltC, wtC, sv, frC, trC, srC, prC]; omega) | (simp [bcells_length, *, rqCells, Sl.v, opC, wkC, ivC, ltC, wtC, sv, frC, trC, srC, prC]; done)) (by first | rfl | exact bcells_all _ | (simp [Value.oneCell', rqCells, Sl.v, opC, wkC, ivC, ltC, wtC, sv, frC, trC, srC, prC]; done) | (simp [Value.oneCell', *, rqCells, Sl.v, opC, wkC, ivC, ltC, wtC, sv, frC, trC, srC, prC]; done))) rfl [1] rfl ?_
     refine GH_done (by kernel_rfl) ?_
     refine G_ret (post := []) Tryd.func17 rfl (RVs_cons (RV_cell (s := 15) rfl (List.mem_append_right _ (mem_at 0 rfl)) Tryd.underlying46 rfl infTellTo_46 rfl (by first | rfl | (simp [bcells_length, rqCells, Sl.v, opC, wkC, ivC, ltC, wtC, sv, frC, trC, srC, prC]; done) | (simp [bcells_length, rqCells, Sl.v, opC, wkC, ivC, ltC, wtC, sv, frC, trC, srC, prC]; omega) | (simp [bcells_length, *, rqCells, Sl.v, opC, wkC, ivC, ltC, wtC, sv, frC, trC, srC, prC]; done))) RVs_nil) [] rfl ?_
     dsimp only [packed]
     exact ⟨⟨_, _, _, rfl⟩, rfl⟩

end
end Go.Proofs.YtjnaeoelnmhjfaaDoor
