/- The walks of the document's answer to layer 21: which replies may be, and each as bytes. -/
import Derived.Test.YtkidmbaakdaflaaReplyW
set_option linter.unusedSimpArgs false
set_option linter.unusedVariables false
namespace Go.Proofs.Ytkidmbaakdaflaa
open Go Go.RowKit

section
theorem infReplyR_3 : Try.prog.info? 3 = some Try.t3 := by kernel_rfl
theorem infReplyR_9 : Try.prog.info? 9 = some Try.t9 := by kernel_rfl
theorem infReplyR_23 : Try.prog.info? 23 = some Try.t23 := by kernel_rfl
theorem infReplyR_25 : Try.prog.info? 25 = some Try.t25 := by kernel_rfl
theorem infReplyR_94 : Try.prog.info? 94 = some Try.t94 := by kernel_rfl
theorem infReplyR_96 : Try.prog.info? 96 = some Try.t96 := by kernel_rfl


theorem sees_field {α : Type} {f : α → List Value} {sz : Nat} {ob : Option Nat} {off cap : Nat} {cs : Array Value} {l : List α} (h : Sees sz ob off cap cs (l.flatMap f) l.length) (hf : ∀ a, (f a).length = sz) {i : Nat} {a : α} (ha : l[i]? = some a) (k : Nat) (hk : k < sz) {v : Value} (hv : (f a)[k]? = some v) :
    cs[off + i * sz + k]? = some v := by
  have h1 := flat_part f hf l ha k
  rw [if_pos hk, hv] at h1
  have h2 := h.at h1
  rwa [← Nat.add_assoc] at h2
theorem may_ff {r : Rp} {ls : List Lt} (h : (100 < (r.to_.length : Int)) ∨ (100 < (r.cmd.length : Int)) ∨ (32 < (ls.length : Int)) ∨ (!!(r.code :: r.nums).any outB) = true ∨ ls.any badL = true) : mayR r ls = false := by
  unfold mayR
  rcases h with h | h | h | h | h
  · have : ¬ (r.to_.length : Int) ≤ 100 := by omega
    simp [this]
  · have : ¬ (r.cmd.length : Int) ≤ 100 := by omega
    simp [this]
  · have : ¬ (ls.length : Int) ≤ 32 := by omega
    simp [this]
  · rw [Bool.not_not, List.any_cons, Bool.or_eq_true] at h
    rcases h with h | h <;> simp [h, -List.any_eq_true, -List.any_eq_false]
  · simp [h, -List.any_eq_true, -List.any_eq_false]
theorem may_tt {r : Rp} {ls : List Lt} (h1 : ¬ (100 < (r.to_.length : Int))) (h2 : ¬ (100 < (r.cmd.length : Int))) (h3 : ¬ (32 < (ls.length : Int))) (h4 : (!!(r.code :: r.nums).any outB) = false) (h5 : ls.any badL = false) : mayR r ls = true := by
  unfold mayR
  rw [Bool.not_not, List.any_cons, Bool.or_eq_false_iff] at h4
  have e1 : (r.to_.length : Int) ≤ 100 := by omega
  have e2 : (r.cmd.length : Int) ≤ 100 := by omega
  have e3 : (ls.length : Int) ≤ 32 := by omega
  simp [h4.1, h4.2, h5, e1, e2, e3, -List.any_eq_true, -List.any_eq_false]
theorem outB_or {x : Int} : outB x = (decide (x < 0) || decide (1099511627776 < x)) := by unfold outB; simp

set_option maxRecDepth 100000 in
set_option maxHeartbeats 1000000 in
theorem rr_num (x : Int) (hx : In40 x) :
    Ct Try.prog 76 [.int .i64 x] [] [] fun v post => v = .string (bs (chainI x)) ∧ post = [] := by
 obtain ⟨hx0, hx1⟩ := hx
 refine ct_of Try.func76 rfl rfl (fun w0 => ?_)
 show G _ _ [(0, _)] _ _
 refine G_seq ?_
 refine G_region (l := [0]) rfl ?_
 refine G_val rfl rfl rfl rfl (V_assign rfl rfl) ?_
 refine G_done ?_
 refine G_seq ?_
 refine G_region (l := [0, 1, 2, 3]) rfl ?_
 refine G_val rfl rfl rfl rfl (V_move rfl rfl) ?_
 first
   | refine G_val rfl rfl rfl rfl ((V_conv rfl rfl Try.underlying3 Try.underlying94).int (wrap_u64 (by omega))) ?_
   | refine G_val rfl rfl rfl rfl (V_conv rfl rfl Try.underlying3 Try.underlying94) ?_
 refine G_call (L2 := []) rfl rfl rfl rfl rfl rfl Try.call78 (ct_rchain _ (by omega) (by omega)) [] [] rfl rfl ?_
 rintro v post ⟨rfl, rfl⟩
 refine G_val rfl rfl rfl rfl (V_assign rfl rfl) ?_
 refine G_done ?_
 refine G_ret (post := []) Try.func76 rfl (RVs_cons (RV_tmp rfl) RVs_nil) [] rfl ?_
 dsimp only [packed]
 exact ⟨rfl, rfl⟩

set_option maxRecDepth 100000 in
set_option maxHeartbeats 1000000 in
theorem rr_in (o1 : Option Nat) (p1 q1 : Nat) (c1 : Array Value) (T1 : TypeId) (f1 : Nat × Nat) (ns : List Int) (h1 : Sees 1 o1 p1 q1 c1 (ns.map iCell) ns.length) :
    Ct Try.prog 83 [sv o1 p1 ns.length q1] [(o1, .cells c1 T1 f1)] [] fun v post => v = .bool (!ns.any outB) ∧ post = [] := by
 have hl1 := h1.le
 have hl2 := h1.max
 refine ct_of Try.func83 rfl rfl (fun w0 => ?_)
 show G _ _ [(0, _)] _ _
 refine G_seq ?_
 refine G_region (l := [0]) rfl ?_
 refine G_val rfl rfl rfl rfl (V_assign rfl rfl) ?_
 refine G_done ?_
 refine G_seq ?_
 refine G_seq ?_
 refine G_region (l := [0]) rfl ?_
 refine G_val rfl rfl rfl rfl (V_assign rfl rfl) ?_
 refine G_done ?_
 refine G_block ?_
 refine G_sub ?he2 [] ?hl2 (G_loop (X := Nat) (fun i => i ≤ ns.length ∧ (ns.take i).any outB = false) (fun i => ns.length - i) (fun i => [(0, sv o1 p1 ns.length q1), (3, .int .i64 (i : Int))]) (fun i => []) ?round2 0 ?h02)
 case he2 => exact (And.intro rfl (And.intro rfl trivial))
 case hl2 => exact ⟨_, rfl⟩
 case h02 => exact ⟨Nat.zero_le _, rfl⟩
 case round2 =>
  intro i hJ ih
  try dsimp only at hJ ih
  obtain ⟨hi, ht⟩ := hJ
  refine G_seq ?_
  refine G_seq ?_
  refine G_region (l := [0, 1, 2, 3]) rfl ?_
  refine G_val rfl rfl rfl rfl (V_move rfl rfl) ?_
  refine G_val rfl rfl rfl rfl (V_move rfl rfl) ?_
  refine G_val rfl rfl rfl rfl (V_len rfl rfl Try.underlying104 rfl) ?_
  refine G_val rfl rfl rfl rfl (V_lss rfl rfl rfl) ?_
  refine G_done ?_
  refine G_ifD rfl (fun hc1 => ?_) (fun hc1 => ?_)
  · skip
    refine G_skip ?_
    refine G_seq ?_
    refine G_block ?_
    refine G_seq ?_
    obtain ⟨x, hx⟩ := getI (show i < ns.length by omega)
    obtain ⟨b1, rfl⟩ := h1.isSome (by omega)
    refine G_region (l := [0, 1, 2, 3, 4, 5, 6, 7, 8, 9, 10, 11]) rfl ?_
    refine G_val rfl rfl rfl rfl (V_move rfl rfl) ?_
    refine G_val rfl rfl rfl rfl (V_move rfl rfl) ?_
    first
      | refine G_val rfl rfl rfl rfl (V_indexAddrN rfl Try.underlying104 infReplyR_3 rfl rfl rfl rfl (by omega)) ?_
      | refine G_val rfl rfl rfl rfl (V_indexAddr rfl Try.underlying104 infReplyR_3 rfl rfl rfl (by omega) (by first | omega | (simp [ltCells]; done) | (simp [ltCells]; omega) | (simp [ltCells] at *; omega))) ?_
    refine G_val rfl rfl rfl rfl (V_load1 rfl rfl (mem_at 0 rfl) (nth_of (h1.cell hx)) Try.underlying3 rfl) ?_
    refine G_val rfl rfl rfl rfl (V_lss rfl rfl rfl) ?_
    refine G_val rfl rfl rfl rfl (V_move rfl rfl) ?_
    refine G_splitD 15 rfl (fun hc2 => ?_) (fun hc2 => ?_)
    · skip
      refine G_off rfl rfl rfl rfl ?_
      refine G_off rfl rfl rfl rfl ?_
      refine G_off rfl rfl rfl rfl ?_
      refine G_off rfl rfl rfl rfl ?_
      refine G_off rfl rfl rfl rfl ?_
      refine G_val rfl rfl rfl rfl (V_pickT rfl rfl rfl) ?_
      refine G_done ?_
      refine G_then rfl ?_
      refine G_seq ?_
      refine G_region (l := [0]) rfl ?_
      refine G_val rfl rfl rfl rfl (V_assign rfl rfl) ?_
      refine G_done ?_
      refine G_ret (post := []) Try.func83 rfl (RVs_cons (RV_tmp rfl) RVs_nil) [] rfl ?_
      dsimp only [packed]
      first
        | exact ⟨bool_eq (by rw [any_yes hx (by rw [outB_or]; simp; omega)]; rfl), rfl⟩
        | exact ⟨bool_eq (by rw [any_end ht (by omega)]; rfl), rfl⟩
    refine G_val rfl rfl rfl rfl (V_move rfl rfl) ?_
    refine G_val rfl rfl rfl rfl (V_move rfl rfl) ?_
    first
      | refine G_val rfl rfl rfl rfl (V_indexAddrN rfl Try.underlying104 infReplyR_3 rfl rfl rfl rfl (by omega)) ?_
      | refine G_val rfl rfl rfl rfl (V_indexAddr rfl Try.underlying104 infReplyR_3 rfl rfl rfl (by omega) (by first | omega | (simp [ltCells]; done) | (simp [ltCells]; omega) | (simp [ltCells] at *; omega))) ?_
    refine G_val rfl rfl rfl rfl (V_load1 rfl rfl (mem_at 0 rfl) (nth_of (h1.cell hx)) Try.underlying3 rfl) ?_
    refine G_val rfl rfl rfl rfl (V_gtr rfl rfl rfl) ?_
    refine G_val rfl rfl rfl rfl (V_pickF rfl rfl rfl) ?_
    refine G_done ?_
    refine G_ifD rfl (fun hc3 => ?_) (fun hc3 => ?_)
    · skip
      refine G_seq ?_
      refine G_region (l := [0]) rfl ?_
      refine G_val rfl rfl rfl rfl (V_assign rfl rfl) ?_
      refine G_done ?_
      refine G_ret (post := []) Try.func83 rfl (RVs_cons (RV_tmp rfl) RVs_nil) [] rfl ?_
      dsimp only [packed]
      first
        | exact ⟨bool_eq (by rw [any_yes hx (by rw [outB_or]; simp; omega)]; rfl), rfl⟩
        | exact ⟨bool_eq (by rw [any_end ht (by omega)]; rfl), rfl⟩
    refine G_skip ?_
    refine G_inBlock ?_
    refine G_region (l := [0, 1, 2]) rfl ?_
    refine G_val rfl rfl rfl rfl (V_move rfl rfl) ?_
    first
      | refine G_val rfl rfl rfl rfl ((V_add rfl rfl rfl).int (wrap_i64 (by omega))) ?_
      | refine G_val rfl rfl rfl rfl (V_add rfl rfl rfl) ?_
    refine G_val rfl rfl rfl rfl (V_assign rfl rfl) ?_
    refine G_done ?_
    refine G_sub ?_ [] ?_ (ih (i + 1) ?_ ?_)
    · (refine (And.intro ?_ (And.intro ?_ trivial)) <;> first | rfl | exact slot_int (by omega) | exact slot_int (by simp))
    · exact ⟨_, rfl⟩
    · exact ⟨by omega, any_next ht hx (by rw [outB_or]; simp; omega)⟩
    · (first | omega | (dsimp only; omega))
  refine G_exit rfl ?_
  refine G_seq ?_
  refine G_region (l := [0]) rfl ?_
  refine G_val rfl rfl rfl rfl (V_assign rfl rfl) ?_
  refine G_done ?_
  refine G_ret (post := []) Try.func83 rfl (RVs_cons (RV_tmp rfl) RVs_nil) [] rfl ?_
  dsimp only [packed]
  first
    | exact ⟨bool_eq (by rw [any_yes hx (by rw [outB_or]; simp; omega)]; rfl), rfl⟩
    | exact ⟨bool_eq (by rw [any_end ht (by omega)]; rfl), rfl⟩

set_option maxRecDepth 100000 in
set_option maxHeartbeats 1000000 in
theorem rr_chains (o1 : Option Nat) (p1 q1 : Nat) (c1 : Array Value) (T1 : TypeId) (f1 : Nat × Nat) (ns : List Int) (h1 : Sees 1 o1 p1 q1 c1 (ns.map iCell) ns.length) (h40 : ∀ x ∈ ns, In40 x) (hn : ns.length < 1000) :
    Ct Try.prog 75 [sv o1 p1 ns.length q1] [(o1, .cells c1 T1 f1)] [] fun v post => v = .string (bs (encNums ns)) ∧ post = [] := by
 have hl1 := h1.le
 have hl2 := h1.max
 refine ct_of Try.func75 rfl rfl (fun w0 => ?_)
 show G _ _ [(0, _)] _ _
 refine G_seq ?_
 refine G_region (l := [0]) rfl ?_
 refine G_val rfl rfl rfl rfl (V_assign rfl rfl) ?_
 refine G_done ?_
 refine G_seq ?_
 refine G_region (l := [0]) rfl ?_
 refine G_val rfl rfl rfl rfl (V_assign rfl rfl) ?_
 refine G_done ?_
 refine G_seq ?_
 refine G_seq ?_
 refine G_region (l := [0]) rfl ?_
 refine G_val rfl rfl rfl rfl (V_assign rfl rfl) ?_
 refine G_done ?_
 refine G_block ?_
 refine G_sub ?he3 [] ?hl3 (G_loop (X := Nat) (fun i => i ≤ ns.length) (fun i => ns.length - i) (fun i => [(0, sv o1 p1 ns.length q1), (3, .string (bs (encNums (ns.take i)))), (4, .int .i64 (i : Int))]) (fun i => []) ?round3 0 ?h03)
 case he3 => exact (And.intro rfl (And.intro rfl (And.intro rfl trivial)))
 case hl3 => exact ⟨_, rfl⟩
 case h03 => exact Nat.zero_le _
 case round3 =>
  intro i hJ ih
  try dsimp only at hJ ih
  refine G_seq ?_
  refine G_seq ?_
  refine G_region (l := [0, 1, 2, 3]) rfl ?_
  refine G_val rfl rfl rfl rfl (V_move rfl rfl) ?_
  refine G_val rfl rfl rfl rfl (V_move rfl rfl) ?_
  refine G_val rfl rfl rfl rfl (V_len rfl rfl Try.underlying104 rfl) ?_
  refine G_val rfl rfl rfl rfl (V_lss rfl rfl rfl) ?_
  refine G_done ?_
  refine G_ifD rfl (fun hc1 => ?_) (fun hc1 => ?_)
  · skip
    refine G_skip ?_
    refine G_seq ?_
    refine G_block ?_
    obtain ⟨x, hx⟩ := getI (show i < ns.length by omega)
    obtain ⟨b1, rfl⟩ := h1.isSome (by omega)
    have hx4 := h40 x (List.mem_of_getElem? hx)
    have hen := encNums_len (ns.take i) (fun x hx => h40 x (List.mem_of_mem_take hx))
    have htl : (ns.take i).length = i := by simp; omega
    have hcl := chainI_len x hx4.1 (by have := hx4.2; omega)
    refine G_region (l := [0, 1, 2, 3, 4, 5, 6, 7]) rfl ?_
    refine G_val rfl rfl rfl rfl (V_move rfl rfl) ?_
    refine G_val rfl rfl rfl rfl (V_move rfl rfl) ?_
    refine G_val rfl rfl rfl rfl (V_move rfl rfl) ?_
    first
      | refine G_val rfl rfl rfl rfl (V_indexAddrN rfl Try.underlying104 infReplyR_3 rfl rfl rfl rfl (by omega)) ?_
      | refine G_val rfl rfl rfl rfl (V_indexAddr rfl Try.underlying104 infReplyR_3 rfl rfl rfl (by omega) (by first | omega | (simp [ltCells]; done) | (simp [ltCells]; omega) | (simp [ltCells] at *; omega))) ?_
    refine G_val rfl rfl rfl rfl (V_load1 rfl rfl (mem_at 0 rfl) (nth_of (h1.cell hx)) Try.underlying3 rfl) ?_
    refine G_call (L2 := []) rfl rfl rfl rfl rfl rfl Try.call76 (rr_num _ (by assumption)) [] [] rfl rfl ?_
    rintro v post ⟨rfl, rfl⟩
    refine G_val rfl rfl rfl rfl (V_sadd rfl rfl rfl (by first | omega | (simp [ltCells]; done) | (simp [ltCells]; omega) | (simp [ltCells] at *; omega))) ?_
    refine G_val rfl rfl rfl rfl (V_assign rfl rfl) ?_
    refine G_done ?_
    refine G_inBlock ?_
    rw [← encNums_next hx]
    refine G_region (l := [0, 1, 2]) rfl ?_
    refine G_val rfl rfl rfl rfl (V_move rfl rfl) ?_
    first
      | refine G_val rfl rfl rfl rfl ((V_add rfl rfl rfl).int (wrap_i64 (by omega))) ?_
      | refine G_val rfl rfl rfl rfl (V_add rfl rfl rfl) ?_
    refine G_val rfl rfl rfl rfl (V_assign rfl rfl) ?_
    refine G_done ?_
    refine G_sub ?_ [] ?_ (ih (i + 1) ?_ ?_)
    · (refine (And.intro ?_ (And.intro ?_ (And.intro ?_ trivial))) <;> first | rfl | exact slot_int (by omega) | exact slot_int (by simp))
    · exact ⟨_, rfl⟩
    · omega
    · (first | omega | (dsimp only; omega))
  refine G_exit rfl ?_
  refine G_seq ?_
  rw [encNums_end (ns := ns) (i := i) (by omega)]
  refine G_region (l := [0, 1]) rfl ?_
  refine G_val rfl rfl rfl rfl (V_move rfl rfl) ?_
  refine G_val rfl rfl rfl rfl (V_assign rfl rfl) ?_
  refine G_done ?_
  refine G_ret (post := []) Try.func75 rfl (RVs_cons (RV_tmp rfl) RVs_nil) [] rfl ?_
  dsimp only [packed]
  exact ⟨rfl, rfl⟩

set_option maxRecDepth 100000 in
set_option maxHeartbeats 1000000 in
theorem rr_letter (l : Lt) :
    Ct Try.prog 77 [.agg (ltCells l).toArray] [] [] fun v post => ∃ bn, v = .slice (some ⟨bn, 0, none⟩) 4 4 ∧ post = [(some bn, .cells ((l.nums).map iCell).toArray 3 (0, 0))] := by
 refine ct_of Try.func77 rfl rfl (fun w0 => ?_)
 show G _ _ [(0, _)] _ _
 refine G_seq ?_
 refine G_region (l := [0, 1]) rfl ?_
 refine G_new rfl rfl rfl rfl (N_boxA rfl rfl) (fun b1 => ?_)
 refine G_val rfl rfl rfl rfl (V_assign rfl rfl) ?_
 refine G_done ?_
 refine G_seq ?_
 refine G_region (l := [0, 1, 2, 3, 4, 5, 6, 7, 8, 9]) rfl ?_
 refine G_val rfl rfl rfl rfl (V_fieldAddr (fo := 0) rfl Try.underlying96 rfl infReplyR_3 rfl rfl rfl) ?_
 refine G_val rfl rfl rfl rfl (V_load1 rfl rfl (mem_at 0 rfl) rfl Try.underlying3 rfl) ?_
 refine G_val rfl rfl rfl rfl (V_fieldAddr (fo := 1) rfl Try.underlying96 rfl infReplyR_3 rfl rfl rfl) ?_
 refine G_val rfl rfl rfl rfl (V_load1 rfl rfl (mem_at 0 rfl) rfl Try.underlying3 rfl) ?_
 refine G_val rfl rfl rfl rfl (V_fieldAddr (fo := 2) rfl Try.underlying96 rfl infReplyR_3 rfl rfl rfl) ?_
 refine G_val rfl rfl rfl rfl (V_load1 rfl rfl (mem_at 0 rfl) rfl Try.underlying3 rfl) ?_
 refine G_val rfl rfl rfl rfl (V_fieldAddr (fo := 3) rfl Try.underlying96 rfl infReplyR_3 rfl rfl rfl) ?_
 refine G_val rfl rfl rfl rfl (V_load1 rfl rfl (mem_at 0 rfl) rfl Try.underlying3 rfl) ?_
 refine G_new rfl rfl rfl rfl (N_buildAll (s := 1) (cs := [_, _, _, _]) rfl Try.underlying104 infReplyR_3 rfl rfl rfl rfl rfl rfl rfl rfl rfl) (fun b11 => ?_)
 refine G_val rfl rfl rfl rfl (V_assign rfl rfl) ?_
 refine G_done ?_
 refine G_ret (post := [_]) Try.func77 rfl (RVs_cons (RV_tmp rfl) RVs_nil) [0] rfl ?_
 dsimp only [packed]
 exact ⟨_, rfl, rfl⟩

set_option maxRecDepth 100000 in
set_option maxHeartbeats 1000000 in
theorem rr_may (r : Rp) (o1 : Option Nat) (p1 q1 : Nat) (c1 : Array Value) (T1 : TypeId) (f1 : Nat × Nat) (ls : List Lt) (h1 : Sees 6 o1 p1 q1 c1 (ls.flatMap ltCells) ls.length) :
    Ct Try.prog 20 [(.agg (rpCells r (sv o1 p1 ls.length q1)).toArray)] [(o1, .cells c1 T1 f1)] [] fun v post => v = .bool (mayR r ls) ∧ post = [] := by
 have hl1 := h1.le
 have hl2 := h1.max
 refine ct_of Try.func20 rfl rfl (fun w0 => ?_)
 show G _ _ [(0, _)] _ _
 refine G_seq ?_
 refine G_region (l := [0, 1]) rfl ?_
 refine G_new rfl rfl rfl rfl (N_boxA rfl rfl) (fun b1 => ?_)
 refine G_val rfl rfl rfl rfl (V_assign rfl rfl) ?_
 refine G_done ?_
 refine G_seq ?_
 refine G_seq ?_
 refine G_region (l := [0, 1, 2, 3, 4, 5, 6, 7, 8, 9, 10, 11, 12, 13, 14, 15, 16, 17, 18, 19, 20, 21]) rfl ?_
 refine G_val rfl rfl rfl rfl (V_fieldAddr (fo := 0) rfl Try.underlying25 rfl infReplyR_9 rfl rfl rfl) ?_
 refine G_val rfl rfl rfl rfl (V_load1 rfl rfl (mem_at 1 rfl) rfl Try.underlying9 rfl) ?_
 refine G_val rfl rfl rfl rfl (V_slen rfl rfl Try.underlying9 rfl) ?_
 refine G_val rfl rfl rfl rfl (V_gtr rfl rfl rfl) ?_
 refine G_val rfl rfl rfl rfl (V_move rfl rfl) ?_
 refine G_splitD 8 rfl (fun hc1 => ?_) (fun hc1 => ?_)
 · skip
   refine G_off rfl rfl rfl rfl ?_
   refine G_off rfl rfl rfl rfl ?_
   refine G_off rfl rfl rfl rfl ?_
   refine G_off rfl rfl rfl rfl ?_
   refine G_val rfl rfl rfl rfl (V_pickT rfl rfl rfl) ?_
   refine G_val rfl rfl rfl rfl (V_move rfl rfl) ?_
   refine G_off rfl rfl rfl rfl ?_
   refine G_off rfl rfl rfl rfl ?_
   refine G_off rfl rfl rfl rfl ?_
   refine G_off rfl rfl rfl rfl ?_
   refine G_val rfl rfl rfl rfl (V_pickT rfl rfl rfl) ?_
   refine G_val rfl rfl rfl rfl (V_move rfl rfl) ?_
   refine G_off rfl rfl rfl rfl ?_
   refine G_off rfl rfl rfl rfl ?_
   refine G_off rfl rfl rfl rfl ?_
   refine G_off rfl rfl rfl rfl ?_
   refine G_val rfl rfl rfl rfl (V_pickT rfl rfl rfl) ?_
   refine G_done ?_
   refine G_then rfl ?_
   refine G_seq ?_
   refine G_region (l := [0]) rfl ?_
   refine G_val rfl rfl rfl rfl (V_assign rfl rfl) ?_
   refine G_done ?_
   refine G_ret (post := []) Try.func20 rfl (RVs_cons (RV_tmp rfl) RVs_nil) [] rfl ?_
   dsimp only [packed]
   first
     | exact ⟨bool_eq (may_ff (.inl (by assumption))).symm, rfl⟩
     | exact ⟨bool_eq (may_ff (.inr (.inl (by assumption)))).symm, rfl⟩
     | exact ⟨bool_eq (may_ff (.inr (.inr (.inl (by assumption))))).symm, rfl⟩
     | exact ⟨bool_eq (may_ff (.inr (.inr (.inr (.inl (by assumption)))))).symm, rfl⟩
     | exact ⟨bool_eq (may_tt (by assumption) (by assumption) (by assumption) (by assumption) (any_end ht (by omega))).symm, rfl⟩
     | exact ⟨bool_eq (may_ff (.inr (.inr (.inr (.inr (any_yes hx (by unfold badL; simp_all; try omega))))))).symm, rfl⟩
 refine G_val rfl rfl rfl rfl (V_fieldAddr (fo := 10) rfl Try.underlying25 rfl infReplyR_9 rfl rfl rfl) ?_
 refine G_val rfl rfl rfl rfl (V_load1 rfl rfl (mem_at 1 rfl) rfl Try.underlying9 rfl) ?_
 refine G_val rfl rfl rfl rfl (V_slen rfl rfl Try.underlying9 rfl) ?_
 refine G_val rfl rfl rfl rfl (V_gtr rfl rfl rfl) ?_
 refine G_val rfl rfl rfl rfl (V_pickF rfl rfl rfl) ?_
 refine G_val rfl rfl rfl rfl (V_move rfl rfl) ?_
 refine G_splitD 14 rfl (fun hc2 => ?_) (fun hc2 => ?_)
 · skip
   refine G_off rfl rfl rfl rfl ?_
   refine G_off rfl rfl rfl rfl ?_
   refine G_off rfl rfl rfl rfl ?_
   refine G_off rfl rfl rfl rfl ?_
   refine G_val rfl rfl rfl rfl (V_pickT rfl rfl rfl) ?_
   refine G_val rfl rfl rfl rfl (V_move rfl rfl) ?_
   refine G_off rfl rfl rfl rfl ?_
   refine G_off rfl rfl rfl rfl ?_
   refine G_off rfl rfl rfl rfl ?_
   refine G_off rfl rfl rfl rfl ?_
   refine G_val rfl rfl rfl rfl (V_pickT rfl rfl rfl) ?_
   refine G_done ?_
   refine G_then rfl ?_
   refine G_seq ?_
   refine G_region (l := [0]) rfl ?_
   refine G_val rfl rfl rfl rfl (V_assign rfl rfl) ?_
   refine G_done ?_
   refine G_ret (post := []) Try.func20 rfl (RVs_cons (RV_tmp rfl) RVs_nil) [] rfl ?_
   dsimp only [packed]
   first
     | exact ⟨bool_eq (may_ff (.inl (by assumption))).symm, rfl⟩
     | exact ⟨bool_eq (may_ff (.inr (.inl (by assumption)))).symm, rfl⟩
     | exact ⟨bool_eq (may_ff (.inr (.inr (.inl (by assumption))))).symm, rfl⟩
     | exact ⟨bool_eq (may_ff (.inr (.inr (.inr (.inl (by assumption)))))).symm, rfl⟩
     | exact ⟨bool_eq (may_tt (by assumption) (by assumption) (by assumption) (by assumption) (any_end ht (by omega))).symm, rfl⟩
     | exact ⟨bool_eq (may_ff (.inr (.inr (.inr (.inr (any_yes hx (by unfold badL; simp_all; try omega))))))).symm, rfl⟩
 refine G_val rfl rfl rfl rfl (V_fieldAddr (fo := 11) rfl Try.underlying25 rfl infReplyR_23 rfl rfl rfl) ?_
 refine G_val rfl rfl rfl rfl (V_load1 rfl rfl (mem_at 1 rfl) rfl Try.underlying23 rfl) ?_
 refine G_val rfl rfl rfl rfl (V_len rfl rfl Try.underlying23 rfl) ?_
 refine G_val rfl rfl rfl rfl (V_gtr rfl rfl rfl) ?_
 refine G_val rfl rfl rfl rfl (V_pickF rfl rfl rfl) ?_
 refine G_val rfl rfl rfl rfl (V_move rfl rfl) ?_
 refine G_splitD 20 rfl (fun hc3 => ?_) (fun hc3 => ?_)
 · skip
   refine G_off rfl rfl rfl rfl ?_
   refine G_off rfl rfl rfl rfl ?_
   refine G_off rfl rfl rfl rfl ?_
   refine G_off rfl rfl rfl rfl ?_
   refine G_val rfl rfl rfl rfl (V_pickT rfl rfl rfl) ?_
   refine G_done ?_
   refine G_then rfl ?_
   refine G_seq ?_
   refine G_region (l := [0]) rfl ?_
   refine G_val rfl rfl rfl rfl (V_assign rfl rfl) ?_
   refine G_done ?_
   refine G_ret (post := []) Try.func20 rfl (RVs_cons (RV_tmp rfl) RVs_nil) [] rfl ?_
   dsimp only [packed]
   first
     | exact ⟨bool_eq (may_ff (.inl (by assumption))).symm, rfl⟩
     | exact ⟨bool_eq (may_ff (.inr (.inl (by assumption)))).symm, rfl⟩
     | exact ⟨bool_eq (may_ff (.inr (.inr (.inl (by assumption))))).symm, rfl⟩
     | exact ⟨bool_eq (may_ff (.inr (.inr (.inr (.inl (by assumption)))))).symm, rfl⟩
     | exact ⟨bool_eq (may_tt (by assumption) (by assumption) (by assumption) (by assumption) (any_end ht (by omega))).symm, rfl⟩
     | exact ⟨bool_eq (may_ff (.inr (.inr (.inr (.inr (any_yes hx (by unfold badL; simp_all; try omega))))))).symm, rfl⟩
 first
   | refine G_val rfl rfl rfl rfl (V_loadW (s := 12) rfl rfl (mem_at 1 rfl) Try.underlying25 rfl infReplyR_25 rfl (by first | rfl | (simp [bcells_length, ltCells]; done) | (simp [bcells_length, ltCells]; omega) | (simp [bcells_length, *, ltCells]; done))) ?_
   | refine G_val rfl rfl rfl rfl (V_loadA (s := 12) rfl rfl (mem_at 1 rfl) Try.underlying25 rfl infReplyR_25 rfl rfl (by first | rfl | (simp [bcells_length, ltCells]; done) | (simp [bcells_length, ltCells]; omega) | (simp [bcells_length, *, ltCells]; done))) ?_
 refine G_call (L2 := [_]) rfl rfl rfl rfl rfl rfl Try.call65 (rrep_numbers _ _) [] [] rfl rfl ?_
 rintro v post ⟨bn0, rfl, rfl⟩
 show G _ _ _ [_, _] _
 refine G_call (L2 := [_, _]) rfl rfl rfl rfl rfl rfl Try.call83 (rr_in (some bn0) 0 9 _ _ _ (r.code :: r.nums) (sees_nums 9 bn0 _ rfl (by omega))) [] [1] rfl rfl ?_
 rintro v post ⟨rfl, rfl⟩
 show G _ _ _ [_, _] _
 refine G_val rfl rfl rfl rfl (V_not rfl rfl) ?_
 refine G_val rfl rfl rfl rfl (V_pickF rfl rfl rfl) ?_
 refine G_done ?_
 refine G_if rfl (fun hc4 => ?_) (fun hc4 => ?_)
 · skip
   refine G_seq ?_
   refine G_region (l := [0]) rfl ?_
   refine G_val rfl rfl rfl rfl (V_assign rfl rfl) ?_
   refine G_done ?_
   refine G_ret (post := []) Try.func20 rfl (RVs_cons (RV_tmp rfl) RVs_nil) [] rfl ?_
   dsimp only [packed]
   first
     | exact ⟨bool_eq (may_ff (.inl (by assumption))).symm, rfl⟩
     | exact ⟨bool_eq (may_ff (.inr (.inl (by assumption)))).symm, rfl⟩
     | exact ⟨bool_eq (may_ff (.inr (.inr (.inl (by assumption))))).symm, rfl⟩
     | exact ⟨bool_eq (may_ff (.inr (.inr (.inr (.inl (by assumption)))))).symm, rfl⟩
     | exact ⟨bool_eq (may_tt (by assumption) (by assumption) (by assumption) (by assumption) (any_end ht (by omega))).symm, rfl⟩
     | exact ⟨bool_eq (may_ff (.inr (.inr (.inr (.inr (any_yes hx (by unfold badL; simp_all; try omega))))))).symm, rfl⟩
 refine G_skip ?_
 refine G_seq ?_
 refine G_seq ?_
 refine G_region (l := [0]) rfl ?_
 refine G_val rfl rfl rfl rfl (V_assign rfl rfl) ?_
 refine G_done ?_
 refine G_block ?_
 refine G_sub ?he4 [1] ?hl4 (G_loop (X := Nat) (fun i => i ≤ ls.length ∧ (ls.take i).any badL = false) (fun i => ls.length - i) (fun i => [(1, .pointer (some ⟨b1, 0, none⟩)), (3, .int .i64 (i : Int))]) (fun i => [(some b1, .cells (rpCells r (sv o1 p1 ls.length q1)).toArray 25 (0, 0))]) ?round4 0 ?h04)
 case he4 => exact (And.intro rfl (And.intro rfl trivial))
 case hl4 => exact ⟨_, rfl⟩
 case h04 => exact ⟨Nat.zero_le _, rfl⟩
 case round4 =>
  intro i hJ ih
  try dsimp only at hJ ih
  obtain ⟨hi, ht⟩ := hJ
  refine G_seq ?_
  refine G_seq ?_
  refine G_region (l := [0, 1, 2, 3, 4]) rfl ?_
  refine G_val rfl rfl rfl rfl (V_move rfl rfl) ?_
  refine G_val rfl rfl rfl rfl (V_fieldAddr (fo := 11) rfl Try.underlying25 rfl infReplyR_23 rfl rfl rfl) ?_
  refine G_val rfl rfl rfl rfl (V_load1 rfl rfl (mem_at 1 rfl) rfl Try.underlying23 rfl) ?_
  refine G_val rfl rfl rfl rfl (V_len rfl rfl Try.underlying23 rfl) ?_
  refine G_val rfl rfl rfl rfl (V_lss rfl rfl rfl) ?_
  refine G_done ?_
  refine G_ifD rfl (fun hc5 => ?_) (fun hc5 => ?_)
  · skip
    refine G_skip ?_
    refine G_seq ?_
    refine G_block ?_
    refine G_seq ?_
    obtain ⟨x, hx⟩ := getI (show i < ls.length by omega)
    obtain ⟨s1, rfl⟩ := h1.isSome (by omega)
    refine G_region (l := [0, 1, 2, 3, 4, 5, 6, 7, 8, 9, 10, 11, 12, 13, 14, 15, 16, 17]) rfl ?_
    refine G_val rfl rfl rfl rfl (V_fieldAddr (fo := 11) rfl Try.underlying25 rfl infReplyR_23 rfl rfl rfl) ?_
    refine G_val rfl rfl rfl rfl (V_load1 rfl rfl (mem_at 1 rfl) rfl Try.underlying23 rfl) ?_
    refine G_val rfl rfl rfl rfl (V_move rfl rfl) ?_
    first
      | refine G_val rfl rfl rfl rfl (V_indexAddrN rfl Try.underlying23 infReplyR_96 rfl rfl rfl rfl (by omega)) ?_
      | refine G_val rfl rfl rfl rfl (V_indexAddr rfl Try.underlying23 infReplyR_96 rfl rfl rfl (by omega) (by first | omega | (simp [ltCells]; done) | (simp [ltCells]; omega) | (simp [ltCells] at *; omega))) ?_
    refine G_val rfl rfl rfl rfl (V_fieldAddr (fo := _ + 4) rfl Try.underlying96 rfl infReplyR_9 rfl rfl rfl) ?_
    refine G_val rfl rfl rfl rfl (V_load1 rfl rfl (mem_at 0 rfl) (nth_of (sees_field h1 lt_len hx 4 (by omega) rfl)) Try.underlying9 rfl) ?_
    refine G_val rfl rfl rfl rfl (V_slen rfl rfl Try.underlying9 rfl) ?_
    refine G_val rfl rfl rfl rfl (V_gtr rfl rfl rfl) ?_
    refine G_val rfl rfl rfl rfl (V_move rfl rfl) ?_
    refine G_splitD 41 rfl (fun hc6 => ?_) (fun hc6 => ?_)
    · skip
      refine G_off rfl rfl rfl rfl ?_
      refine G_off rfl rfl rfl rfl ?_
      refine G_off rfl rfl rfl rfl ?_
      refine G_off rfl rfl rfl rfl ?_
      refine G_off rfl rfl rfl rfl ?_
      refine G_off rfl rfl rfl rfl ?_
      refine G_off rfl rfl rfl rfl ?_
      refine G_off rfl rfl rfl rfl ?_
      refine G_val rfl rfl rfl rfl (V_pickT rfl rfl rfl) ?_
      refine G_done ?_
      refine G_then rfl ?_
      refine G_seq ?_
      refine G_region (l := [0]) rfl ?_
      refine G_val rfl rfl rfl rfl (V_assign rfl rfl) ?_
      refine G_done ?_
      refine G_ret (post := []) Try.func20 rfl (RVs_cons (RV_tmp rfl) RVs_nil) [] rfl ?_
      dsimp only [packed]
      first
        | exact ⟨bool_eq (may_ff (.inl (by assumption))).symm, rfl⟩
        | exact ⟨bool_eq (may_ff (.inr (.inl (by assumption)))).symm, rfl⟩
        | exact ⟨bool_eq (may_ff (.inr (.inr (.inl (by assumption))))).symm, rfl⟩
        | exact ⟨bool_eq (may_ff (.inr (.inr (.inr (.inl (by assumption)))))).symm, rfl⟩
        | exact ⟨bool_eq (may_tt (by assumption) (by assumption) (by assumption) (by assumption) (any_end ht (by omega))).symm, rfl⟩
        | exact ⟨bool_eq (may_ff (.inr (.inr (.inr (.inr (any_yes hx (by unfold badL; simp_all; try omega))))))).symm, rfl⟩
    refine G_val rfl rfl rfl rfl (V_fieldAddr (fo := 11) rfl Try.underlying25 rfl infReplyR_23 rfl rfl rfl) ?_
    refine G_val rfl rfl rfl rfl (V_load1 rfl rfl (mem_at 1 rfl) rfl Try.underlying23 rfl) ?_
    refine G_val rfl rfl rfl rfl (V_move rfl rfl) ?_
    first
      | refine G_val rfl rfl rfl rfl (V_indexAddrN rfl Try.underlying23 infReplyR_96 rfl rfl rfl rfl (by omega)) ?_
      | refine G_val rfl rfl rfl rfl (V_indexAddr rfl Try.underlying23 infReplyR_96 rfl rfl rfl (by omega) (by first | omega | (simp [ltCells]; done) | (simp [ltCells]; omega) | (simp [ltCells] at *; omega))) ?_
    refine G_val rfl rfl rfl rfl (V_loadA (s := 6) (vs := (ltCells x).toArray) rfl rfl (mem_at 0 rfl) Try.underlying96 rfl infReplyR_96 rfl (h1.elem lt_len hx) (by first | rfl | (simp [bcells_length, ltCells]; done) | (simp [bcells_length, ltCells]; omega) | (simp [bcells_length, *, ltCells]; done))) ?_
    refine G_call (L2 := [_]) rfl rfl rfl rfl rfl rfl Try.call77 (rr_letter _) [] [] rfl rfl ?_
    rintro v post ⟨bn0, rfl, rfl⟩
    show G _ _ _ [_, _] _
    refine G_call (L2 := [_, _]) rfl rfl rfl rfl rfl rfl Try.call83 (rr_in (some bn0) 0 4 _ _ _ (x.nums) (sees_nums 4 bn0 _ rfl (by omega))) [] [1] rfl rfl ?_
    rintro v post ⟨rfl, rfl⟩
    show G _ _ _ [_, _] _
    refine G_val rfl rfl rfl rfl (V_not rfl rfl) ?_
    refine G_val rfl rfl rfl rfl (V_pickF rfl rfl rfl) ?_
    refine G_done ?_
    refine G_if rfl (fun hc7 => ?_) (fun hc7 => ?_)
    · skip
      refine G_seq ?_
      refine G_region (l := [0]) rfl ?_
      refine G_val rfl rfl rfl rfl (V_assign rfl rfl) ?_
      refine G_done ?_
      refine G_ret (post := []) Try.func20 rfl (RVs_cons (RV_tmp rfl) RVs_nil) [] rfl ?_
      dsimp only [packed]
      first
        | exact ⟨bool_eq (may_ff (.inl (by assumption))).symm, rfl⟩
        | exact ⟨bool_eq (may_ff (.inr (.inl (by assumption)))).symm, rfl⟩
        | exact ⟨bool_eq (may_ff (.inr (.inr (.inl (by assumption))))).symm, rfl⟩
        | exact ⟨bool_eq (may_ff (.inr (.inr (.inr (.inl (by assumption)))))).symm, rfl⟩
        | exact ⟨bool_eq (may_tt (by assumption) (by assumption) (by assumption) (by assumption) (any_end ht (by omega))).symm, rfl⟩
        | exact ⟨bool_eq (may_ff (.inr (.inr (.inr (.inr (any_yes hx (by unfold badL; simp_all; try omega))))))).symm, rfl⟩
    refine G_skip ?_
    refine G_inBlock ?_
    refine G_region (l := [0, 1, 2]) rfl ?_
    refine G_val rfl rfl rfl rfl (V_move rfl rfl) ?_
    first
      | refine G_val rfl rfl rfl rfl ((V_add rfl rfl rfl).int (wrap_i64 (by omega))) ?_
      | refine G_val rfl rfl rfl rfl (V_add rfl rfl rfl) ?_
    refine G_val rfl rfl rfl rfl (V_assign rfl rfl) ?_
    refine G_done ?_
    refine G_sub ?_ [1] ?_ (ih (i + 1) ?_ ?_)
    · (refine (And.intro ?_ (And.intro ?_ trivial)) <;> first | rfl | exact slot_int (by omega) | exact slot_int (by simp))
    · exact ⟨_, rfl⟩
    · exact ⟨by omega, any_next ht hx (by unfold badL; simp_all; try omega)⟩
    · (first | omega | (dsimp only; omega))
  refine G_exit rfl ?_
  refine G_seq ?_
  refine G_region (l := [0]) rfl ?_
  refine G_val rfl rfl rfl rfl (V_assign rfl rfl) ?_
  refine G_done ?_
  refine G_ret (post := []) Try.func20 rfl (RVs_cons (RV_tmp rfl) RVs_nil) [] rfl ?_
  dsimp only [packed]
  first
    | exact ⟨bool_eq (may_ff (.inl (by assumption))).symm, rfl⟩
    | exact ⟨bool_eq (may_ff (.inr (.inl (by assumption)))).symm, rfl⟩
    | exact ⟨bool_eq (may_ff (.inr (.inr (.inl (by assumption))))).symm, rfl⟩
    | exact ⟨bool_eq (may_ff (.inr (.inr (.inr (.inl (by assumption)))))).symm, rfl⟩
    | exact ⟨bool_eq (may_tt (by assumption) (by assumption) (by assumption) (by assumption) (any_end ht (by omega))).symm, rfl⟩
    | exact ⟨bool_eq (may_ff (.inr (.inr (.inr (.inr (any_yes hx (by unfold badL; simp_all; try omega))))))).symm, rfl⟩

set_option maxRecDepth 100000 in
set_option maxHeartbeats 1000000 in
theorem rr_encode (r : Rp) (o1 : Option Nat) (p1 q1 : Nat) (c1 : Array Value) (T1 : TypeId) (f1 : Nat × Nat) (ls : List Lt) (h1 : Sees 6 o1 p1 q1 c1 (ls.flatMap ltCells) ls.length) (ok1 : ∀ l ∈ ls, LtOk l) :
    Ct Try.prog 17 [(.agg (rpCells r (sv o1 p1 ls.length q1)).toArray)] [(o1, .cells c1 T1 f1)] [] fun v post => v = repT r ls ∧ post = [] := by
 have hl1 := h1.le
 have hl2 := h1.max
 refine ct_of Try.func17 rfl rfl (fun w0 => ?_)
 show G _ _ [(0, _)] _ _
 refine G_seq ?_
 refine G_region (l := [0, 1, 2]) rfl ?_
 refine G_new rfl rfl rfl rfl (N_boxA rfl rfl) (fun b1 => ?_)
 refine G_val rfl rfl rfl rfl (V_assign rfl rfl) ?_
 refine G_val rfl rfl rfl rfl (V_assign rfl rfl) ?_
 refine G_done ?_
 refine G_seq ?_
 refine G_seq ?_
 refine G_region (l := [0, 1, 2]) rfl ?_
 first
   | refine G_val rfl rfl rfl rfl (V_loadW (s := 12) rfl rfl (mem_at 1 rfl) Try.underlying25 rfl infReplyR_25 rfl (by first | rfl | (simp [bcells_length, ltCells]; done) | (simp [bcells_length, ltCells]; omega) | (simp [bcells_length, *, ltCells]; done))) ?_
   | refine G_val rfl rfl rfl rfl (V_loadA (s := 12) rfl rfl (mem_at 1 rfl) Try.underlying25 rfl infReplyR_25 rfl rfl (by first | rfl | (simp [bcells_length, ltCells]; done) | (simp [bcells_length, ltCells]; omega) | (simp [bcells_length, *, ltCells]; done))) ?_
 refine G_call (L2 := [_]) rfl rfl rfl rfl rfl rfl Try.call20 (rr_may _ _ _ _ _ _ _ _ (by assumption)) [] [0] rfl rfl ?_
 rintro v post ⟨rfl, rfl⟩
 show G _ _ _ [_] _
 refine G_val rfl rfl rfl rfl (V_not rfl rfl) ?_
 refine G_done ?_
 refine G_if rfl (fun hc1 => ?_) (fun hc1 => ?_)
 · skip
   refine G_seq ?_
   refine G_region (l := [0, 1]) rfl ?_
   refine G_val rfl rfl rfl rfl (V_assign rfl rfl) ?_
   refine G_val rfl rfl rfl rfl (V_assign rfl rfl) ?_
   refine G_done ?_
   refine G_ret (post := []) Try.func17 rfl (RVs_cons (RV_tmp rfl) (RVs_cons (RV_tmp rfl) RVs_nil)) [] rfl ?_
   dsimp only [packed]
   first
     | exact ⟨(if_neg (by simpa using hc1)).symm, rfl⟩
     | (refine ⟨?_, rfl⟩; unfold repT encR; rw [if_pos (by simpa using hc1), List.take_of_length_le (by omega)])
 refine G_skip ?_
 refine G_seq ?_
 obtain ⟨m1, m2, m3, m4, m5, m6⟩ := mayR_all (by simpa using hc1 : mayR r ls = true)
 have mcn : ∀ x ∈ r.code :: r.nums, In40 x := fun x hx => (List.mem_cons.1 hx).elim (fun e => e ▸ m3) (m4 x)
 have g1 := text_len r.to_ (by omega)
 have g3 := encNums_len (r.code :: r.nums) mcn
 have g3b : (r.code :: r.nums).length = 9 := rfl
 have g4 := text_len r.cmd (by omega)
 have g5 := chainI_len (ls.length : Int) (by omega) (by omega)
 have g6 : (encR0 r ls.length).length ≤ 400 := by have g3c : encNums (r.code :: r.nums) = chainI r.code ++ encNums r.nums := rfl; rw [g3c, List.length_append] at g3; unfold encR0; simp only [List.length_append]; omega
 refine GH_start (Lq := [_]) (isq := [0]) (m := 17) mixedK rfl rfl ?_
 refine GH_take 0 rfl rfl rfl rfl (by kernel_rfl) (by kernel_rfl) (by kernel_rfl) (fun _ _ => (V_fieldAddr (fo := 0) rfl Try.underlying25 rfl infReplyR_9 rfl rfl rfl)) ?_
 refine GH_take 1 rfl rfl rfl rfl (by kernel_rfl) (by kernel_rfl) (by kernel_rfl) (fun _ _ => (V_load1 rfl rfl (mem_at 1 rfl) rfl Try.underlying9 rfl)) ?_
 first
   | refine GH_take 3 rfl rfl rfl rfl (by kernel_rfl) (by kernel_rfl) (by kernel_rfl) (fun _ _ => (V_loadW (s := 12) rfl rfl (mem_at 1 rfl) Try.underlying25 rfl infReplyR_25 rfl (by first | rfl | (simp [bcells_length, ltCells]; done) | (simp [bcells_length, ltCells]; omega) | (simp [bcells_length, *, ltCells]; done)))) ?_
   | refine GH_take 3 rfl rfl rfl rfl (by kernel_rfl) (by kernel_rfl) (by kernel_rfl) (fun _ _ => (V_loadA (s := 12) rfl rfl (mem_at 1 rfl) Try.underlying25 rfl infReplyR_25 rfl rfl (by first | rfl | (simp [bcells_length, ltCells]; done) | (simp [bcells_length, ltCells]; omega) | (simp [bcells_length, *, ltCells]; done)))) ?_
 refine GH_take 7 rfl rfl rfl rfl (by kernel_rfl) (by kernel_rfl) (by kernel_rfl) (fun _ _ => (V_fieldAddr (fo := 10) rfl Try.underlying25 rfl infReplyR_9 rfl rfl rfl)) ?_
 refine GH_take 8 rfl rfl rfl rfl (by kernel_rfl) (by kernel_rfl) (by kernel_rfl) (fun _ _ => (V_load1 rfl rfl (mem_at 1 rfl) rfl Try.underlying9 rfl)) ?_
 refine GH_take 11 rfl rfl rfl rfl (by kernel_rfl) (by kernel_rfl) (by kernel_rfl) (fun _ _ => (V_fieldAddr (fo := 11) rfl Try.underlying25 rfl infReplyR_23 rfl rfl rfl)) ?_
 refine GH_take 12 rfl rfl rfl rfl (by kernel_rfl) (by kernel_rfl) (by kernel_rfl) (fun _ _ => (V_load1 rfl rfl (mem_at 1 rfl) rfl Try.underlying23 rfl)) ?_
 refine GH_take 13 rfl rfl rfl rfl (by kernel_rfl) (by kernel_rfl) (by kernel_rfl) (fun _ _ => (V_len rfl rfl Try.underlying23 rfl)) ?_
 refine GH_all [2] (by kernel_rfl) (by decide) ?_
 refine (And.intro ?_ trivial)
 · skip
   refine GHop_call (L2 := [_]) rfl rfl rfl rfl rfl rfl Try.call74 (ct_rtext _ (by first | omega | (simp; done) | (simp; omega) | (simp at *; omega))) [] [] rfl rfl [0] (by rintro v post ⟨rfl, rfl⟩; exact ⟨_, rfl⟩) ?_
   rintro v post ⟨rfl, rfl⟩
   show GH _ _ _ _ _ _ _ [_] _
   refine GH_all [4] (by kernel_rfl) (by decide) ?_
   refine (And.intro ?_ trivial)
   · skip
     refine GHop_call (L2 := [_]) rfl rfl rfl rfl rfl rfl Try.call65 (rrep_numbers _ _) [] [] rfl rfl [1] (by rintro v post ⟨bn0, rfl, rfl⟩; exact ⟨_, rfl⟩) ?_
     rintro v post ⟨bn0, rfl, rfl⟩
     show GH _ _ _ _ _ _ _ [_, _] _
     refine GH_all [5] (by kernel_rfl) (by decide) ?_
     refine (And.intro ?_ trivial)
     · skip
       refine GHop_call (L2 := [_, _]) rfl rfl rfl rfl rfl rfl Try.call75 (rr_chains (some bn0) 0 9 _ _ _ (r.code :: r.nums) (sees_nums 9 bn0 _ rfl (by omega)) mcn (by omega)) [] [1] rfl rfl [1] (by rintro v post ⟨rfl, rfl⟩; exact ⟨_, rfl⟩) ?_
       rintro v post ⟨rfl, rfl⟩
       show GH _ _ _ _ _ _ _ [_, _] _
       refine GH_take 6 rfl rfl rfl rfl (by kernel_rfl) (by kernel_rfl) (by kernel_rfl) (fun _ _ => (V_sadd rfl rfl rfl (by first | omega | (simp [ltCells]; done) | (simp [ltCells]; omega) | (simp [ltCells] at *; omega)))) ?_
       refine GH_all [9] (by kernel_rfl) (by decide) ?_
       refine (And.intro ?_ trivial)
       · skip
         refine GHop_call (L2 := [_, _]) rfl rfl rfl rfl rfl rfl Try.call74 (ct_rtext _ (by first | omega | (simp; done) | (simp; omega) | (simp at *; omega))) [] [] rfl rfl [1] (by rintro v post ⟨rfl, rfl⟩; exact ⟨_, rfl⟩) ?_
         rintro v post ⟨rfl, rfl⟩
         show GH _ _ _ _ _ _ _ [_, _] _
         refine GH_take 10 rfl rfl rfl rfl (by kernel_rfl) (by kernel_rfl) (by kernel_rfl) (fun _ _ => (V_sadd rfl rfl rfl (by first | omega | (simp [ltCells]; done) | (simp [ltCells]; omega) | (simp [ltCells] at *; omega)))) ?_
         refine GH_all [14] (by kernel_rfl) (by decide) ?_
         refine (And.intro ?_ trivial)
         · skip
           refine GHop_call (L2 := [_, _]) rfl rfl rfl rfl rfl rfl Try.call76 (rr_num _ ⟨by omega, by omega⟩) [] [] rfl rfl [1] (by rintro v post ⟨rfl, rfl⟩; exact ⟨_, rfl⟩) ?_
           rintro v post ⟨rfl, rfl⟩
           show GH _ _ _ _ _ _ _ [_, _] _
           refine GH_take 15 rfl rfl rfl rfl (by kernel_rfl) (by kernel_rfl) (by kernel_rfl) (fun _ _ => (V_sadd rfl rfl rfl (by first | omega | (simp [ltCells]; done) | (simp [ltCells]; omega) | (simp [ltCells] at *; omega)))) ?_
           refine GH_take 16 rfl rfl rfl rfl (by kernel_rfl) (by kernel_rfl) (by kernel_rfl) (fun _ _ => (V_assign rfl rfl)) ?_
           refine GH_done (by kernel_rfl) ?_
           refine G_seq ?_
           refine G_seq ?_
           have e0 : text r.to_ ++ encNums (r.code :: r.nums) ++ text r.cmd ++ chainI (ls.length : Int) = encR0 r ls.length := by unfold encR0; simp [encNums]
           rw [e0]
           refine G_region (l := [0]) rfl ?_
           refine G_val rfl rfl rfl rfl (V_assign rfl rfl) ?_
           refine G_done ?_
           refine G_block ?_
           refine G_sub ?he5 [1] ?hl5 (G_loop (X := Nat) (fun i => i ≤ ls.length) (fun i => ls.length - i) (fun i => [(1, .pointer (some ⟨b1, 0, none⟩)), (4, .string (bs (encR0 r ls.length ++ (ls.take i).flatMap encL))), (5, .int .i64 (i : Int))]) (fun i => [(some b1, .cells (rpCells r (sv o1 p1 ls.length q1)).toArray 25 (0, 0))]) ?round5 0 ?h05)
           case he5 => refine (And.intro rfl (And.intro (by simp; rfl) (And.intro rfl trivial)))
           case hl5 => exact ⟨_, rfl⟩
           case h05 => exact Nat.zero_le _
           case round5 =>
            intro i hJ ih
            try dsimp only at hJ ih
            refine G_seq ?_
            refine G_seq ?_
            refine G_region (l := [0, 1, 2, 3, 4]) rfl ?_
            refine G_val rfl rfl rfl rfl (V_move rfl rfl) ?_
            refine G_val rfl rfl rfl rfl (V_fieldAddr (fo := 11) rfl Try.underlying25 rfl infReplyR_23 rfl rfl rfl) ?_
            refine G_val rfl rfl rfl rfl (V_load1 rfl rfl (mem_at 1 rfl) rfl Try.underlying23 rfl) ?_
            refine G_val rfl rfl rfl rfl (V_len rfl rfl Try.underlying23 rfl) ?_
            refine G_val rfl rfl rfl rfl (V_lss rfl rfl rfl) ?_
            refine G_done ?_
            refine G_ifD rfl (fun hc2 => ?_) (fun hc2 => ?_)
            · skip
              refine G_skip ?_
              refine G_seq ?_
              refine G_block ?_
              refine G_seq ?_
              obtain ⟨x, hx⟩ := getI (show i < ls.length by omega)
              obtain ⟨s1, rfl⟩ := h1.isSome (by omega)
              obtain ⟨n1, n2, n3⟩ := bigL (m6 x (List.mem_of_getElem? hx)) (ok1 x (List.mem_of_getElem? hx)).n
              have n4 := encNums_len _ n2
              have n4b : x.nums.length = 4 := rfl
              have n5 := text_len x.tx (by omega)
              have n6 := chainI_len (x.n : Int) (by omega) (by have := (ok1 x (List.mem_of_getElem? hx)).n; omega)
              have n7 := flat_encL_len (ls.take i) (fun l hl => (bigL (m6 l (List.mem_of_mem_take hl)) (ok1 l (List.mem_of_mem_take hl)).n).2.2)
              have n8 : (ls.take i).length ≤ 32 := by simp; omega
              have n9 := (ok1 x (List.mem_of_getElem? hx)).n
              refine G_region (l := [0, 1, 2, 3, 4, 5, 6]) rfl ?_
              refine G_val rfl rfl rfl rfl (V_fieldAddr (fo := 11) rfl Try.underlying25 rfl infReplyR_23 rfl rfl rfl) ?_
              refine G_val rfl rfl rfl rfl (V_load1 rfl rfl (mem_at 1 rfl) rfl Try.underlying23 rfl) ?_
              refine G_val rfl rfl rfl rfl (V_move rfl rfl) ?_
              first
                | refine G_val rfl rfl rfl rfl (V_indexAddrN rfl Try.underlying23 infReplyR_96 rfl rfl rfl rfl (by omega)) ?_
                | refine G_val rfl rfl rfl rfl (V_indexAddr rfl Try.underlying23 infReplyR_96 rfl rfl rfl (by omega) (by first | omega | (simp [ltCells]; done) | (simp [ltCells]; omega) | (simp [ltCells] at *; omega))) ?_
              refine G_val rfl rfl rfl rfl (V_loadA (s := 6) (vs := (ltCells x).toArray) rfl rfl (mem_at 0 rfl) Try.underlying96 rfl infReplyR_96 rfl (h1.elem lt_len hx) (by first | rfl | (simp [bcells_length, ltCells]; done) | (simp [bcells_length, ltCells]; omega) | (simp [bcells_length, *, ltCells]; done))) ?_
              refine G_new rfl rfl rfl rfl (N_allocA rfl infReplyR_96 rfl) (fun b6 => ?_)
              refine G_put (l1 := []) (L' := [_, _]) rfl rfl rfl rfl (P_storeA (s := 6) rfl rfl rfl (mem_at 0 rfl) (by first | rfl | (simp [bcells_length, ltCells]; done) | (simp [bcells_length, ltCells]; omega) | (simp [bcells_length, *, ltCells]; done)) infReplyR_96 rfl (by first | rfl | (simp [bcells_length, ltCells]; done) | (simp [bcells_length, ltCells]; omega) | (simp [bcells_length, *, ltCells]; done)) (by first | rfl | exact bcells_all _ | (simp [Value.oneCell', ltCells]; done) | (simp [Value.oneCell', *, ltCells]; done))) rfl ?_
              refine G_done ?_
              refine GH_start (Lq := [_]) (isq := [0]) (m := 14) mixedK rfl rfl ?_
              refine GH_take 0 rfl rfl rfl rfl (by kernel_rfl) (by kernel_rfl) (by kernel_rfl) (fun _ _ => (V_move rfl rfl)) ?_
              first
                | refine GH_take 1 rfl rfl rfl rfl (by kernel_rfl) (by kernel_rfl) (by kernel_rfl) (fun _ _ => (V_loadW (s := 6) rfl rfl (mem_at 1 rfl) Try.underlying96 rfl infReplyR_96 rfl (by first | rfl | (simp [bcells_length, ltCells]; done) | (simp [bcells_length, ltCells]; omega) | (simp [bcells_length, *, ltCells]; done)))) ?_
                | refine GH_take 1 rfl rfl rfl rfl (by kernel_rfl) (by kernel_rfl) (by kernel_rfl) (fun _ _ => (V_loadA (s := 6) rfl rfl (mem_at 1 rfl) Try.underlying96 rfl infReplyR_96 rfl rfl (by first | rfl | (simp [bcells_length, ltCells]; done) | (simp [bcells_length, ltCells]; omega) | (simp [bcells_length, *, ltCells]; done)))) ?_
              refine GH_take 5 rfl rfl rfl rfl (by kernel_rfl) (by kernel_rfl) (by kernel_rfl) (fun _ _ => (V_fieldAddr (fo := 4) rfl Try.underlying96 rfl infReplyR_9 rfl rfl rfl)) ?_
              refine GH_take 6 rfl rfl rfl rfl (by kernel_rfl) (by kernel_rfl) (by kernel_rfl) (fun _ _ => (V_load1 rfl rfl (mem_at 1 rfl) rfl Try.underlying9 rfl)) ?_
              refine GH_take 9 rfl rfl rfl rfl (by kernel_rfl) (by kernel_rfl) (by kernel_rfl) (fun _ _ => (V_fieldAddr (fo := 5) rfl Try.underlying96 rfl infReplyR_94 rfl rfl rfl)) ?_
              refine GH_take 10 rfl rfl rfl rfl (by kernel_rfl) (by kernel_rfl) (by kernel_rfl) (fun _ _ => (V_load1 rfl rfl (mem_at 1 rfl) rfl Try.underlying94 rfl)) ?_
              refine GH_all [2] (by kernel_rfl) (by decide) ?_
              refine (And.intro ?_ trivial)
              · skip
                refine GHop_call (L2 := [_, _]) rfl rfl rfl rfl rfl rfl Try.call77 (rr_letter _) [] [] rfl rfl [1] (by rintro v post ⟨bn0, rfl, rfl⟩; exact ⟨_, rfl⟩) ?_
                rintro v post ⟨bn0, rfl, rfl⟩
                show GH _ _ _ _ _ _ _ [_, _, _] _
                refine GH_all [3] (by kernel_rfl) (by decide) ?_
                refine (And.intro ?_ trivial)
                · skip
                  refine GHop_call (L2 := [_, _, _]) rfl rfl rfl rfl rfl rfl Try.call75 (rr_chains (some bn0) 0 4 _ _ _ x.nums (sees_nums 4 bn0 _ rfl (by omega)) n2 (by omega)) [] [1] rfl rfl [1] (by rintro v post ⟨rfl, rfl⟩; exact ⟨_, rfl⟩) ?_
                  rintro v post ⟨rfl, rfl⟩
                  show GH _ _ _ _ _ _ _ [_, _, _] _
                  refine GH_take 4 rfl rfl rfl rfl (by kernel_rfl) (by kernel_rfl) (by kernel_rfl) (fun _ _ => (V_sadd rfl rfl rfl (by first | omega | (simp [ltCells]; done) | (simp [ltCells]; omega) | (simp [ltCells] at *; omega)))) ?_
                  refine GH_all [7] (by kernel_rfl) (by decide) ?_
                  refine (And.intro ?_ trivial)
                  · skip
                    refine GHop_call (L2 := [_, _, _]) rfl rfl rfl rfl rfl rfl Try.call74 (ct_rtext _ (by first | omega | (simp; done) | (simp; omega) | (simp at *; omega))) [] [] rfl rfl [1] (by rintro v post ⟨rfl, rfl⟩; exact ⟨_, rfl⟩) ?_
                    rintro v post ⟨rfl, rfl⟩
                    show GH _ _ _ _ _ _ _ [_, _, _] _
                    refine GH_take 8 rfl rfl rfl rfl (by kernel_rfl) (by kernel_rfl) (by kernel_rfl) (fun _ _ => (V_sadd rfl rfl rfl (by first | omega | (simp [ltCells]; done) | (simp [ltCells]; omega) | (simp [ltCells] at *; omega)))) ?_
                    refine GH_all [11] (by kernel_rfl) (by decide) ?_
                    refine (And.intro ?_ trivial)
                    · skip
                      refine GHop_call (L2 := [_, _, _]) rfl rfl rfl rfl rfl rfl Try.call78 (ct_rchain _ (by omega) (by omega)) [] [] rfl rfl [1] (by rintro v post ⟨rfl, rfl⟩; exact ⟨_, rfl⟩) ?_
                      rintro v post ⟨rfl, rfl⟩
                      show GH _ _ _ _ _ _ _ [_, _, _] _
                      refine GH_take 12 rfl rfl rfl rfl (by kernel_rfl) (by kernel_rfl) (by kernel_rfl) (fun _ _ => (V_sadd rfl rfl rfl (by first | omega | (simp [ltCells]; done) | (simp [ltCells]; omega) | (simp [ltCells] at *; omega)))) ?_
                      refine GH_take 13 rfl rfl rfl rfl (by kernel_rfl) (by kernel_rfl) (by kernel_rfl) (fun _ _ => (V_assign rfl rfl)) ?_
                      refine GH_done (by kernel_rfl) ?_
                      refine G_inBlock ?_
                      have e : encR0 r ls.length ++ (ls.take i).flatMap encL ++ encNums x.nums ++ text x.tx ++ chainI (x.n : Int) = encR0 r ls.length ++ (ls.take (i + 1)).flatMap encL := by rw [encL_next hx]; simp [encL, List.append_assoc]
                      rw [e]
                      refine G_region (l := [0, 1, 2]) rfl ?_
                      refine G_val rfl rfl rfl rfl (V_move rfl rfl) ?_
                      first
                        | refine G_val rfl rfl rfl rfl ((V_add rfl rfl rfl).int (wrap_i64 (by omega))) ?_
                        | refine G_val rfl rfl rfl rfl (V_add rfl rfl rfl) ?_
                      refine G_val rfl rfl rfl rfl (V_assign rfl rfl) ?_
                      refine G_done ?_
                      refine G_sub ?_ [2] ?_ (ih (i + 1) ?_ ?_)
                      · (refine (And.intro ?_ (And.intro ?_ (And.intro ?_ trivial))) <;> first | rfl | exact slot_int (by omega) | exact slot_int (by simp))
                      · exact ⟨_, rfl⟩
                      · omega
                      · (first | omega | (dsimp only; omega))
            refine G_exit rfl ?_
            refine G_seq ?_
            refine G_region (l := [0, 1, 2]) rfl ?_
            refine G_val rfl rfl rfl rfl (V_move rfl rfl) ?_
            refine G_val rfl rfl rfl rfl (V_assign rfl rfl) ?_
            refine G_val rfl rfl rfl rfl (V_assign rfl rfl) ?_
            refine G_done ?_
            refine G_ret (post := []) Try.func17 rfl (RVs_cons (RV_tmp rfl) (RVs_cons (RV_tmp rfl) RVs_nil)) [] rfl ?_
            dsimp only [packed]
            first
              | exact ⟨(if_neg (by simpa using hc1)).symm, rfl⟩
              | (refine ⟨?_, rfl⟩; unfold repT encR; rw [if_pos (by simpa using hc1), List.take_of_length_le (by omega)])

end
end Go.Proofs.Ytkidmbaakdaflaa
