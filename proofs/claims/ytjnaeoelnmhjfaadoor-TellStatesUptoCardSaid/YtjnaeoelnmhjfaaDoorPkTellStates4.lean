/- What the law TellStates needs, part 4. -/
import Derived.Test.YtjnaeoelnmhjfaaDoorPkTellStates1
import Derived.Test.YtjnaeoelnmhjfaaDoorPkTellStates2
import Derived.Test.YtjnaeoelnmhjfaaDoorPkTellStates3


/- The walks of layer 45: requests as lines; the program's and the document's. -/
set_option linter.unusedSimpArgs false
set_option linter.unusedVariables false
namespace Go.Proofs.YtjnaeoelnmhjfaaDoor
open Go Go.RowKit

section
theorem infTellR_3 : Tryd.prog.info? 3 = some Tryd.t3 := by kernel_rfl
theorem infTellR_4 : Tryd.prog.info? 4 = some Tryd.t4 := by kernel_rfl
theorem infTellR_9 : Tryd.prog.info? 9 = some Tryd.t9 := by kernel_rfl
theorem infTellR_27 : Tryd.prog.info? 27 = some Tryd.t27 := by kernel_rfl


theorem encode_ascii (r : UInt8) (h : r.toNat < 128) : Utf8.encode (r.toNat : Int) = bs [r] := by
  unfold Utf8.encode
  have hv : Utf8.valid (r.toNat : Int) = true := by unfold Utf8.valid; simp; omega
  simp only [hv, if_true, Int.toNat_natCast]
  rw [if_pos h, UInt8.ofNat_toNat]; rfl
theorem V_runeS {c : Cx} {n : Nat} {env : List (Nat × Value)} {L : List (Option Nat × Obj)} {o : Oper} {x : Operand} {t u : TypeId} {d : TypeDesc} {q : IntKind} {r : UInt8} (hop : o.op = .convert t u x) (hx : fev env x = some (.int q (r.toNat : Int))) (ht : c.P.underlying t = some d) (hu : c.P.underlying u = some .string) (hr : r.toNat < 128) :
    Val c n env L o (.string (bs [r])) := fun a w hk _ => by
  simp [execOp, hop, hk.eval hx, convert, run_underlying ht, run_underlying hu, Conv.intToString, encode_ascii r hr]
/-- A field, as it is told. -/
def telF (q : Rq) (c : Int) : List UInt8 := match textIdx c with
  | some i => quoteT (q.tx i)
  | none => match numIdx c with
    | some i => Lib.itoa (q.nx i)
    | none => if q.flag then [111, 110] else [111, 102, 102]
def KnownL (c : Int) : Prop := c = 116 ∨ c = 105 ∨ c = 110 ∨ c = 107 ∨ c = 99 ∨ c = 112 ∨ c = 98 ∨ c = 111 ∨ c = 101 ∨ c = 119 ∨ c = 120 ∨ c = 108 ∨ c = 114 ∨ c = 100 ∨ c = 102 ∨ c = 109
theorem fieldsK_known (k : Int) (j : Nat) (h : j < (fieldsK k).length) : KnownL (((fieldsK k).getD j 0).toNat : Int) := by
  have key : ∀ n < 18, ∀ j < (fieldsOf n).length, KnownL (((fieldsOf n).getD j 0).toNat : Int) := by unfold KnownL; decide +kernel
  by_cases hk : 1 ≤ k ∧ k ≤ 17
  · obtain ⟨n, rfl⟩ := Int.eq_ofNat_of_zero_le (show 0 ≤ k by omega)
    have e := fieldsK_yes n (by omega) (by omega)
    rw [e] at h ⊢
    exact key n (by omega) j h
  · rw [fieldsK_no k hk] at h; simp at h
/-- What is told of texts and numbers. -/
structure RqT (q : Rq) : Prop where
  tx : ∀ i, (q.tx i).length ≤ 2000
  nx : ∀ i, -9223372036854775808 ≤ q.nx i ∧ q.nx i ≤ 9223372036854775807
theorem telF_len {q : Rq} (h : RqT q) (c : Int) : (telF q c).length ≤ 8100 := by
  unfold telF
  split
  · rename_i i _
    have := quoteT_len (q.tx i); have := h.tx i; omega
  · split
    · rename_i i _
      have := itoa_len (h.nx i).1 (h.nx i).2; omega
    · split <;> simp
def fieldL (q : Rq) (c : UInt8) : List UInt8 := [32] ++ [c] ++ [61] ++ telF q (c.toNat : Int)
def headL (k : Int) : List UInt8 := if wordK k = [] then [63] else wordK k
def reqI (q : Rq) (i : Nat) : List UInt8 := headL q.kind ++ ((fieldsK q.kind).take i).flatMap (fieldL q)
def reqT (q : Rq) : List UInt8 := headL q.kind ++ (fieldsK q.kind).flatMap (fieldL q)
theorem reqI_next {q : Rq} {i : Nat} (h : i < (fieldsK q.kind).length) : reqI q i ++ fieldL q ((fieldsK q.kind).getD i 0) = reqI q (i + 1) := by
  unfold reqI
  rw [List.take_succ_eq_append_getElem h, List.flatMap_append, List.append_assoc, List.getD_eq_getElem?_getD, List.getElem?_eq_getElem h]
  simp
theorem reqI_end {q : Rq} {i : Nat} (h : (fieldsK q.kind).length ≤ i) : reqI q i = reqT q := by unfold reqI reqT; rw [List.take_of_length_le h]
theorem wordK_len (k : Int) : (wordK k).length ≤ 20 := by
  have key : ∀ n < 18, (wordOf n).length ≤ 20 := by decide +kernel
  unfold wordK
  split
  · exact key _ (by omega)
  · simp
theorem headL_len (k : Int) : (headL k).length ≤ 20 := by
  have := wordK_len k
  unfold headL; split
  · simp
  · exact this
theorem fieldL_len {q : Rq} (h : RqT q) (c : UInt8) : (fieldL q c).length ≤ 8200 := by
  have := telF_len h (c.toNat : Int)
  unfold fieldL; simp only [List.length_append, List.length_singleton]; omega
theorem fieldLs_len {q : Rq} (h : RqT q) : ∀ l : List UInt8, (l.flatMap (fieldL q)).length ≤ 8200 * l.length
  | [] => by simp
  | c :: l => by
    have a := fieldL_len h c
    have b := fieldLs_len h l
    simp only [List.flatMap_cons, List.length_append, List.length_cons]; omega
theorem reqI_len {q : Rq} (h : RqT q) (i : Nat) : (reqI q i).length ≤ 60000 := by
  have a := headL_len q.kind
  have b := fieldLs_len h ((fieldsK q.kind).take i)
  have c := fieldsK_len q.kind
  have d : ((fieldsK q.kind).take i).length ≤ 7 := by rw [List.length_take]; omega
  unfold reqI; rw [List.length_append]; omega


theorem wordK_at {k : Int} (h : 1 ≤ k ∧ k ≤ 17) : wordK k = wordOf ((k - 1).toNat + 1) := by
  unfold wordK; rw [if_pos h, show (k - 1).toNat + 1 = k.toNat by omega]

set_option maxRecDepth 100000 in
set_option maxHeartbeats 1000000 in
theorem rmsg_words  :
    Ct Tryd.prog 52 [] [] [] fun v post => ∃ b, v = .slice (some ⟨b, 0, none⟩) 17 17 ∧ post = [(some b, .cells wordArr 9 (0, 0))] := by
 refine ct_of Tryd.func52 rfl rfl (fun w0 => ?_)
 show G _ _ [] _ _
 refine G_seq ?_
 refine G_region (l := [0]) rfl ?_
 refine G_val rfl rfl rfl rfl (V_assign rfl rfl) ?_
 refine G_done ?_
 refine G_seq ?_
 refine G_region (l := [0, 1]) rfl ?_
 refine G_new rfl rfl rfl rfl (N_buildAll (s := 1) (cs := [_, _, _, _, _, _, _, _, _, _, _, _, _, _, _, _, _]) rfl Tryd.underlying53 infTellR_9 rfl rfl rfl rfl rfl rfl rfl rfl rfl) (fun b1 => ?_)
 refine G_val rfl rfl rfl rfl (V_assign rfl rfl) ?_
 refine G_done ?_
 refine G_ret (post := [_]) Tryd.func52 rfl (RVs_cons (RV_tmp rfl) RVs_nil) [0] rfl ?_
 dsimp only [packed]
 exact ⟨_, rfl, rfl⟩

set_option maxRecDepth 100000 in
set_option maxHeartbeats 1000000 in
theorem rmsg_word (k : Int) :
    Ct Tryd.prog 28 [.int .i64 k] [] [] fun v post => v = .string (bs (wordK k)) ∧ post = [] := by
 refine ct_of Tryd.func28 rfl rfl (fun w0 => ?_)
 show G _ _ [(0, _)] _ _
 refine G_seq ?_
 refine G_region (l := [0]) rfl ?_
 refine G_val rfl rfl rfl rfl (V_assign rfl rfl) ?_
 refine G_done ?_
 refine G_seq ?_
 refine G_seq ?_
 refine G_region (l := [0, 1, 2, 3, 4, 5]) rfl ?_
 refine G_val rfl rfl rfl rfl (V_move rfl rfl) ?_
 refine G_val rfl rfl rfl rfl (V_lss rfl rfl rfl) ?_
 refine G_val rfl rfl rfl rfl (V_move rfl rfl) ?_
 refine G_splitD 5 rfl (fun hc1 => ?_) (fun hc1 => ?_)
 · skip
   refine G_off rfl rfl rfl rfl ?_
   refine G_off rfl rfl rfl rfl ?_
   refine G_val rfl rfl rfl rfl (V_pickT rfl rfl rfl) ?_
   refine G_done ?_
   refine G_then rfl ?_
   refine G_seq ?_
   refine G_region (l := [0]) rfl ?_
   refine G_val rfl rfl rfl rfl (V_assign rfl rfl) ?_
   refine G_done ?_
   refine G_ret (post := []) Tryd.func28 rfl (RVs_cons (RV_tmp rfl) RVs_nil) [] rfl ?_
   dsimp only [packed]
   first
     | exact ⟨str_eq (wordK_no k (by omega)).symm, rfl⟩
     | exact ⟨str_eq (wordK_at (by omega)).symm, rfl⟩
 refine G_val rfl rfl rfl rfl (V_move rfl rfl) ?_
 refine G_val rfl rfl rfl rfl (V_gtr rfl rfl rfl) ?_
 refine G_val rfl rfl rfl rfl (V_pickF rfl rfl rfl) ?_
 refine G_done ?_
 refine G_ifD rfl (fun hc2 => ?_) (fun hc2 => ?_)
 · skip
   refine G_seq ?_
   refine G_region (l := [0]) rfl ?_
   refine G_val rfl rfl rfl rfl (V_assign rfl rfl) ?_
   refine G_done ?_
   refine G_ret (post := []) Tryd.func28 rfl (RVs_cons (RV_tmp rfl) RVs_nil) [] rfl ?_
   dsimp only [packed]
   first
     | exact ⟨str_eq (wordK_no k (by omega)).symm, rfl⟩
     | exact ⟨str_eq (wordK_at (by omega)).symm, rfl⟩
 refine G_skip ?_
 refine G_seq ?_
 refine G_region (l := [0, 1, 2, 3, 4, 5]) rfl ?_
 refine G_call (L2 := []) rfl rfl rfl rfl rfl rfl Tryd.call52 (rmsg_words) [] [] rfl rfl ?_
 rintro v post ⟨bw, rfl, rfl⟩
 show G _ _ _ [_] _
 refine G_val rfl rfl rfl rfl (V_move rfl rfl) ?_
 refine G_val rfl rfl rfl rfl (Val.int (e' := (((k - 1).toNat : Nat) : Int)) (V_sub rfl rfl rfl) (by rw [wrap_i64 (by omega)]; omega)) ?_
 first
   | refine G_val rfl rfl rfl rfl (V_indexAddrN (s := 1) rfl Tryd.underlying53 infTellR_9 rfl rfl rfl rfl (by omega)) ?_
   | refine G_val rfl rfl rfl rfl (V_indexAddr (s := 1) rfl Tryd.underlying53 infTellR_9 rfl rfl rfl (by omega) (by first | omega | (simp [rqCells]; done) | (simp [rqCells]; omega) | (simp [rqCells] at *; omega))) ?_
 refine G_val rfl rfl rfl rfl (V_load1 rfl rfl (mem_at 0 rfl) (nth_of (show wordArr[0 + (k - 1).toNat * 1]? = some (.string (bs (wordOf ((k - 1).toNat + 1)))) by rw [Nat.zero_add, Nat.mul_one]; exact wordArr_at _ (by omega))) Tryd.underlying9 rfl) ?_
 refine G_val rfl rfl rfl rfl (V_assign rfl rfl) ?_
 refine G_done ?_
 refine G_ret (post := []) Tryd.func28 rfl (RVs_cons (RV_tmp rfl) RVs_nil) [] rfl ?_
 dsimp only [packed]
 first
   | exact ⟨str_eq (wordK_no k (by omega)).symm, rfl⟩
   | exact ⟨str_eq (wordK_at (by omega)).symm, rfl⟩

set_option maxRecDepth 100000 in
set_option maxHeartbeats 1000000 in
theorem tl_onoff (b : Bool) :
    Ct Tryd.prog 51 [.bool b] [] [] fun v post => v = .string (bs (if b then [111, 110] else [111, 102, 102])) ∧ post = [] := by
 refine ct_of Tryd.func51 rfl rfl (fun w0 => ?_)
 show G _ _ [(0, _)] _ _
 refine G_seq ?_
 refine G_region (l := [0]) rfl ?_
 refine G_val rfl rfl rfl rfl (V_assign rfl rfl) ?_
 refine G_done ?_
 refine G_seq ?_
 refine G_seq ?_
 cases b
 · skip
   refine G_region (l := [0]) rfl ?_
   refine G_val rfl rfl rfl rfl (V_move rfl rfl) ?_
   refine G_done ?_
   refine G_if rfl (fun hc1 => ?_) (fun hc1 => ?_)
   · (first | contradiction | (exact absurd rfl hc1) | (exfalso; omega) | (simp at hc1; done) | (exact absurd hc1 (by decide)) | (exact absurd (by decide) hc1))
   refine G_skip ?_
   refine G_seq ?_
   refine G_region (l := [0]) rfl ?_
   refine G_val rfl rfl rfl rfl (V_assign rfl rfl) ?_
   refine G_done ?_
   refine G_ret (post := []) Tryd.func51 rfl (RVs_cons (RV_tmp rfl) RVs_nil) [] rfl ?_
   dsimp only [packed]
   exact ⟨rfl, rfl⟩
 · skip
   refine G_region (l := [0]) rfl ?_
   refine G_val rfl rfl rfl rfl (V_move rfl rfl) ?_
   refine G_done ?_
   refine G_if rfl (fun hc1 => ?_) (fun hc1 => ?_)
   rotate_left
   · (first | contradiction | (exact absurd rfl hc1) | (exfalso; omega) | (simp at hc1; done) | (exact absurd hc1 (by decide)) | (exact absurd (by decide) hc1))
   refine G_seq ?_
   refine G_region (l := [0]) rfl ?_
   refine G_val rfl rfl rfl rfl (V_assign rfl rfl) ?_
   refine G_done ?_
   refine G_ret (post := []) Tryd.func51 rfl (RVs_cons (RV_tmp rfl) RVs_nil) [] rfl ?_
   dsimp only [packed]
   exact ⟨rfl, rfl⟩

set_option maxRecDepth 100000 in
set_option maxHeartbeats 1000000 in
theorem tl_field (q : Rq) (hq : RqT q) (c : Int) (hc : KnownL c) (T0 : TypeId) (r0 : Nat × Nat) :
    Ct Tryd.prog 27 [.agg (rqCells q).toArray, .int .i32 c] [(some 0, .cells powC T0 r0)] [] fun v post => v = .string (bs (telF q c)) ∧ post = [] := by
 refine ct_of Tryd.func27 rfl rfl (fun w0 => ?_)
 show G _ _ [(0, _), (1, _)] _ _
 refine G_seq ?_
 refine G_region (l := [0, 1]) rfl ?_
 refine G_new rfl rfl rfl rfl (N_boxA rfl rfl) (fun b2 => ?_)
 refine G_val rfl rfl rfl rfl (V_assign rfl rfl) ?_
 refine G_done ?_
 refine G_seq ?_
 refine G_seq ?_
 rcases hc with rfl | rfl | rfl | rfl | rfl | rfl | rfl | rfl | rfl | rfl | rfl | rfl | rfl | rfl | rfl | rfl
 · skip
   refine G_region (l := [0]) rfl ?_
   refine G_val rfl rfl rfl rfl (V_move rfl rfl) ?_
   refine G_done ?_
   refine G_block ?_
   refine G_seq ?_
   refine G_region (l := [0, 1]) rfl ?_
   refine G_val rfl rfl rfl rfl (V_eql rfl rfl rfl) ?_
   refine G_val rfl rfl rfl rfl (V_assign rfl rfl) ?_
   refine G_done ?_
   refine G_ifD rfl (fun hc1 => ?_) (fun hc1 => ?_)
   rotate_left
   · (first | contradiction | (exact absurd rfl hc1) | (exfalso; omega) | (simp at hc1; done) | (exact absurd hc1 (by decide)) | (exact absurd (by decide) hc1))
   refine G_seq ?_
   refine G_region (l := [0, 1, 2, 3]) rfl ?_
   refine G_val rfl rfl rfl rfl (V_fieldAddr (fo := 1) rfl Tryd.underlying27 rfl infTellR_9 rfl rfl rfl) ?_
   refine G_val rfl rfl rfl rfl (V_load1 rfl rfl (mem_at 1 rfl) rfl Tryd.underlying9 rfl) ?_
   refine G_call (L2 := [_]) rfl rfl rfl rfl rfl rfl Tryd.call9 (tl_quote (q.tx 1) (by have := hq.tx 1; omega)) [] [] rfl rfl ?_
   rintro v post ⟨rfl, rfl⟩
   show G _ _ _ [_] _
   refine G_val rfl rfl rfl rfl (V_assign rfl rfl) ?_
   refine G_done ?_
   refine G_ret (post := []) Tryd.func27 rfl (RVs_cons (RV_tmp rfl) RVs_nil) [] rfl ?_
   dsimp only [packed]
   exact ⟨rfl, rfl⟩
 · skip
   refine G_region (l := [0]) rfl ?_
   refine G_val rfl rfl rfl rfl (V_move rfl rfl) ?_
   refine G_done ?_
   refine G_block ?_
   refine G_seq ?_
   refine G_region (l := [0, 1]) rfl ?_
   refine G_val rfl rfl rfl rfl (V_eql rfl rfl rfl) ?_
   refine G_val rfl rfl rfl rfl (V_assign rfl rfl) ?_
   refine G_done ?_
   refine G_ifD rfl (fun hc1 => ?_) (fun hc1 => ?_)
   · (first | contradiction | (exact absurd rfl hc1) | (exfalso; omega) | (simp at hc1; done) | (exact absurd hc1 (by decide)) | (exact absurd (by decide) hc1))
   refine G_seq ?_
   refine G_region (l := [0, 1]) rfl ?_
   refine G_val rfl rfl rfl rfl (V_eql rfl rfl rfl) ?_
   refine G_val rfl rfl rfl rfl (V_assign rfl rfl) ?_
   refine G_done ?_
   refine G_ifD rfl (fun hc2 => ?_) (fun hc2 => ?_)
   rotate_left
   · (first | contradiction | (exact absurd rfl hc2) | (exfalso; omega) | (simp at hc2; done) | (exact absurd hc2 (by decide)) | (exact absurd (by decide) hc2))
   refine G_seq ?_
   refine G_region (l := [0, 1, 2, 3]) rfl ?_
   refine G_val rfl rfl rfl rfl (V_fieldAddr (fo := 2) rfl Tryd.underlying27 rfl infTellR_9 rfl rfl rfl) ?_
   refine G_val rfl rfl rfl rfl (V_load1 rfl rfl (mem_at 1 rfl) rfl Tryd.underlying9 rfl) ?_
   refine G_call (L2 := [_]) rfl rfl rfl rfl rfl rfl Tryd.call9 (tl_quote (q.tx 2) (by have := hq.tx 2; omega)) [] [] rfl rfl ?_
   rintro v post ⟨rfl, rfl⟩
   show G _ _ _ [_] _
   refine G_val rfl rfl rfl rfl (V_assign rfl rfl) ?_
   refine G_done ?_
   refine G_ret (post := []) Tryd.func27 rfl (RVs_cons (RV_tmp rfl) RVs_nil) [] rfl ?_
   dsimp only [packed]
   exact ⟨rfl, rfl⟩
 · skip
   refine G_region (l := [0]) rfl ?_
   refine G_val rfl rfl rfl rfl (V_move rfl rfl) ?_
   refine G_done ?_
   refine G_block ?_
   refine G_seq ?_
   refine G_region (l := [0, 1]) rfl ?_
   refine G_val rfl rfl rfl rfl (V_eql rfl rfl rfl) ?_
   refine G_val rfl rfl rfl rfl (V_assign rfl rfl) ?_
   refine G_done ?_
   refine G_ifD rfl (fun hc1 => ?_) (fun hc1 => ?_)
   · (first | contradiction | (exact absurd rfl hc1) | (exfalso; omega) | (simp at hc1; done) | (exact absurd hc1 (by decide)) | (exact absurd (by decide) hc1))
   refine G_seq ?_
   refine G_region (l := [0, 1]) rfl ?_
   refine G_val rfl rfl rfl rfl (V_eql rfl rfl rfl) ?_
   refine G_val rfl rfl rfl rfl (V_assign rfl rfl) ?_
   refine G_done ?_
   refine G_ifD rfl (fun hc2 => ?_) (fun hc2 => ?_)
   · (first | contradiction | (exact absurd rfl hc2) | (exfalso; omega) | (simp at hc2; done) | (exact absurd hc2 (by decide)) | (exact absurd (by decide) hc2))
   refine G_seq ?_
   refine G_region (l := [0, 1]) rfl ?_
   refine G_val rfl rfl rfl rfl (V_eql rfl rfl rfl) ?_
   refine G_val rfl rfl rfl rfl (V_assign rfl rfl) ?_
   refine G_done ?_
   refine G_ifD rfl (fun hc3 => ?_) (fun hc3 => ?_)
   rotate_left
   · (first | contradiction | (exact absurd rfl hc3) | (exfalso; omega) | (simp at hc3; done) | (exact absurd hc3 (by decide)) | (exact absurd (by decide) hc3))
   refine G_seq ?_
   refine G_region (l := [0, 1, 2, 3]) rfl ?_
   refine G_val rfl rfl rfl rfl (V_fieldAddr (fo := 3) rfl Tryd.underlying27 rfl infTellR_9 rfl rfl rfl) ?_
   refine G_val rfl rfl rfl rfl (V_load1 rfl rfl (mem_at 1 rfl) rfl Tryd.underlying9 rfl) ?_
   refine G_call (L2 := [_]) rfl rfl rfl rfl rfl rfl Tryd.call9 (tl_quote (q.tx 3) (by have := hq.tx 3; omega)) [] [] rfl rfl ?_
   rintro v post ⟨rfl, rfl⟩
   show G _ _ _ [_] _
   refine G_val rfl rfl rfl rfl (V_assign rfl rfl) ?_
   refine G_done ?_
   refine G_ret (post := []) Tryd.func27 rfl (RVs_cons (RV_tmp rfl) RVs_nil) [] rfl ?_
   dsimp only [packed]
   exact ⟨rfl, rfl⟩
 · skip
   refine G_region (l := [0]) rfl ?_
   refine G_val rfl rfl rfl rfl (V_move rfl rfl) ?_
   refine G_done ?_
   refine G_block ?_
   refine G_seq ?_
   refine G_region (l := [0, 1]) rfl ?_
   refine G_val rfl rfl rfl rfl (V_eql rfl rfl rfl) ?_
   refine G_val rfl rfl rfl rfl (V_assign rfl rfl) ?_
   refine G_done ?_
   refine G_ifD rfl (fun hc1 => ?_) (fun hc1 => ?_)
   · (first | contradiction | (exact absurd rfl hc1) | (exfalso; omega) | (simp at hc1; done) | (exact absurd hc1 (by decide)) | (exact absurd (by decide) hc1))
   refine G_seq ?_
   refine G_region (l := [0, 1]) rfl ?_
   refine G_val rfl rfl rfl rfl (V_eql rfl rfl rfl) ?_
   refine G_val rfl rfl rfl rfl (V_assign rfl rfl) ?_
   refine G_done ?_
   refine G_ifD rfl (fun hc2 => ?_) (fun hc2 => ?_)
   · (first | contradiction | (exact absurd rfl hc2) | (exfalso; omega) | (simp at hc2; done) | (exact absurd hc2 (by decide)) | (exact absurd (by decide) hc2))
   refine G_seq ?_
   refine G_region (l := [0, 1]) rfl ?_
   refine G_val rfl rfl rfl rfl (V_eql rfl rfl rfl) ?_
   refine G_val rfl rfl rfl rfl (V_assign rfl rfl) ?_
   refine G_done ?_
   refine G_ifD rfl (fun hc3 => ?_) (fun hc3 => ?_)
   · (first | contradiction | (exact absurd rfl hc3) | (exfalso; omega) | (simp at hc3; done) | (exact absurd hc3 (by decide)) | (exact absurd (by decide) hc3))
   refine G_seq ?_
   refine G_region (l := [0, 1]) rfl ?_
   refine G_val rfl rfl rfl rfl (V_eql rfl rfl rfl) ?_
   refine G_val rfl rfl rfl rfl (V_assign rfl rfl) ?_
   refine G_done ?_
   refine G_ifD rfl (fun hc4 => ?_) (fun hc4 => ?_)
   rotate_left
   · (first | contradiction | (exact absurd rfl hc4) | (exfalso; omega) | (simp at hc4; done) | (exact absurd hc4 (by decide)) | (exact absurd (by decide) hc4))
   refine G_seq ?_
   refine G_region (l := [0, 1, 2, 3]) rfl ?_
   refine G_val rfl rfl rfl rfl (V_fieldAddr (fo := 4) rfl Tryd.underlying27 rfl infTellR_9 rfl rfl rfl) ?_
   refine G_val rfl rfl rfl rfl (V_load1 rfl rfl (mem_at 1 rfl) rfl Tryd.underlying9 rfl) ?_
   refine G_call (L2 := [_]) rfl rfl rfl rfl rfl rfl Tryd.call9 (tl_quote (q.tx 4) (by have := hq.tx 4; omega)) [] [] rfl rfl ?_
   rintro v post ⟨rfl, rfl⟩
   show G _ _ _ [_] _
   refine G_val rfl rfl rfl rfl (V_assign rfl rfl) ?_
   refine G_done ?_
   refine G_ret (post := []) Tryd.func27 rfl (RVs_cons (RV_tmp rfl) RVs_nil) [] rfl ?_
   dsimp only [packed]
   exact ⟨rfl, rfl⟩
 · skip
   refine G_region (l := [0]) rfl ?_
   refine G_val rfl rfl rfl rfl (V_move rfl rfl) ?_
   refine G_done ?_
   refine G_block ?_
   refine G_seq ?_
   refine G_region (l := [0, 1]) rfl ?_
   refine G_val rfl rfl rfl rfl (V_eql rfl rfl rfl) ?_
   refine G_val rfl rfl rfl rfl (V_assign rfl rfl) ?_
   refine G_done ?_
   refine G_ifD rfl (fun hc1 => ?_) (fun hc1 => ?_)
   · (first | contradiction | (exact absurd rfl hc1) | (exfalso; omega) | (simp at hc1; done) | (exact absurd hc1 (by decide)) | (exact absurd (by decide) hc1))
   refine G_seq ?_
   refine G_region (l := [0, 1]) rfl ?_
   refine G_val rfl rfl rfl rfl (V_eql rfl rfl rfl) ?_
   refine G_val rfl rfl rfl rfl (V_assign rfl rfl) ?_
   refine G_done ?_
   refine G_ifD rfl (fun hc2 => ?_) (fun hc2 => ?_)
   · (first | contradiction | (exact absurd rfl hc2) | (exfalso; omega) | (simp at hc2; done) | (exact absurd hc2 (by decide)) | (exact absurd (by decide) hc2))
   refine G_seq ?_
   refine G_region (l := [0, 1]) rfl ?_
   refine G_val rfl rfl rfl rfl (V_eql rfl rfl rfl) ?_
   refine G_val rfl rfl rfl rfl (V_assign rfl rfl) ?_
   refine G_done ?_
   refine G_ifD rfl (fun hc3 => ?_) (fun hc3 => ?_)
   · (first | contradiction | (exact absurd rfl hc3) | (exfalso; omega) | (simp at hc3; done) | (exact absurd hc3 (by decide)) | (exact absurd (by decide) hc3))
   refine G_seq ?_
   refine G_region (l := [0, 1]) rfl ?_
   refine G_val rfl rfl rfl rfl (V_eql rfl rfl rfl) ?_
   refine G_val rfl rfl rfl rfl (V_assign rfl rfl) ?_
   refine G_done ?_
   refine G_ifD rfl (fun hc4 => ?_) (fun hc4 => ?_)
   · (first | contradiction | (exact absurd rfl hc4) | (exfalso; omega) | (simp at hc4; done) | (exact absurd hc4 (by decide)) | (exact absurd (by decide) hc4))
   refine G_seq ?_
   refine G_region (l := [0, 1]) rfl ?_
   refine G_val rfl rfl rfl rfl (V_eql rfl rfl rfl) ?_
   refine G_val rfl rfl rfl rfl (V_assign rfl rfl) ?_
   refine G_done ?_
   refine G_ifD rfl (fun hc5 => ?_) (fun hc5 => ?_)
   rotate_left
   · (first | contradiction | (exact absurd rfl hc5) | (exfalso; omega) | (simp at hc5; done) | (exact absurd hc5 (by decide)) | (exact absurd (by decide) hc5))
   refine G_seq ?_
   refine G_region (l := [0, 1, 2, 3]) rfl ?_
   refine G_val rfl rfl rfl rfl (V_fieldAddr (fo := 5) rfl Tryd.underlying27 rfl infTellR_9 rfl rfl rfl) ?_
   refine G_val rfl rfl rfl rfl (V_load1 rfl rfl (mem_at 1 rfl) rfl Tryd.underlying9 rfl) ?_
   refine G_call (L2 := [_]) rfl rfl rfl rfl rfl rfl Tryd.call9 (tl_quote (q.tx 5) (by have := hq.tx 5; omega)) [] [] rfl rfl ?_
   rintro v post ⟨rfl, rfl⟩
   show G _ _ _ [_] _
   refine G_val rfl rfl rfl rfl (V_assign rfl rfl) ?_
   refine G_done ?_
   refine G_ret (post := []) Tryd.func27 rfl (RVs_cons (RV_tmp rfl) RVs_nil) [] rfl ?_
   dsimp only [packed]
   exact ⟨rfl, rfl⟩
 · skip
   refine G_region (l := [0]) rfl ?_
   refine G_val rfl rfl rfl rfl (V_move rfl rfl) ?_
   refine G_done ?_
   refine G_block ?_
   refine G_seq ?_
   refine G_region (l := [0, 1]) rfl ?_
   refine G_val rfl rfl rfl rfl (V_eql rfl rfl rfl) ?_
   refine G_val rfl rfl rfl rfl (V_assign rfl rfl) ?_
   refine G_done ?_
   refine G_ifD rfl (fun hc1 => ?_) (fun hc1 => ?_)
   · (first | contradiction | (exact absurd rfl hc1) | (exfalso; omega) | (simp at hc1; done) | (exact absurd hc1 (by decide)) | (exact absurd (by decide) hc1))
   refine G_seq ?_
   refine G_region (l := [0, 1]) rfl ?_
   refine G_val rfl rfl rfl rfl (V_eql rfl rfl rfl) ?_
   refine G_val rfl rfl rfl rfl (V_assign rfl rfl) ?_
   refine G_done ?_
   refine G_ifD rfl (fun hc2 => ?_) (fun hc2 => ?_)
   · (first | contradiction | (exact absurd rfl hc2) | (exfalso; omega) | (simp at hc2; done) | (exact absurd hc2 (by decide)) | (exact absurd (by decide) hc2))
   refine G_seq ?_
   refine G_region (l := [0, 1]) rfl ?_
   refine G_val rfl rfl rfl rfl (V_eql rfl rfl rfl) ?_
   refine G_val rfl rfl rfl rfl (V_assign rfl rfl) ?_
   refine G_done ?_
   refine G_ifD rfl (fun hc3 => ?_) (fun hc3 => ?_)
   · (first | contradiction | (exact absurd rfl hc3) | (exfalso; omega) | (simp at hc3; done) | (exact absurd hc3 (by decide)) | (exact absurd (by decide) hc3))
   refine G_seq ?_
   refine G_region (l := [0, 1]) rfl ?_
   refine G_val rfl rfl rfl rfl (V_eql rfl rfl rfl) ?_
   refine G_val rfl rfl rfl rfl (V_assign rfl rfl) ?_
   refine G_done ?_
   refine G_ifD rfl (fun hc4 => ?_) (fun hc4 => ?_)
   · (first | contradiction | (exact absurd rfl hc4) | (exfalso; omega) | (simp at hc4; done) | (exact absurd hc4 (by decide)) | (exact absurd (by decide) hc4))
   refine G_seq ?_
   refine G_region (l := [0, 1]) rfl ?_
   refine G_val rfl rfl rfl rfl (V_eql rfl rfl rfl) ?_
   refine G_val rfl rfl rfl rfl (V_assign rfl rfl) ?_
   refine G_done ?_
   refine G_ifD rfl (fun hc5 => ?_) (fun hc5 => ?_)
   · (first | contradiction | (exact absurd rfl hc5) | (exfalso; omega) | (simp at hc5; done) | (exact absurd hc5 (by decide)) | (exact absurd (by decide) hc5))
   refine G_seq ?_
   refine G_region (l := [0, 1]) rfl ?_
   refine G_val rfl rfl rfl rfl (V_eql rfl rfl rfl) ?_
   refine G_val rfl rfl rfl rfl (V_assign rfl rfl) ?_
   refine G_done ?_
   refine G_ifD rfl (fun hc6 => ?_) (fun hc6 => ?_)
   rotate_left
   · (first | contradiction | (exact absurd rfl hc6) | (exfalso; omega) | (simp at hc6; done) | (exact absurd hc6 (by decide)) | (exact absurd (by decide) hc6))
   refine G_seq ?_
   refine G_region (l := [0, 1, 2, 3]) rfl ?_
   refine G_val rfl rfl rfl rfl (V_fieldAddr (fo := 6) rfl Tryd.underlying27 rfl infTellR_9 rfl rfl rfl) ?_
   refine G_val rfl rfl rfl rfl (V_load1 rfl rfl (mem_at 1 rfl) rfl Tryd.underlying9 rfl) ?_
   refine G_call (L2 := [_]) rfl rfl rfl rfl rfl rfl Tryd.call9 (tl_quote (q.tx 6) (by have := hq.tx 6; omega)) [] [] rfl rfl ?_
   rintro v post ⟨rfl, rfl⟩
   show G _ _ _ [_] _
   refine G_val rfl rfl rfl rfl (V_assign rfl rfl) ?_
   refine G_done ?_
   refine G_ret (post := []) Tryd.func27 rfl (RVs_cons (RV_tmp rfl) RVs_nil) [] rfl ?_
   dsimp only [packed]
   exact ⟨rfl, rfl⟩
 · skip
   refine G_region (l := [0]) rfl ?_
   refine G_val rfl rfl rfl rfl (V_move rfl rfl) ?_
   refine G_done ?_
   refine G_block ?_
   refine G_seq ?_
   refine G_region (l := [0, 1]) rfl ?_
   refine G_val rfl rfl rfl rfl (V_eql rfl rfl rfl) ?_
   refine G_val rfl rfl rfl rfl (V_assign rfl rfl) ?_
   refine G_done ?_
   refine G_ifD rfl (fun hc1 => ?_) (fun hc1 => ?_)
   · (first | contradiction | (exact absurd rfl hc1) | (exfalso; omega) | (simp at hc1; done) | (exact absurd hc1 (by decide)) | (exact absurd (by decide) hc1))
   refine G_seq ?_
   refine G_region (l := [0, 1]) rfl ?_
   refine G_val rfl rfl rfl rfl (V_eql rfl rfl rfl) ?_
   refine G_val rfl rfl rfl rfl (V_assign rfl rfl) ?_
   refine G_done ?_
   refine G_ifD rfl (fun hc2 => ?_) (fun hc2 => ?_)
   · (first | contradiction | (exact absurd rfl hc2) | (exfalso; omega) | (simp at hc2; done) | (exact absurd hc2 (by decide)) | (exact absurd (by decide) hc2))
   refine G_seq ?_
   refine G_region (l := [0, 1]) rfl ?_
   refine G_val rfl rfl rfl rfl (V_eql rfl rfl rfl) ?_
   refine G_val rfl rfl rfl rfl (V_assign rfl rfl) ?_
   refine G_done ?_
   refine G_ifD rfl (fun hc3 => ?_) (fun hc3 => ?_)
   · (first | contradiction | (exact absurd rfl hc3) | (exfalso; omega) | (simp at hc3; done) | (exact absurd hc3 (by decide)) | (exact absurd (by decide) hc3))
   refine G_seq ?_
   refine G_region (l := [0, 1]) rfl ?_
   refine G_val rfl rfl rfl rfl (V_eql rfl rfl rfl) ?_
   refine G_val rfl rfl rfl rfl (V_assign rfl rfl) ?_
   refine G_done ?_
   refine G_ifD rfl (fun hc4 => ?_) (fun hc4 => ?_)
   · (first | contradiction | (exact absurd rfl hc4) | (exfalso; omega) | (simp at hc4; done) | (exact absurd hc4 (by decide)) | (exact absurd (by decide) hc4))
   refine G_seq ?_
   refine G_region (l := [0, 1]) rfl ?_
   refine G_val rfl rfl rfl rfl (V_eql rfl rfl rfl) ?_
   refine G_val rfl rfl rfl rfl (V_assign rfl rfl) ?_
   refine G_done ?_
   refine G_ifD rfl (fun hc5 => ?_) (fun hc5 => ?_)
   · (first | contradiction | (exact absurd rfl hc5) | (exfalso; omega) | (simp at hc5; done) | (exact absurd hc5 (by decide)) | (exact absurd (by decide) hc5))
   refine G_seq ?_
   refine G_region (l := [0, 1]) rfl ?_
   refine G_val rfl rfl rfl rfl (V_eql rfl rfl rfl) ?_
   refine G_val rfl rfl rfl rfl (V_assign rfl rfl) ?_
   refine G_done ?_
   refine G_ifD rfl (fun hc6 => ?_) (fun hc6 => ?_)
   · (first | contradiction | (exact absurd rfl hc6) | (exfalso; omega) | (simp at hc6; done) | (exact absurd hc6 (by decide)) | (exact absurd (by decide) hc6))
   refine G_seq ?_
   refine G_region (l := [0, 1]) rfl ?_
   refine G_val rfl rfl rfl rfl (V_eql rfl rfl rfl) ?_
   refine G_val rfl rfl rfl rfl (V_assign rfl rfl) ?_
   refine G_done ?_
   refine G_ifD rfl (fun hc7 => ?_) (fun hc7 => ?_)
   rotate_left
   · (first | contradiction | (exact absurd rfl hc7) | (exfalso; omega) | (simp at hc7; done) | (exact absurd hc7 (by decide)) | (exact absurd (by decide) hc7))
   refine G_seq ?_
   refine G_region (l := [0, 1, 2, 3]) rfl ?_
   refine G_val rfl rfl rfl rfl (V_fieldAddr (fo := 16) rfl Tryd.underlying27 rfl infTellR_4 rfl rfl rfl) ?_
   refine G_val rfl rfl rfl rfl (V_load1 rfl rfl (mem_at 1 rfl) rfl Tryd.underlying4 rfl) ?_
   refine G_call (L2 := [_]) rfl rfl rfl rfl rfl rfl Tryd.call51 (tl_onoff q.flag) [] [] rfl rfl ?_
   rintro v post ⟨rfl, rfl⟩
   show G _ _ _ [_] _
   refine G_val rfl rfl rfl rfl (V_assign rfl rfl) ?_
   refine G_done ?_
   refine G_ret (post := []) Tryd.func27 rfl (RVs_cons (RV_tmp rfl) RVs_nil) [] rfl ?_
   dsimp only [packed]
   exact ⟨rfl, rfl⟩
 · skip
   refine G_region (l := [0]) rfl ?_
   refine G_val rfl rfl rfl rfl (V_move rfl rfl) ?_
   refine G_done ?_
   refine G_block ?_
   refine G_seq ?_
   refine G_region (l := [0, 1]) rfl ?_
   refine G_val rfl rfl rfl rfl (V_eql rfl rfl rfl) ?_
   refine G_val rfl rfl rfl rfl (V_assign rfl rfl) ?_
   refine G_done ?_
   refine G_ifD rfl (fun hc1 => ?_) (fun hc1 => ?_)
   · (first | contradiction | (exact absurd rfl hc1) | (exfalso; omega) | (simp at hc1; done) | (exact absurd hc1 (by decide)) | (exact absurd (by decide) hc1))
   refine G_seq ?_
   refine G_region (l := [0, 1]) rfl ?_
   refine G_val rfl rfl rfl rfl (V_eql rfl rfl rfl) ?_
   refine G_val rfl rfl rfl rfl (V_assign rfl rfl) ?_
   refine G_done ?_
   refine G_ifD rfl (fun hc2 => ?_) (fun hc2 => ?_)
   · (first | contradiction | (exact absurd rfl hc2) | (exfalso; omega) | (simp at hc2; done) | (exact absurd hc2 (by decide)) | (exact absurd (by decide) hc2))
   refine G_seq ?_
   refine G_region (l := [0, 1]) rfl ?_
   refine G_val rfl rfl rfl rfl (V_eql rfl rfl rfl) ?_
   refine G_val rfl rfl rfl rfl (V_assign rfl rfl) ?_
   refine G_done ?_
   refine G_ifD rfl (fun hc3 => ?_) (fun hc3 => ?_)
   · (first | contradiction | (exact absurd rfl hc3) | (exfalso; omega) | (simp at hc3; done) | (exact absurd hc3 (by decide)) | (exact absurd (by decide) hc3))
   refine G_seq ?_
   refine G_region (l := [0, 1]) rfl ?_
   refine G_val rfl rfl rfl rfl (V_eql rfl rfl rfl) ?_
   refine G_val rfl rfl rfl rfl (V_assign rfl rfl) ?_
   refine G_done ?_
   refine G_ifD rfl (fun hc4 => ?_) (fun hc4 => ?_)
   · (first | contradiction | (exact absurd rfl hc4) | (exfalso; omega) | (simp at hc4; done) | (exact absurd hc4 (by decide)) | (exact absurd (by decide) hc4))
   refine G_seq ?_
   refine G_region (l := [0, 1]) rfl ?_
   refine G_val rfl rfl rfl rfl (V_eql rfl rfl rfl) ?_
   refine G_val rfl rfl rfl rfl (V_assign rfl rfl) ?_
   refine G_done ?_
   refine G_ifD rfl (fun hc5 => ?_) (fun hc5 => ?_)
   · (first | contradiction | (exact absurd rfl hc5) | (exfalso; omega) | (simp at hc5; done) | (exact absurd hc5 (by decide)) | (exact absurd (by decide) hc5))
   refine G_seq ?_
   refine G_region (l := [0, 1]) rfl ?_
   refine G_val rfl rfl rfl rfl (V_eql rfl rfl rfl) ?_
   refine G_val rfl rfl rfl rfl (V_assign rfl rfl) ?_
   refine G_done ?_
   refine G_ifD rfl (fun hc6 => ?_) (fun hc6 => ?_)
   · (first | contradiction | (exact absurd rfl hc6) | (exfalso; omega) | (simp at hc6; done) | (exact absurd hc6 (by decide)) | (exact absurd (by decide) hc6))
   refine G_seq ?_
   refine G_region (l := [0, 1]) rfl ?_
   refine G_val rfl rfl rfl rfl (V_eql rfl rfl rfl) ?_
   refine G_val rfl rfl rfl rfl (V_assign rfl rfl) ?_
   refine G_done ?_
   refine G_ifD rfl (fun hc7 => ?_) (fun hc7 => ?_)
   · (first | contradiction | (exact absurd rfl hc7) | (exfalso; omega) | (simp at hc7; done) | (exact absurd hc7 (by decide)) | (exact absurd (by decide) hc7))
   refine G_skip ?_
   refine G_inBlock ?_
   refine G_seq ?_
   refine G_region (l := [0, 1, 2, 3, 4, 5, 6, 7, 8, 9, 10, 11, 12, 13, 14, 15, 16, 17, 18, 19, 20, 21, 22, 23, 24, 25, 26, 27, 28, 29]) rfl ?_
   refine G_new rfl rfl rfl rfl (N_map rfl) (fun b42 => ?_)
   refine G_val rfl rfl rfl rfl (V_fieldAddr (fo := 7) rfl Tryd.underlying27 rfl infTellR_3 rfl rfl rfl) ?_
   refine G_val rfl rfl rfl rfl (V_load1 rfl rfl (mem_at 2 rfl) rfl Tryd.underlying3 rfl) ?_
   refine G_put (l1 := []) (L' := [_, _]) rfl rfl rfl rfl (P_insert (es := []) rfl Tryd.underlying108 Tryd.underlying21 rfl rfl rfl rfl (mem_at 0 rfl) rfl) rfl ?_
   refine G_val rfl rfl rfl rfl (V_fieldAddr (fo := 8) rfl Tryd.underlying27 rfl infTellR_3 rfl rfl rfl) ?_
   refine G_val rfl rfl rfl rfl (V_load1 rfl rfl (mem_at 2 rfl) rfl Tryd.underlying3 rfl) ?_
   refine G_put (l1 := []) (L' := [_, _]) rfl rfl rfl rfl (P_insert (es := [_]) rfl Tryd.underlying108 Tryd.underlying21 rfl rfl rfl rfl (mem_at 0 rfl) rfl) rfl ?_
   refine G_val rfl rfl rfl rfl (V_fieldAddr (fo := 9) rfl Tryd.underlying27 rfl infTellR_3 rfl rfl rfl) ?_
   refine G_val rfl rfl rfl rfl (V_load1 rfl rfl (mem_at 2 rfl) rfl Tryd.underlying3 rfl) ?_
   refine G_put (l1 := []) (L' := [_, _]) rfl rfl rfl rfl (P_insert (es := [_, _]) rfl Tryd.underlying108 Tryd.underlying21 rfl rfl rfl rfl (mem_at 0 rfl) rfl) rfl ?_
   refine G_val rfl rfl rfl rfl (V_fieldAddr (fo := 10) rfl Tryd.underlying27 rfl infTellR_3 rfl rfl rfl) ?_
   refine G_val rfl rfl rfl rfl (V_load1 rfl rfl (mem_at 2 rfl) rfl Tryd.underlying3 rfl) ?_
   refine G_put (l1 := []) (L' := [_, _]) rfl rfl rfl rfl (P_insert (es := [_, _, _]) rfl Tryd.underlying108 Tryd.underlying21 rfl rfl rfl rfl (mem_at 0 rfl) rfl) rfl ?_
   refine G_val rfl rfl rfl rfl (V_fieldAddr (fo := 11) rfl Tryd.underlying27 rfl infTellR_3 rfl rfl rfl) ?_
   refine G_val rfl rfl rfl rfl (V_load1 rfl rfl (mem_at 2 rfl) rfl Tryd.underlying3 rfl) ?_
   refine G_put (l1 := []) (L' := [_, _]) rfl rfl rfl rfl (P_insert (es := [_, _, _, _]) rfl Tryd.underlying108 Tryd.underlying21 rfl rfl rfl rfl (mem_at 0 rfl) rfl) rfl ?_
   refine G_val rfl rfl rfl rfl (V_fieldAddr (fo := 12) rfl Tryd.underlying27 rfl infTellR_3 rfl rfl rfl) ?_
   refine G_val rfl rfl rfl rfl (V_load1 rfl rfl (mem_at 2 rfl) rfl Tryd.underlying3 rfl) ?_
   refine G_put (l1 := []) (L' := [_, _]) rfl rfl rfl rfl (P_insert (es := [_, _, _, _, _]) rfl Tryd.underlying108 Tryd.underlying21 rfl rfl rfl rfl (mem_at 0 rfl) rfl) rfl ?_
   refine G_val rfl rfl rfl rfl (V_fieldAddr (fo := 13) rfl Tryd.underlying27 rfl infTellR_3 rfl rfl rfl) ?_
   refine G_val rfl rfl rfl rfl (V_load1 rfl rfl (mem_at 2 rfl) rfl Tryd.underlying3 rfl) ?_
   refine G_put (l1 := []) (L' := [_, _]) rfl rfl rfl rfl (P_insert (es := [_, _, _, _, _, _]) rfl Tryd.underlying108 Tryd.underlying21 rfl rfl rfl rfl (mem_at 0 rfl) rfl) rfl ?_
   refine G_val rfl rfl rfl rfl (V_fieldAddr (fo := 14) rfl Tryd.underlying27 rfl infTellR_3 rfl rfl rfl) ?_
   refine G_val rfl rfl rfl rfl (V_load1 rfl rfl (mem_at 2 rfl) rfl Tryd.underlying3 rfl) ?_
   refine G_put (l1 := []) (L' := [_, _]) rfl rfl rfl rfl (P_insert (es := [_, _, _, _, _, _, _]) rfl Tryd.underlying108 Tryd.underlying21 rfl rfl rfl rfl (mem_at 0 rfl) rfl) rfl ?_
   refine G_val rfl rfl rfl rfl (V_fieldAddr (fo := 15) rfl Tryd.underlying27 rfl infTellR_3 rfl rfl rfl) ?_
   refine G_val rfl rfl rfl rfl (V_load1 rfl rfl (mem_at 2 rfl) rfl Tryd.underlying3 rfl) ?_
   refine G_put (l1 := []) (L' := [_, _]) rfl rfl rfl rfl (P_insert (es := [_, _, _, _, _, _, _, _]) rfl Tryd.underlying108 Tryd.underlying21 rfl rfl rfl rfl (mem_at 0 rfl) rfl) rfl ?_
   refine G_val rfl rfl rfl rfl (V_move rfl rfl) ?_
   refine G_val rfl rfl rfl rfl (V_assign rfl rfl) ?_
   refine G_done ?_
   refine G_seq ?_
   refine G_region (l := [0, 1, 2, 3, 4]) rfl ?_
   refine G_val rfl rfl rfl rfl (V_move rfl rfl) ?_
   refine G_val rfl rfl rfl rfl (V_move rfl rfl) ?_
   refine G_val rfl rfl rfl rfl (V_lookup rfl Tryd.underlying108 Tryd.underlying21 rfl rfl rfl (mem_at 1 rfl) rfl) ?_
   refine G_call (L2 := [_, _]) rfl rfl rfl rfl rfl rfl Tryd.call40 (tl_num (q.nx 7) (hq.nx 7).1 (hq.nx 7).2 T0 r0) [] [0] rfl rfl ?_
   rintro v post ⟨rfl, rfl⟩
   show G _ _ _ [_, _] _
   refine G_val rfl rfl rfl rfl (V_assign rfl rfl) ?_
   refine G_done ?_
   refine G_ret (post := []) Tryd.func27 rfl (RVs_cons (RV_tmp rfl) RVs_nil) [] rfl ?_
   dsimp only [packed]
   exact ⟨rfl, rfl⟩
 · skip
   refine G_region (l := [0]) rfl ?_
   refine G_val rfl rfl rfl rfl (V_move rfl rfl) ?_
   refine G_done ?_
   refine G_block ?_
   refine G_seq ?_
   refine G_region (l := [0, 1]) rfl ?_
   refine G_val rfl rfl rfl rfl (V_eql rfl rfl rfl) ?_
   refine G_val rfl rfl rfl rfl (V_assign rfl rfl) ?_
   refine G_done ?_
   refine G_ifD rfl (fun hc1 => ?_) (fun hc1 => ?_)
   · (first | contradiction | (exact absurd rfl hc1) | (exfalso; omega) | (simp at hc1; done) | (exact absurd hc1 (by decide)) | (exact absurd (by decide) hc1))
   refine G_seq ?_
   refine G_region (l := [0, 1]) rfl ?_
   refine G_val rfl rfl rfl rfl (V_eql rfl rfl rfl) ?_
   refine G_val rfl rfl rfl rfl (V_assign rfl rfl) ?_
   refine G_done ?_
   refine G_ifD rfl (fun hc2 => ?_) (fun hc2 => ?_)
   · (first | contradiction | (exact absurd rfl hc2) | (exfalso; omega) | (simp at hc2; done) | (exact absurd hc2 (by decide)) | (exact absurd (by decide) hc2))
   refine G_seq ?_
   refine G_region (l := [0, 1]) rfl ?_
   refine G_val rfl rfl rfl rfl (V_eql rfl rfl rfl) ?_
   refine G_val rfl rfl rfl rfl (V_assign rfl rfl) ?_
   refine G_done ?_
   refine G_ifD rfl (fun hc3 => ?_) (fun hc3 => ?_)
   · (first | contradiction | (exact absurd rfl hc3) | (exfalso; omega) | (simp at hc3; done) | (exact absurd hc3 (by decide)) | (exact absurd (by decide) hc3))
   refine G_seq ?_
   refine G_region (l := [0, 1]) rfl ?_
   refine G_val rfl rfl rfl rfl (V_eql rfl rfl rfl) ?_
   refine G_val rfl rfl rfl rfl (V_assign rfl rfl) ?_
   refine G_done ?_
   refine G_ifD rfl (fun hc4 => ?_) (fun hc4 => ?_)
   · (first | contradiction | (exact absurd rfl hc4) | (exfalso; omega) | (simp at hc4; done) | (exact absurd hc4 (by decide)) | (exact absurd (by decide) hc4))
   refine G_seq ?_
   refine G_region (l := [0, 1]) rfl ?_
   refine G_val rfl rfl rfl rfl (V_eql rfl rfl rfl) ?_
   refine G_val rfl rfl rfl rfl (V_assign rfl rfl) ?_
   refine G_done ?_
   refine G_ifD rfl (fun hc5 => ?_) (fun hc5 => ?_)
   · (first | contradiction | (exact absurd rfl hc5) | (exfalso; omega) | (simp at hc5; done) | (exact absurd hc5 (by decide)) | (exact absurd (by decide) hc5))
   refine G_seq ?_
   refine G_region (l := [0, 1]) rfl ?_
   refine G_val rfl rfl rfl rfl (V_eql rfl rfl rfl) ?_
   refine G_val rfl rfl rfl rfl (V_assign rfl rfl) ?_
   refine G_done ?_
   refine G_ifD rfl (fun hc6 => ?_) (fun hc6 => ?_)
   · (first | contradiction | (exact absurd rfl hc6) | (exfalso; omega) | (simp at hc6; done) | (exact absurd hc6 (by decide)) | (exact absurd (by decide) hc6))
   refine G_seq ?_
   refine G_region (l := [0, 1]) rfl ?_
   refine G_val rfl rfl rfl rfl (V_eql rfl rfl rfl) ?_
   refine G_val rfl rfl rfl rfl (V_assign rfl rfl) ?_
   refine G_done ?_
   refine G_ifD rfl (fun hc7 => ?_) (fun hc7 => ?_)
   · (first | contradiction | (exact absurd rfl hc7) | (exfalso; omega) | (simp at hc7; done) | (exact absurd hc7 (by decide)) | (exact absurd (by decide) hc7))
   refine G_skip ?_
   refine G_inBlock ?_
   refine G_seq ?_
   refine G_region (l := [0, 1, 2, 3, 4, 5, 6, 7, 8, 9, 10, 11, 12, 13, 14, 15, 16, 17, 18, 19, 20, 21, 22, 23, 24, 25, 26, 27, 28, 29]) rfl ?_
   refine G_new rfl rfl rfl rfl (N_map rfl) (fun b42 => ?_)
   refine G_val rfl rfl rfl rfl (V_fieldAddr (fo := 7) rfl Tryd.underlying27 rfl infTellR_3 rfl rfl rfl) ?_
   refine G_val rfl rfl rfl rfl (V_load1 rfl rfl (mem_at 2 rfl) rfl Tryd.underlying3 rfl) ?_
   refine G_put (l1 := []) (L' := [_, _]) rfl rfl rfl rfl (P_insert (es := []) rfl Tryd.underlying108 Tryd.underlying21 rfl rfl rfl rfl (mem_at 0 rfl) rfl) rfl ?_
   refine G_val rfl rfl rfl rfl (V_fieldAddr (fo := 8) rfl Tryd.underlying27 rfl infTellR_3 rfl rfl rfl) ?_
   refine G_val rfl rfl rfl rfl (V_load1 rfl rfl (mem_at 2 rfl) rfl Tryd.underlying3 rfl) ?_
   refine G_put (l1 := []) (L' := [_, _]) rfl rfl rfl rfl (P_insert (es := [_]) rfl Tryd.underlying108 Tryd.underlying21 rfl rfl rfl rfl (mem_at 0 rfl) rfl) rfl ?_
   refine G_val rfl rfl rfl rfl (V_fieldAddr (fo := 9) rfl Tryd.underlying27 rfl infTellR_3 rfl rfl rfl) ?_
   refine G_val rfl rfl rfl rfl (V_load1 rfl rfl (mem_at 2 rfl) rfl Tryd.underlying3 rfl) ?_
   refine G_put (l1 := []) (L' := [_, _]) rfl rfl rfl rfl (P_insert (es := [_, _]) rfl Tryd.underlying108 Tryd.underlying21 rfl rfl rfl rfl (mem_at 0 rfl) rfl) rfl ?_
   refine G_val rfl rfl rfl rfl (V_fieldAddr (fo := 10) rfl Tryd.underlying27 rfl infTellR_3 rfl rfl rfl) ?_
   refine G_val rfl rfl rfl rfl (V_load1 rfl rfl (mem_at 2 rfl) rfl Tryd.underlying3 rfl) ?_
   refine G_put (l1 := []) (L' := [_, _]) rfl rfl rfl rfl (P_insert (es := [_, _, _]) rfl Tryd.underlying108 Tryd.underlying21 rfl rfl rfl rfl (mem_at 0 rfl) rfl) rfl ?_
   refine G_val rfl rfl rfl rfl (V_fieldAddr (fo := 11) rfl Tryd.underlying27 rfl infTellR_3 rfl rfl rfl) ?_
   refine G_val rfl rfl rfl rfl (V_load1 rfl rfl (mem_at 2 rfl) rfl Tryd.underlying3 rfl) ?_
   refine G_put (l1 := []) (L' := [_, _]) rfl rfl rfl rfl (P_insert (es := [_, _, _, _]) rfl Tryd.underlying108 Tryd.underlying21 rfl rfl rfl rfl (mem_at 0 rfl) rfl) rfl ?_
   refine G_val rfl rfl rfl rfl (V_fieldAddr (fo := 12) rfl Tryd.underlying27 rfl infTellR_3 rfl rfl rfl) ?_
   refine G_val rfl rfl rfl rfl (V_load1 rfl rfl (mem_at 2 rfl) rfl Tryd.underlying3 rfl) ?_
   refine G_put (l1 := []) (L' := [_, _]) rfl rfl rfl rfl (P_insert (es := [_, _, _, _, _]) rfl Tryd.underlying108 Tryd.underlying21 rfl rfl rfl rfl (mem_at 0 rfl) rfl) rfl ?_
   refine G_val rfl rfl rfl rfl (V_fieldAddr (fo := 13) rfl Tryd.underlying27 rfl infTellR_3 rfl rfl rfl) ?_
   refine G_val rfl rfl rfl rfl (V_load1 rfl rfl (mem_at 2 rfl) rfl Tryd.underlying3 rfl) ?_
   refine G_put (l1 := []) (L' := [_, _]) rfl rfl rfl rfl (P_insert (es := [_, _, _, _, _, _]) rfl Tryd.underlying108 Tryd.underlying21 rfl rfl rfl rfl (mem_at 0 rfl) rfl) rfl ?_
   refine G_val rfl rfl rfl rfl (V_fieldAddr (fo := 14) rfl Tryd.underlying27 rfl infTellR_3 rfl rfl rfl) ?_
   refine G_val rfl rfl rfl rfl (V_load1 rfl rfl (mem_at 2 rfl) rfl Tryd.underlying3 rfl) ?_
   refine G_put (l1 := []) (L' := [_, _]) rfl rfl rfl rfl (P_insert (es := [_, _, _, _, _, _, _]) rfl Tryd.underlying108 Tryd.underlying21 rfl rfl rfl rfl (mem_at 0 rfl) rfl) rfl ?_
   refine G_val rfl rfl rfl rfl (V_fieldAddr (fo := 15) rfl Tryd.underlying27 rfl infTellR_3 rfl rfl rfl) ?_
   refine G_val rfl rfl rfl rfl (V_load1 rfl rfl (mem_at 2 rfl) rfl Tryd.underlying3 rfl) ?_
   refine G_put (l1 := []) (L' := [_, _]) rfl rfl rfl rfl (P_insert (es := [_, _, _, _, _, _, _, _]) rfl Tryd.underlying108 Tryd.underlying21 rfl rfl rfl rfl (mem_at 0 rfl) rfl) rfl ?_
   refine G_val rfl rfl rfl rfl (V_move rfl rfl) ?_
   refine G_val rfl rfl rfl rfl (V_assign rfl rfl) ?_
   refine G_done ?_
   refine G_seq ?_
   refine G_region (l := [0, 1, 2, 3, 4]) rfl ?_
   refine G_val rfl rfl rfl rfl (V_move rfl rfl) ?_
   refine G_val rfl rfl rfl rfl (V_move rfl rfl) ?_
   refine G_val rfl rfl rfl rfl (V_lookup rfl Tryd.underlying108 Tryd.underlying21 rfl rfl rfl (mem_at 1 rfl) rfl) ?_
   refine G_call (L2 := [_, _]) rfl rfl rfl rfl rfl rfl Tryd.call40 (tl_num (q.nx 8) (hq.nx 8).1 (hq.nx 8).2 T0 r0) [] [0] rfl rfl ?_
   rintro v post ⟨rfl, rfl⟩
   show G _ _ _ [_, _] _
   refine G_val rfl rfl rfl rfl (V_assign rfl rfl) ?_
   refine G_done ?_
   refine G_ret (post := []) Tryd.func27 rfl (RVs_cons (RV_tmp rfl) RVs_nil) [] rfl ?_
   dsimp only [packed]
   exact ⟨rfl, rfl⟩
 · skip
   refine G_region (l := [0]) rfl ?_
   refine G_val rfl rfl rfl rfl (V_move rfl rfl) ?_
   refine G_done ?_
   refine G_block ?_
   refine G_seq ?_
   refine G_region (l := [0, 1]) rfl ?_
   refine G_val rfl rfl rfl rfl (V_eql rfl rfl rfl) ?_
   refine G_val rfl rfl rfl rfl (V_assign rfl rfl) ?_
   refine G_done ?_
   refine G_ifD rfl (fun hc1 => ?_) (fun hc1 => ?_)
   · (first | contradiction | (exact absurd rfl hc1) | (exfalso; omega) | (simp at hc1; done) | (exact absurd hc1 (by decide)) | (exact absurd (by decide) hc1))
   refine G_seq ?_
   refine G_region (l := [0, 1]) rfl ?_
   refine G_val rfl rfl rfl rfl (V_eql rfl rfl rfl) ?_
   refine G_val rfl rfl rfl rfl (V_assign rfl rfl) ?_
   refine G_done ?_
   refine G_ifD rfl (fun hc2 => ?_) (fun hc2 => ?_)
   · (first | contradiction | (exact absurd rfl hc2) | (exfalso; omega) | (simp at hc2; done) | (exact absurd hc2 (by decide)) | (exact absurd (by decide) hc2))
   refine G_seq ?_
   refine G_region (l := [0, 1]) rfl ?_
   refine G_val rfl rfl rfl rfl (V_eql rfl rfl rfl) ?_
   refine G_val rfl rfl rfl rfl (V_assign rfl rfl) ?_
   refine G_done ?_
   refine G_ifD rfl (fun hc3 => ?_) (fun hc3 => ?_)
   · (first | contradiction | (exact absurd rfl hc3) | (exfalso; omega) | (simp at hc3; done) | (exact absurd hc3 (by decide)) | (exact absurd (by decide) hc3))
   refine G_seq ?_
   refine G_region (l := [0, 1]) rfl ?_
   refine G_val rfl rfl rfl rfl (V_eql rfl rfl rfl) ?_
   refine G_val rfl rfl rfl rfl (V_assign rfl rfl) ?_
   refine G_done ?_
   refine G_ifD rfl (fun hc4 => ?_) (fun hc4 => ?_)
   · (first | contradiction | (exact absurd rfl hc4) | (exfalso; omega) | (simp at hc4; done) | (exact absurd hc4 (by decide)) | (exact absurd (by decide) hc4))
   refine G_seq ?_
   refine G_region (l := [0, 1]) rfl ?_
   refine G_val rfl rfl rfl rfl (V_eql rfl rfl rfl) ?_
   refine G_val rfl rfl rfl rfl (V_assign rfl rfl) ?_
   refine G_done ?_
   refine G_ifD rfl (fun hc5 => ?_) (fun hc5 => ?_)
   · (first | contradiction | (exact absurd rfl hc5) | (exfalso; omega) | (simp at hc5; done) | (exact absurd hc5 (by decide)) | (exact absurd (by decide) hc5))
   refine G_seq ?_
   refine G_region (l := [0, 1]) rfl ?_
   refine G_val rfl rfl rfl rfl (V_eql rfl rfl rfl) ?_
   refine G_val rfl rfl rfl rfl (V_assign rfl rfl) ?_
   refine G_done ?_
   refine G_ifD rfl (fun hc6 => ?_) (fun hc6 => ?_)
   · (first | contradiction | (exact absurd rfl hc6) | (exfalso; omega) | (simp at hc6; done) | (exact absurd hc6 (by decide)) | (exact absurd (by decide) hc6))
   refine G_seq ?_
   refine G_region (l := [0, 1]) rfl ?_
   refine G_val rfl rfl rfl rfl (V_eql rfl rfl rfl) ?_
   refine G_val rfl rfl rfl rfl (V_assign rfl rfl) ?_
   refine G_done ?_
   refine G_ifD rfl (fun hc7 => ?_) (fun hc7 => ?_)
   · (first | contradiction | (exact absurd rfl hc7) | (exfalso; omega) | (simp at hc7; done) | (exact absurd hc7 (by decide)) | (exact absurd (by decide) hc7))
   refine G_skip ?_
   refine G_inBlock ?_
   refine G_seq ?_
   refine G_region (l := [0, 1, 2, 3, 4, 5, 6, 7, 8, 9, 10, 11, 12, 13, 14, 15, 16, 17, 18, 19, 20, 21, 22, 23, 24, 25, 26, 27, 28, 29]) rfl ?_
   refine G_new rfl rfl rfl rfl (N_map rfl) (fun b42 => ?_)
   refine G_val rfl rfl rfl rfl (V_fieldAddr (fo := 7) rfl Tryd.underlying27 rfl infTellR_3 rfl rfl rfl) ?_
   refine G_val rfl rfl rfl rfl (V_load1 rfl rfl (mem_at 2 rfl) rfl Tryd.underlying3 rfl) ?_
   refine G_put (l1 := []) (L' := [_, _]) rfl rfl rfl rfl (P_insert (es := []) rfl Tryd.underlying108 Tryd.underlying21 rfl rfl rfl rfl (mem_at 0 rfl) rfl) rfl ?_
   refine G_val rfl rfl rfl rfl (V_fieldAddr (fo := 8) rfl Tryd.underlying27 rfl infTellR_3 rfl rfl rfl) ?_
   refine G_val rfl rfl rfl rfl (V_load1 rfl rfl (mem_at 2 rfl) rfl Tryd.underlying3 rfl) ?_
   refine G_put (l1 := []) (L' := [_, _]) rfl rfl rfl rfl (P_insert (es := [_]) rfl Tryd.underlying108 Tryd.underlying21 rfl rfl rfl rfl (mem_at 0 rfl) rfl) rfl ?_
   refine G_val rfl rfl rfl rfl (V_fieldAddr (fo := 9) rfl Tryd.underlying27 rfl infTellR_3 rfl rfl rfl) ?_
   refine G_val rfl rfl rfl rfl (V_load1 rfl rfl (mem_at 2 rfl) rfl Tryd.underlying3 rfl) ?_
   refine G_put (l1 := []) (L' := [_, _]) rfl rfl rfl rfl (P_insert (es := [_, _]) rfl Tryd.underlying108 Tryd.underlying21 rfl rfl rfl rfl (mem_at 0 rfl) rfl) rfl ?_
   refine G_val rfl rfl rfl rfl (V_fieldAddr (fo := 10) rfl Tryd.underlying27 rfl infTellR_3 rfl rfl rfl) ?_
   refine G_val rfl rfl rfl rfl (V_load1 rfl rfl (mem_at 2 rfl) rfl Tryd.underlying3 rfl) ?_
   refine G_put (l1 := []) (L' := [_, _]) rfl rfl rfl rfl (P_insert (es := [_, _, _]) rfl Tryd.underlying108 Tryd.underlying21 rfl rfl rfl rfl (mem_at 0 rfl) rfl) rfl ?_
   refine G_val rfl rfl rfl rfl (V_fieldAddr (fo := 11) rfl Tryd.underlying27 rfl infTellR_3 rfl rfl rfl) ?_
   refine G_val rfl rfl rfl rfl (V_load1 rfl rfl (mem_at 2 rfl) rfl Tryd.underlying3 rfl) ?_
   refine G_put (l1 := []) (L' := [_, _]) rfl rfl rfl rfl (P_insert (es := [_, _, _, _]) rfl Tryd.underlying108 Tryd.underlying21 rfl rfl rfl rfl (mem_at 0 rfl) rfl) rfl ?_
   refine G_val rfl rfl rfl rfl (V_fieldAddr (fo := 12) rfl Tryd.underlying27 rfl infTellR_3 rfl rfl rfl) ?_
   refine G_val rfl rfl rfl rfl (V_load1 rfl rfl (mem_at 2 rfl) rfl Tryd.underlying3 rfl) ?_
   refine G_put (l1 := []) (L' := [_, _]) rfl rfl rfl rfl (P_insert (es := [_, _, _, _, _]) rfl Tryd.underlying108 Tryd.underlying21 rfl rfl rfl rfl (mem_at 0 rfl) rfl) rfl ?_
   refine G_val rfl rfl rfl rfl (V_fieldAddr (fo := 13) rfl Tryd.underlying27 rfl infTellR_3 rfl rfl rfl) ?_
   refine G_val rfl rfl rfl rfl (V_load1 rfl rfl (mem_at 2 rfl) rfl Tryd.underlying3 rfl) ?_
   refine G_put (l1 := []) (L' := [_, _]) rfl rfl rfl rfl (P_insert (es := [_, _, _, _, _, _]) rfl Tryd.underlying108 Tryd.underlying21 rfl rfl rfl rfl (mem_at 0 rfl) rfl) rfl ?_
   refine G_val rfl rfl rfl rfl (V_fieldAddr (fo := 14) rfl Tryd.underlying27 rfl infTellR_3 rfl rfl rfl) ?_
   refine G_val rfl rfl rfl rfl (V_load1 rfl rfl (mem_at 2 rfl) rfl Tryd.underlying3 rfl) ?_
   refine G_put (l1 := []) (L' := [_, _]) rfl rfl rfl rfl (P_insert (es := [_, _, _, _, _, _, _]) rfl Tryd.underlying108 Tryd.underlying21 rfl rfl rfl rfl (mem_at 0 rfl) rfl) rfl ?_
   refine G_val rfl rfl rfl rfl (V_fieldAddr (fo := 15) rfl Tryd.underlying27 rfl infTellR_3 rfl rfl rfl) ?_
   refine G_val rfl rfl rfl rfl (V_load1 rfl rfl (mem_at 2 rfl) rfl Tryd.underlying3 rfl) ?_
   refine G_put (l1 := []) (L' := [_, _]) rfl rfl rfl rfl (P_insert (es := [_, _, _, _, _, _, _, _]) rfl Tryd.underlying108 Tryd.underlying21 rfl rfl rfl rfl (mem_at 0 rfl) rfl) rfl ?_
   refine G_val rfl rfl rfl rfl (V_move rfl rfl) ?_
   refine G_val rfl rfl rfl rfl (V_assign rfl rfl) ?_
   refine G_done ?_
   refine G_seq ?_
   refine G_region (l := [0, 1, 2, 3, 4]) rfl ?_
   refine G_val rfl rfl rfl rfl (V_move rfl rfl) ?_
   refine G_val rfl rfl rfl rfl (V_move rfl rfl) ?_
   refine G_val rfl rfl rfl rfl (V_lookup rfl Tryd.underlying108 Tryd.underlying21 rfl rfl rfl (mem_at 1 rfl) rfl) ?_
   refine G_call (L2 := [_, _]) rfl rfl rfl rfl rfl rfl Tryd.call40 (tl_num (q.nx 9) (hq.nx 9).1 (hq.nx 9).2 T0 r0) [] [0] rfl rfl ?_
   rintro v post ⟨rfl, rfl⟩
   show G _ _ _ [_, _] _
   refine G_val rfl rfl rfl rfl (V_assign rfl rfl) ?_
   refine G_done ?_
   refine G_ret (post := []) Tryd.func27 rfl (RVs_cons (RV_tmp rfl) RVs_nil) [] rfl ?_
   dsimp only [packed]
   exact ⟨rfl, rfl⟩
 · skip
   refine G_region (l := [0]) rfl ?_
   refine G_val rfl rfl rfl rfl (V_move rfl rfl) ?_
   refine G_done ?_
   refine G_block ?_
   refine G_seq ?_
   refine G_region (l := [0, 1]) rfl ?_
   refine G_val rfl rfl rfl rfl (V_eql rfl rfl rfl) ?_
   refine G_val rfl rfl rfl rfl (V_assign rfl rfl) ?_
   refine G_done ?_
   refine G_ifD rfl (fun hc1 => ?_) (fun hc1 => ?_)
   · (first | contradiction | (exact absurd rfl hc1) | (exfalso; omega) | (simp at hc1; done) | (exact absurd hc1 (by decide)) | (exact absurd (by decide) hc1))
   refine G_seq ?_
   refine G_region (l := [0, 1]) rfl ?_
   refine G_val rfl rfl rfl rfl (V_eql rfl rfl rfl) ?_
   refine G_val rfl rfl rfl rfl (V_assign rfl rfl) ?_
   refine G_done ?_
   refine G_ifD rfl (fun hc2 => ?_) (fun hc2 => ?_)
   · (first | contradiction | (exact absurd rfl hc2) | (exfalso; omega) | (simp at hc2; done) | (exact absurd hc2 (by decide)) | (exact absurd (by decide) hc2))
   refine G_seq ?_
   refine G_region (l := [0, 1]) rfl ?_
   refine G_val rfl rfl rfl rfl (V_eql rfl rfl rfl) ?_
   refine G_val rfl rfl rfl rfl (V_assign rfl rfl) ?_
   refine G_done ?_
   refine G_ifD rfl (fun hc3 => ?_) (fun hc3 => ?_)
   · (first | contradiction | (exact absurd rfl hc3) | (exfalso; omega) | (simp at hc3; done) | (exact absurd hc3 (by decide)) | (exact absurd (by decide) hc3))
   refine G_seq ?_
   refine G_region (l := [0, 1]) rfl ?_
   refine G_val rfl rfl rfl rfl (V_eql rfl rfl rfl) ?_
   refine G_val rfl rfl rfl rfl (V_assign rfl rfl) ?_
   refine G_done ?_
   refine G_ifD rfl (fun hc4 => ?_) (fun hc4 => ?_)
   · (first | contradiction | (exact absurd rfl hc4) | (exfalso; omega) | (simp at hc4; done) | (exact absurd hc4 (by decide)) | (exact absurd (by decide) hc4))
   refine G_seq ?_
   refine G_region (l := [0, 1]) rfl ?_
   refine G_val rfl rfl rfl rfl (V_eql rfl rfl rfl) ?_
   refine G_val rfl rfl rfl rfl (V_assign rfl rfl) ?_
   refine G_done ?_
   refine G_ifD rfl (fun hc5 => ?_) (fun hc5 => ?_)
   · (first | contradiction | (exact absurd rfl hc5) | (exfalso; omega) | (simp at hc5; done) | (exact absurd hc5 (by decide)) | (exact absurd (by decide) hc5))
   refine G_seq ?_
   refine G_region (l := [0, 1]) rfl ?_
   refine G_val rfl rfl rfl rfl (V_eql rfl rfl rfl) ?_
   refine G_val rfl rfl rfl rfl (V_assign rfl rfl) ?_
   refine G_done ?_
   refine G_ifD rfl (fun hc6 => ?_) (fun hc6 => ?_)
   · (first | contradiction | (exact absurd rfl hc6) | (exfalso; omega) | (simp at hc6; done) | (exact absurd hc6 (by decide)) | (exact absurd (by decide) hc6))
   refine G_seq ?_
   refine G_region (l := [0, 1]) rfl ?_
   refine G_val rfl rfl rfl rfl (V_eql rfl rfl rfl) ?_
   refine G_val rfl rfl rfl rfl (V_assign rfl rfl) ?_
   refine G_done ?_
   refine G_ifD rfl (fun hc7 => ?_) (fun hc7 => ?_)
   · (first | contradiction | (exact absurd rfl hc7) | (exfalso; omega) | (simp at hc7; done) | (exact absurd hc7 (by decide)) | (exact absurd (by decide) hc7))
   refine G_skip ?_
   refine G_inBlock ?_
   refine G_seq ?_
   refine G_region (l := [0, 1, 2, 3, 4, 5, 6, 7, 8, 9, 10, 11, 12, 13, 14, 15, 16, 17, 18, 19, 20, 21, 22, 23, 24, 25, 26, 27, 28, 29]) rfl ?_
   refine G_new rfl rfl rfl rfl (N_map rfl) (fun b42 => ?_)
   refine G_val rfl rfl rfl rfl (V_fieldAddr (fo := 7) rfl Tryd.underlying27 rfl infTellR_3 rfl rfl rfl) ?_
   refine G_val rfl rfl rfl rfl (V_load1 rfl rfl (mem_at 2 rfl) rfl Tryd.underlying3 rfl) ?_
   refine G_put (l1 := []) (L' := [_, _]) rfl rfl rfl rfl (P_insert (es := []) rfl Tryd.underlying108 Tryd.underlying21 rfl rfl rfl rfl (mem_at 0 rfl) rfl) rfl ?_
   refine G_val rfl rfl rfl rfl (V_fieldAddr (fo := 8) rfl Tryd.underlying27 rfl infTellR_3 rfl rfl rfl) ?_
   refine G_val rfl rfl rfl rfl (V_load1 rfl rfl (mem_at 2 rfl) rfl Tryd.underlying3 rfl) ?_
   refine G_put (l1 := []) (L' := [_, _]) rfl rfl rfl rfl (P_insert (es := [_]) rfl Tryd.underlying108 Tryd.underlying21 rfl rfl rfl rfl (mem_at 0 rfl) rfl) rfl ?_
   refine G_val rfl rfl rfl rfl (V_fieldAddr (fo := 9) rfl Tryd.underlying27 rfl infTellR_3 rfl rfl rfl) ?_
   refine G_val rfl rfl rfl rfl (V_load1 rfl rfl (mem_at 2 rfl) rfl Tryd.underlying3 rfl) ?_
   refine G_put (l1 := []) (L' := [_, _]) rfl rfl rfl rfl (P_insert (es := [_, _]) rfl Tryd.underlying108 Tryd.underlying21 rfl rfl rfl rfl (mem_at 0 rfl) rfl) rfl ?_
   refine G_val rfl rfl rfl rfl (V_fieldAddr (fo := 10) rfl Tryd.underlying27 rfl infTellR_3 rfl rfl rfl) ?_
   refine G_val rfl rfl rfl rfl (V_load1 rfl rfl (mem_at 2 rfl) rfl Tryd.underlying3 rfl) ?_
   refine G_put (l1 := []) (L' := [_, _]) rfl rfl rfl rfl (P_insert (es := [_, _, _]) rfl Tryd.underlying108 Tryd.underlying21 rfl rfl rfl rfl (mem_at 0 rfl) rfl) rfl ?_
   refine G_val rfl rfl rfl rfl (V_fieldAddr (fo := 11) rfl Tryd.underlying27 rfl infTellR_3 rfl rfl rfl) ?_
   refine G_val rfl rfl rfl rfl (V_load1 rfl rfl (mem_at 2 rfl) rfl Tryd.underlying3 rfl) ?_
   refine G_put (l1 := []) (L' := [_, _]) rfl rfl rfl rfl (P_insert (es := [_, _, _, _]) rfl Tryd.underlying108 Tryd.underlying21 rfl rfl rfl rfl (mem_at 0 rfl) rfl) rfl ?_
   refine G_val rfl rfl rfl rfl (V_fieldAddr (fo := 12) rfl Tryd.underlying27 rfl infTellR_3 rfl rfl rfl) ?_
   refine G_val rfl rfl rfl rfl (V_load1 rfl rfl (mem_at 2 rfl) rfl Tryd.underlying3 rfl) ?_
   refine G_put (l1 := []) (L' := [_, _]) rfl rfl rfl rfl (P_insert (es := [_, _, _, _, _]) rfl Tryd.underlying108 Tryd.underlying21 rfl rfl rfl rfl (mem_at 0 rfl) rfl) rfl ?_
   refine G_val rfl rfl rfl rfl (V_fieldAddr (fo := 13) rfl Tryd.underlying27 rfl infTellR_3 rfl rfl rfl) ?_
   refine G_val rfl rfl rfl rfl (V_load1 rfl rfl (mem_at 2 rfl) rfl Tryd.underlying3 rfl) ?_
   refine G_put (l1 := []) (L' := [_, _]) rfl rfl rfl rfl (P_insert (es := [_, _, _, _, _, _]) rfl Tryd.underlying108 Tryd.underlying21 rfl rfl rfl rfl (mem_at 0 rfl) rfl) rfl ?_
   refine G_val rfl rfl rfl rfl (V_fieldAddr (fo := 14) rfl Tryd.underlying27 rfl infTellR_3 rfl rfl rfl) ?_
   refine G_val rfl rfl rfl rfl (V_load1 rfl rfl (mem_at 2 rfl) rfl Tryd.underlying3 rfl) ?_
   refine G_put (l1 := []) (L' := [_, _]) rfl rfl rfl rfl (P_insert (es := [_, _, _, _, _, _, _]) rfl Tryd.underlying108 Tryd.underlying21 rfl rfl rfl rfl (mem_at 0 rfl) rfl) rfl ?_
   refine G_val rfl rfl rfl rfl (V_fieldAddr (fo := 15) rfl Tryd.underlying27 rfl infTellR_3 rfl rfl rfl) ?_
   refine G_val rfl rfl rfl rfl (V_load1 rfl rfl (mem_at 2 rfl) rfl Tryd.underlying3 rfl) ?_
   refine G_put (l1 := []) (L' := [_, _]) rfl rfl rfl rfl (P_insert (es := [_, _, _, _, _, _, _, _]) rfl Tryd.underlying108 Tryd.underlying21 rfl rfl rfl rfl (mem_at 0 rfl) rfl) rfl ?_
   refine G_val rfl rfl rfl rfl (V_move rfl rfl) ?_
   refine G_val rfl rfl rfl rfl (V_assign rfl rfl) ?_
   refine G_done ?_
   refine G_seq ?_
   refine G_region (l := [0, 1, 2, 3, 4]) rfl ?_
   refine G_val rfl rfl rfl rfl (V_move rfl rfl) ?_
   refine G_val rfl rfl rfl rfl (V_move rfl rfl) ?_
   refine G_val rfl rfl rfl rfl (V_lookup rfl Tryd.underlying108 Tryd.underlying21 rfl rfl rfl (mem_at 1 rfl) rfl) ?_
   refine G_call (L2 := [_, _]) rfl rfl rfl rfl rfl rfl Tryd.call40 (tl_num (q.nx 10) (hq.nx 10).1 (hq.nx 10).2 T0 r0) [] [0] rfl rfl ?_
   rintro v post ⟨rfl, rfl⟩
   show G _ _ _ [_, _] _
   refine G_val rfl rfl rfl rfl (V_assign rfl rfl) ?_
   refine G_done ?_
   refine G_ret (post := []) Tryd.func27 rfl (RVs_cons (RV_tmp rfl) RVs_nil) [] rfl ?_
   dsimp only [packed]
   exact ⟨rfl, rfl⟩
 · skip
   refine G_region (l := [0]) rfl ?_
   refine G_val rfl rfl rfl rfl (V_move rfl rfl) ?_
   refine G_done ?_
   refine G_block ?_
   refine G_seq ?_
   refine G_region (l := [0, 1]) rfl ?_
   refine G_val rfl rfl rfl rfl (V_eql rfl rfl rfl) ?_
   refine G_val rfl rfl rfl rfl (V_assign rfl rfl) ?_
   refine G_done ?_
   refine G_ifD rfl (fun hc1 => ?_) (fun hc1 => ?_)
   · (first | contradiction | (exact absurd rfl hc1) | (exfalso; omega) | (simp at hc1; done) | (exact absurd hc1 (by decide)) | (exact absurd (by decide) hc1))
   refine G_seq ?_
   refine G_region (l := [0, 1]) rfl ?_
   refine G_val rfl rfl rfl rfl (V_eql rfl rfl rfl) ?_
   refine G_val rfl rfl rfl rfl (V_assign rfl rfl) ?_
   refine G_done ?_
   refine G_ifD rfl (fun hc2 => ?_) (fun hc2 => ?_)
   · (first | contradiction | (exact absurd rfl hc2) | (exfalso; omega) | (simp at hc2; done) | (exact absurd hc2 (by decide)) | (exact absurd (by decide) hc2))
   refine G_seq ?_
   refine G_region (l := [0, 1]) rfl ?_
   refine G_val rfl rfl rfl rfl (V_eql rfl rfl rfl) ?_
   refine G_val rfl rfl rfl rfl (V_assign rfl rfl) ?_
   refine G_done ?_
   refine G_ifD rfl (fun hc3 => ?_) (fun hc3 => ?_)
   · (first | contradiction | (exact absurd rfl hc3) | (exfalso; omega) | (simp at hc3; done) | (exact absurd hc3 (by decide)) | (exact absurd (by decide) hc3))
   refine G_seq ?_
   refine G_region (l := [0, 1]) rfl ?_
   refine G_val rfl rfl rfl rfl (V_eql rfl rfl rfl) ?_
   refine G_val rfl rfl rfl rfl (V_assign rfl rfl) ?_
   refine G_done ?_
   refine G_ifD rfl (fun hc4 => ?_) (fun hc4 => ?_)
   · (first | contradiction | (exact absurd rfl hc4) | (exfalso; omega) | (simp at hc4; done) | (exact absurd hc4 (by decide)) | (exact absurd (by decide) hc4))
   refine G_seq ?_
   refine G_region (l := [0, 1]) rfl ?_
   refine G_val rfl rfl rfl rfl (V_eql rfl rfl rfl) ?_
   refine G_val rfl rfl rfl rfl (V_assign rfl rfl) ?_
   refine G_done ?_
   refine G_ifD rfl (fun hc5 => ?_) (fun hc5 => ?_)
   · (first | contradiction | (exact absurd rfl hc5) | (exfalso; omega) | (simp at hc5; done) | (exact absurd hc5 (by decide)) | (exact absurd (by decide) hc5))
   refine G_seq ?_
   refine G_region (l := [0, 1]) rfl ?_
   refine G_val rfl rfl rfl rfl (V_eql rfl rfl rfl) ?_
   refine G_val rfl rfl rfl rfl (V_assign rfl rfl) ?_
   refine G_done ?_
   refine G_ifD rfl (fun hc6 => ?_) (fun hc6 => ?_)
   · (first | contradiction | (exact absurd rfl hc6) | (exfalso; omega) | (simp at hc6; done) | (exact absurd hc6 (by decide)) | (exact absurd (by decide) hc6))
   refine G_seq ?_
   refine G_region (l := [0, 1]) rfl ?_
   refine G_val rfl rfl rfl rfl (V_eql rfl rfl rfl) ?_
   refine G_val rfl rfl rfl rfl (V_assign rfl rfl) ?_
   refine G_done ?_
   refine G_ifD rfl (fun hc7 => ?_) (fun hc7 => ?_)
   · (first | contradiction | (exact absurd rfl hc7) | (exfalso; omega) | (simp at hc7; done) | (exact absurd hc7 (by decide)) | (exact absurd (by decide) hc7))
   refine G_skip ?_
   refine G_inBlock ?_
   refine G_seq ?_
   refine G_region (l := [0, 1, 2, 3, 4, 5, 6, 7, 8, 9, 10, 11, 12, 13, 14, 15, 16, 17, 18, 19, 20, 21, 22, 23, 24, 25, 26, 27, 28, 29]) rfl ?_
   refine G_new rfl rfl rfl rfl (N_map rfl) (fun b42 => ?_)
   refine G_val rfl rfl rfl rfl (V_fieldAddr (fo := 7) rfl Tryd.underlying27 rfl infTellR_3 rfl rfl rfl) ?_
   refine G_val rfl rfl rfl rfl (V_load1 rfl rfl (mem_at 2 rfl) rfl Tryd.underlying3 rfl) ?_
   refine G_put (l1 := []) (L' := [_, _]) rfl rfl rfl rfl (P_insert (es := []) rfl Tryd.underlying108 Tryd.underlying21 rfl rfl rfl rfl (mem_at 0 rfl) rfl) rfl ?_
   refine G_val rfl rfl rfl rfl (V_fieldAddr (fo := 8) rfl Tryd.underlying27 rfl infTellR_3 rfl rfl rfl) ?_
   refine G_val rfl rfl rfl rfl (V_load1 rfl rfl (mem_at 2 rfl) rfl Tryd.underlying3 rfl) ?_
   refine G_put (l1 := []) (L' := [_, _]) rfl rfl rfl rfl (P_insert (es := [_]) rfl Tryd.underlying108 Tryd.underlying21 rfl rfl rfl rfl (mem_at 0 rfl) rfl) rfl ?_
   refine G_val rfl rfl rfl rfl (V_fieldAddr (fo := 9) rfl Tryd.underlying27 rfl infTellR_3 rfl rfl rfl) ?_
   refine G_val rfl rfl rfl rfl (V_load1 rfl rfl (mem_at 2 rfl) rfl Tryd.underlying3 rfl) ?_
   refine G_put (l1 := []) (L' := [_, _]) rfl rfl rfl rfl (P_insert (es := [_, _]) rfl Tryd.underlying108 Tryd.underlying21 rfl rfl rfl rfl (mem_at 0 rfl) rfl) rfl ?_
   refine G_val rfl rfl rfl rfl (V_fieldAddr (fo := 10) rfl Tryd.underlying27 rfl infTellR_3 rfl rfl rfl) ?_
   refine G_val rfl rfl rfl rfl (V_load1 rfl rfl (mem_at 2 rfl) rfl Tryd.underlying3 rfl) ?_
   refine G_put (l1 := []) (L' := [_, _]) rfl rfl rfl rfl (P_insert (es := [_, _, _]) rfl Tryd.underlying108 Tryd.underlying21 rfl rfl rfl rfl (mem_at 0 rfl) rfl) rfl ?_
   refine G_val rfl rfl rfl rfl (V_fieldAddr (fo := 11) rfl Tryd.underlying27 rfl infTellR_3 rfl rfl rfl) ?_
   refine G_val rfl rfl rfl rfl (V_load1 rfl rfl (mem_at 2 rfl) rfl Tryd.underlying3 rfl) ?_
   refine G_put (l1 := []) (L' := [_, _]) rfl rfl rfl rfl (P_insert (es := [_, _, _, _]) rfl Tryd.underlying108 Tryd.underlying21 rfl rfl rfl rfl (mem_at 0 rfl) rfl) rfl ?_
   refine G_val rfl rfl rfl rfl (V_fieldAddr (fo := 12) rfl Tryd.underlying27 rfl infTellR_3 rfl rfl rfl) ?_
   refine G_val rfl rfl rfl rfl (V_load1 rfl rfl (mem_at 2 rfl) rfl Tryd.underlying3 rfl) ?_
   refine G_put (l1 := []) (L' := [_, _]) rfl rfl rfl rfl (P_insert (es := [_, _, _, _, _]) rfl Tryd.underlying108 Tryd.underlying21 rfl rfl rfl rfl (mem_at 0 rfl) rfl) rfl ?_
   refine G_val rfl rfl rfl rfl (V_fieldAddr (fo := 13) rfl Tryd.underlying27 rfl infTellR_3 rfl rfl rfl) ?_
   refine G_val rfl rfl rfl rfl (V_load1 rfl rfl (mem_at 2 rfl) rfl Tryd.underlying3 rfl) ?_
   refine G_put (l1 := []) (L' := [_, _]) rfl rfl rfl rfl (P_insert (es := [_, _, _, _, _, _]) rfl Tryd.underlying108 Tryd.underlying21 rfl rfl rfl rfl (mem_at 0 rfl) rfl) rfl ?_
   refine G_val rfl rfl rfl rfl (V_fieldAddr (fo := 14) rfl Tryd.underlying27 rfl infTellR_3 rfl rfl rfl) ?_
   refine G_val rfl rfl rfl rfl (V_load1 rfl rfl (mem_at 2 rfl) rfl Tryd.underlying3 rfl) ?_
   refine G_put (l1 := []) (L' := [_, _]) rfl rfl rfl rfl (P_insert (es := [_, _, _, _, _, _, _]) rfl Tryd.underlying108 Tryd.underlying21 rfl rfl rfl rfl (mem_at 0 rfl) rfl) rfl ?_
   refine G_val rfl rfl rfl rfl (V_fieldAddr (fo := 15) rfl Tryd.underlying27 rfl infTellR_3 rfl rfl rfl) ?_
   refine G_val rfl rfl rfl rfl (V_load1 rfl rfl (mem_at 2 rfl) rfl Tryd.underlying3 rfl) ?_
   refine G_put (l1 := []) (L' := [_, _]) rfl rfl rfl rfl (P_insert (es := [_, _, _, _, _, _, _, _]) rfl Tryd.underlying108 Tryd.underlying21 rfl rfl rfl rfl (mem_at 0 rfl) rfl) rfl ?_
   refine G_val rfl rfl rfl rfl (V_move rfl rfl) ?_
   refine G_val rfl rfl rfl rfl (V_assign rfl rfl) ?_
   refine G_done ?_
   refine G_seq ?_
   refine G_region (l := [0, 1, 2, 3, 4]) rfl ?_
   refine G_val rfl rfl rfl rfl (V_move rfl rfl) ?_
   refine G_val rfl rfl rfl rfl (V_move rfl rfl) ?_
   refine G_val rfl rfl rfl rfl (V_lookup rfl Tryd.underlying108 Tryd.underlying21 rfl rfl rfl (mem_at 1 rfl) rfl) ?_
   refine G_call (L2 := [_, _]) rfl rfl rfl rfl rfl rfl Tryd.call40 (tl_num (q.nx 11) (hq.nx 11).1 (hq.nx 11).2 T0 r0) [] [0] rfl rfl ?_
   rintro v post ⟨rfl, rfl⟩
   show G _ _ _ [_, _] _
   refine G_val rfl rfl rfl rfl (V_assign rfl rfl) ?_
   refine G_done ?_
   refine G_ret (post := []) Tryd.func27 rfl (RVs_cons (RV_tmp rfl) RVs_nil) [] rfl ?_
   dsimp only [packed]
   exact ⟨rfl, rfl⟩
 · skip
   refine G_region (l := [0]) rfl ?_
   refine G_val rfl rfl rfl rfl (V_move rfl rfl) ?_
   refine G_done ?_
   refine G_block ?_
   refine G_seq ?_
   refine G_region (l := [0, 1]) rfl ?_
   refine G_val rfl rfl rfl rfl (V_eql rfl rfl rfl) ?_
   refine G_val rfl rfl rfl rfl (V_assign rfl rfl) ?_
   refine G_done ?_
   refine G_ifD rfl (fun hc1 => ?_) (fun hc1 => ?_)
   · (first | contradiction | (exact absurd rfl hc1) | (exfalso; omega) | (simp at hc1; done) | (exact absurd hc1 (by decide)) | (exact absurd (by decide) hc1))
   refine G_seq ?_
   refine G_region (l := [0, 1]) rfl ?_
   refine G_val rfl rfl rfl rfl (V_eql rfl rfl rfl) ?_
   refine G_val rfl rfl rfl rfl (V_assign rfl rfl) ?_
   refine G_done ?_
   refine G_ifD rfl (fun hc2 => ?_) (fun hc2 => ?_)
   · (first | contradiction | (exact absurd rfl hc2) | (exfalso; omega) | (simp at hc2; done) | (exact absurd hc2 (by decide)) | (exact absurd (by decide) hc2))
   refine G_seq ?_
   refine G_region (l := [0, 1]) rfl ?_
   refine G_val rfl rfl rfl rfl (V_eql rfl rfl rfl) ?_
   refine G_val rfl rfl rfl rfl (V_assign rfl rfl) ?_
   refine G_done ?_
   refine G_ifD rfl (fun hc3 => ?_) (fun hc3 => ?_)
   · (first | contradiction | (exact absurd rfl hc3) | (exfalso; omega) | (simp at hc3; done) | (exact absurd hc3 (by decide)) | (exact absurd (by decide) hc3))
   refine G_seq ?_
   refine G_region (l := [0, 1]) rfl ?_
   refine G_val rfl rfl rfl rfl (V_eql rfl rfl rfl) ?_
   refine G_val rfl rfl rfl rfl (V_assign rfl rfl) ?_
   refine G_done ?_
   refine G_ifD rfl (fun hc4 => ?_) (fun hc4 => ?_)
   · (first | contradiction | (exact absurd rfl hc4) | (exfalso; omega) | (simp at hc4; done) | (exact absurd hc4 (by decide)) | (exact absurd (by decide) hc4))
   refine G_seq ?_
   refine G_region (l := [0, 1]) rfl ?_
   refine G_val rfl rfl rfl rfl (V_eql rfl rfl rfl) ?_
   refine G_val rfl rfl rfl rfl (V_assign rfl rfl) ?_
   refine G_done ?_
   refine G_ifD rfl (fun hc5 => ?_) (fun hc5 => ?_)
   · (first | contradiction | (exact absurd rfl hc5) | (exfalso; omega) | (simp at hc5; done) | (exact absurd hc5 (by decide)) | (exact absurd (by decide) hc5))
   refine G_seq ?_
   refine G_region (l := [0, 1]) rfl ?_
   refine G_val rfl rfl rfl rfl (V_eql rfl rfl rfl) ?_
   refine G_val rfl rfl rfl rfl (V_assign rfl rfl) ?_
   refine G_done ?_
   refine G_ifD rfl (fun hc6 => ?_) (fun hc6 => ?_)
   · (first | contradiction | (exact absurd rfl hc6) | (exfalso; omega) | (simp at hc6; done) | (exact absurd hc6 (by decide)) | (exact absurd (by decide) hc6))
   refine G_seq ?_
   refine G_region (l := [0, 1]) rfl ?_
   refine G_val rfl rfl rfl rfl (V_eql rfl rfl rfl) ?_
   refine G_val rfl rfl rfl rfl (V_assign rfl rfl) ?_
   refine G_done ?_
   refine G_ifD rfl (fun hc7 => ?_) (fun hc7 => ?_)
   · (first | contradiction | (exact absurd rfl hc7) | (exfalso; omega) | (simp at hc7; done) | (exact absurd hc7 (by decide)) | (exact absurd (by decide) hc7))
   refine G_skip ?_
   refine G_inBlock ?_
   refine G_seq ?_
   refine G_region (l := [0, 1, 2, 3, 4, 5, 6, 7, 8, 9, 10, 11, 12, 13, 14, 15, 16, 17, 18, 19, 20, 21, 22, 23, 24, 25, 26, 27, 28, 29]) rfl ?_
   refine G_new rfl rfl rfl rfl (N_map rfl) (fun b42 => ?_)
   refine G_val rfl rfl rfl rfl (V_fieldAddr (fo := 7) rfl Tryd.underlying27 rfl infTellR_3 rfl rfl rfl) ?_
   refine G_val rfl rfl rfl rfl (V_load1 rfl rfl (mem_at 2 rfl) rfl Tryd.underlying3 rfl) ?_
   refine G_put (l1 := []) (L' := [_, _]) rfl rfl rfl rfl (P_insert (es := []) rfl Tryd.underlying108 Tryd.underlying21 rfl rfl rfl rfl (mem_at 0 rfl) rfl) rfl ?_
   refine G_val rfl rfl rfl rfl (V_fieldAddr (fo := 8) rfl Tryd.underlying27 rfl infTellR_3 rfl rfl rfl) ?_
   refine G_val rfl rfl rfl rfl (V_load1 rfl rfl (mem_at 2 rfl) rfl Tryd.underlying3 rfl) ?_
   refine G_put (l1 := []) (L' := [_, _]) rfl rfl rfl rfl (P_insert (es := [_]) rfl Tryd.underlying108 Tryd.underlying21 rfl rfl rfl rfl (mem_at 0 rfl) rfl) rfl ?_
   refine G_val rfl rfl rfl rfl (V_fieldAddr (fo := 9) rfl Tryd.underlying27 rfl infTellR_3 rfl rfl rfl) ?_
   refine G_val rfl rfl rfl rfl (V_load1 rfl rfl (mem_at 2 rfl) rfl Tryd.underlying3 rfl) ?_
   refine G_put (l1 := []) (L' := [_, _]) rfl rfl rfl rfl (P_insert (es := [_, _]) rfl Tryd.underlying108 Tryd.underlying21 rfl rfl rfl rfl (mem_at 0 rfl) rfl) rfl ?_
   refine G_val rfl rfl rfl rfl (V_fieldAddr (fo := 10) rfl Tryd.underlying27 rfl infTellR_3 rfl rfl rfl) ?_
   refine G_val rfl rfl rfl rfl (V_load1 rfl rfl (mem_at 2 rfl) rfl Tryd.underlying3 rfl) ?_
   refine G_put (l1 := []) (L' := [_, _]) rfl rfl rfl rfl (P_insert (es := [_, _, _]) rfl Tryd.underlying108 Tryd.underlying21 rfl rfl rfl rfl (mem_at 0 rfl) rfl) rfl ?_
   refine G_val rfl rfl rfl rfl (V_fieldAddr (fo := 11) rfl Tryd.underlying27 rfl infTellR_3 rfl rfl rfl) ?_
   refine G_val rfl rfl rfl rfl (V_load1 rfl rfl (mem_at 2 rfl) rfl Tryd.underlying3 rfl) ?_
   refine G_put (l1 := []) (L' := [_, _]) rfl rfl rfl rfl (P_insert (es := [_, _, _, _]) rfl Tryd.underlying108 Tryd.underlying21 rfl rfl rfl rfl (mem_at 0 rfl) rfl) rfl ?_
   refine G_val rfl rfl rfl rfl (V_fieldAddr (fo := 12) rfl Tryd.underlying27 rfl infTellR_3 rfl rfl rfl) ?_
   refine G_val rfl rfl rfl rfl (V_load1 rfl rfl (mem_at 2 rfl) rfl Tryd.underlying3 rfl) ?_
   refine G_put (l1 := []) (L' := [_, _]) rfl rfl rfl rfl (P_insert (es := [_, _, _, _, _]) rfl Tryd.underlying108 Tryd.underlying21 rfl rfl rfl rfl (mem_at 0 rfl) rfl) rfl ?_
   refine G_val rfl rfl rfl rfl (V_fieldAddr (fo := 13) rfl Tryd.underlying27 rfl infTellR_3 rfl rfl rfl) ?_
   refine G_val rfl rfl rfl rfl (V_load1 rfl rfl (mem_at 2 rfl) rfl Tryd.underlying3 rfl) ?_
   refine G_put (l1 := []) (L' := [_, _]) rfl rfl rfl rfl (P_insert (es := [_, _, _, _, _, _]) rfl Tryd.underlying108 Tryd.underlying21 rfl rfl rfl rfl (mem_at 0 rfl) rfl) rfl ?_
   refine G_val rfl rfl rfl rfl (V_fieldAddr (fo := 14) rfl Tryd.underlying27 rfl infTellR_3 rfl rfl rfl) ?_
   refine G_val rfl rfl rfl rfl (V_load1 rfl rfl (mem_at 2 rfl) rfl Tryd.underlying3 rfl) ?_
   refine G_put (l1 := []) (L' := [_, _]) rfl rfl rfl rfl (P_insert (es := [_, _, _, _, _, _, _]) rfl Tryd.underlying108 Tryd.underlying21 rfl rfl rfl rfl (mem_at 0 rfl) rfl) rfl ?_
   refine G_val rfl rfl rfl rfl (V_fieldAddr (fo := 15) rfl Tryd.underlying27 rfl infTellR_3 rfl rfl rfl) ?_
   refine G_val rfl rfl rfl rfl (V_load1 rfl rfl (mem_at 2 rfl) rfl Tryd.underlying3 rfl) ?_
   refine G_put (l1 := []) (L' := [_, _]) rfl rfl rfl rfl (P_insert (es := [_, _, _, _, _, _, _, _]) rfl Tryd.underlying108 Tryd.underlying21 rfl rfl rfl rfl (mem_at 0 rfl) rfl) rfl ?_
   refine G_val rfl rfl rfl rfl (V_move rfl rfl) ?_
   refine G_val rfl rfl rfl rfl (V_assign rfl rfl) ?_
   refine G_done ?_
   refine G_seq ?_
   refine G_region (l := [0, 1, 2, 3, 4]) rfl ?_
   refine G_val rfl rfl rfl rfl (V_move rfl rfl) ?_
   refine G_val rfl rfl rfl rfl (V_move rfl rfl) ?_
   refine G_val rfl rfl rfl rfl (V_lookup rfl Tryd.underlying108 Tryd.underlying21 rfl rfl rfl (mem_at 1 rfl) rfl) ?_
   refine G_call (L2 := [_, _]) rfl rfl rfl rfl rfl rfl Tryd.call40 (tl_num (q.nx 12) (hq.nx 12).1 (hq.nx 12).2 T0 r0) [] [0] rfl rfl ?_
   rintro v post ⟨rfl, rfl⟩
   show G _ _ _ [_, _] _
   refine G_val rfl rfl rfl rfl (V_assign rfl rfl) ?_
   refine G_done ?_
   refine G_ret (post := []) Tryd.func27 rfl (RVs_cons (RV_tmp rfl) RVs_nil) [] rfl ?_
   dsimp only [packed]
   exact ⟨rfl, rfl⟩
 · skip
   refine G_region (l := [0]) rfl ?_
   refine G_val rfl rfl rfl rfl (V_move rfl rfl) ?_
   refine G_done ?_
   refine G_block ?_
   refine G_seq ?_
   refine G_region (l := [0, 1]) rfl ?_
   refine G_val rfl rfl rfl rfl (V_eql rfl rfl rfl) ?_
   refine G_val rfl rfl rfl rfl (V_assign rfl rfl) ?_
   refine G_done ?_
   refine G_ifD rfl (fun hc1 => ?_) (fun hc1 => ?_)
   · (first | contradiction | (exact absurd rfl hc1) | (exfalso; omega) | (simp at hc1; done) | (exact absurd hc1 (by decide)) | (exact absurd (by decide) hc1))
   refine G_seq ?_
   refine G_region (l := [0, 1]) rfl ?_
   refine G_val rfl rfl rfl rfl (V_eql rfl rfl rfl) ?_
   refine G_val rfl rfl rfl rfl (V_assign rfl rfl) ?_
   refine G_done ?_
   refine G_ifD rfl (fun hc2 => ?_) (fun hc2 => ?_)
   · (first | contradiction | (exact absurd rfl hc2) | (exfalso; omega) | (simp at hc2; done) | (exact absurd hc2 (by decide)) | (exact absurd (by decide) hc2))
   refine G_seq ?_
   refine G_region (l := [0, 1]) rfl ?_
   refine G_val rfl rfl rfl rfl (V_eql rfl rfl rfl) ?_
   refine G_val rfl rfl rfl rfl (V_assign rfl rfl) ?_
   refine G_done ?_
   refine G_ifD rfl (fun hc3 => ?_) (fun hc3 => ?_)
   · (first | contradiction | (exact absurd rfl hc3) | (exfalso; omega) | (simp at hc3; done) | (exact absurd hc3 (by decide)) | (exact absurd (by decide) hc3))
   refine G_seq ?_
   refine G_region (l := [0, 1]) rfl ?_
   refine G_val rfl rfl rfl rfl (V_eql rfl rfl rfl) ?_
   refine G_val rfl rfl rfl rfl (V_assign rfl rfl) ?_
   refine G_done ?_
   refine G_ifD rfl (fun hc4 => ?_) (fun hc4 => ?_)
   · (first | contradiction | (exact absurd rfl hc4) | (exfalso; omega) | (simp at hc4; done) | (exact absurd hc4 (by decide)) | (exact absurd (by decide) hc4))
   refine G_seq ?_
   refine G_region (l := [0, 1]) rfl ?_
   refine G_val rfl rfl rfl rfl (V_eql rfl rfl rfl) ?_
   refine G_val rfl rfl rfl rfl (V_assign rfl rfl) ?_
   refine G_done ?_
   refine G_ifD rfl (fun hc5 => ?_) (fun hc5 => ?_)
   · (first | contradiction | (exact absurd rfl hc5) | (exfalso; omega) | (simp at hc5; done) | (exact absurd hc5 (by decide)) | (exact absurd (by decide) hc5))
   refine G_seq ?_
   refine G_region (l := [0, 1]) rfl ?_
   refine G_val rfl rfl rfl rfl (V_eql rfl rfl rfl) ?_
   refine G_val rfl rfl rfl rfl (V_assign rfl rfl) ?_
   refine G_done ?_
   refine G_ifD rfl (fun hc6 => ?_) (fun hc6 => ?_)
   · (first | contradiction | (exact absurd rfl hc6) | (exfalso; omega) | (simp at hc6; done) | (exact absurd hc6 (by decide)) | (exact absurd (by decide) hc6))
   refine G_seq ?_
   refine G_region (l := [0, 1]) rfl ?_
   refine G_val rfl rfl rfl rfl (V_eql rfl rfl rfl) ?_
   refine G_val rfl rfl rfl rfl (V_assign rfl rfl) ?_
   refine G_done ?_
   refine G_ifD rfl (fun hc7 => ?_) (fun hc7 => ?_)
   · (first | contradiction | (exact absurd rfl hc7) | (exfalso; omega) | (simp at hc7; done) | (exact absurd hc7 (by decide)) | (exact absurd (by decide) hc7))
   refine G_skip ?_
   refine G_inBlock ?_
   refine G_seq ?_
   refine G_region (l := [0, 1, 2, 3, 4, 5, 6, 7, 8, 9, 10, 11, 12, 13, 14, 15, 16, 17, 18, 19, 20, 21, 22, 23, 24, 25, 26, 27, 28, 29]) rfl ?_
   refine G_new rfl rfl rfl rfl (N_map rfl) (fun b42 => ?_)
   refine G_val rfl rfl rfl rfl (V_fieldAddr (fo := 7) rfl Tryd.underlying27 rfl infTellR_3 rfl rfl rfl) ?_
   refine G_val rfl rfl rfl rfl (V_load1 rfl rfl (mem_at 2 rfl) rfl Tryd.underlying3 rfl) ?_
   refine G_put (l1 := []) (L' := [_, _]) rfl rfl rfl rfl (P_insert (es := []) rfl Tryd.underlying108 Tryd.underlying21 rfl rfl rfl rfl (mem_at 0 rfl) rfl) rfl ?_
   refine G_val rfl rfl rfl rfl (V_fieldAddr (fo := 8) rfl Tryd.underlying27 rfl infTellR_3 rfl rfl rfl) ?_
   refine G_val rfl rfl rfl rfl (V_load1 rfl rfl (mem_at 2 rfl) rfl Tryd.underlying3 rfl) ?_
   refine G_put (l1 := []) (L' := [_, _]) rfl rfl rfl rfl (P_insert (es := [_]) rfl Tryd.underlying108 Tryd.underlying21 rfl rfl rfl rfl (mem_at 0 rfl) rfl) rfl ?_
   refine G_val rfl rfl rfl rfl (V_fieldAddr (fo := 9) rfl Tryd.underlying27 rfl infTellR_3 rfl rfl rfl) ?_
   refine G_val rfl rfl rfl rfl (V_load1 rfl rfl (mem_at 2 rfl) rfl Tryd.underlying3 rfl) ?_
   refine G_put (l1 := []) (L' := [_, _]) rfl rfl rfl rfl (P_insert (es := [_, _]) rfl Tryd.underlying108 Tryd.underlying21 rfl rfl rfl rfl (mem_at 0 rfl) rfl) rfl ?_
   refine G_val rfl rfl rfl rfl (V_fieldAddr (fo := 10) rfl Tryd.underlying27 rfl infTellR_3 rfl rfl rfl) ?_
   refine G_val rfl rfl rfl rfl (V_load1 rfl rfl (mem_at 2 rfl) rfl Tryd.underlying3 rfl) ?_
   refine G_put (l1 := []) (L' := [_, _]) rfl rfl rfl rfl (P_insert (es := [_, _, _]) rfl Tryd.underlying108 Tryd.underlying21 rfl rfl rfl rfl (mem_at 0 rfl) rfl) rfl ?_
   refine G_val rfl rfl rfl rfl (V_fieldAddr (fo := 11) rfl Tryd.underlying27 rfl infTellR_3 rfl rfl rfl) ?_
   refine G_val rfl rfl rfl rfl (V_load1 rfl rfl (mem_at 2 rfl) rfl Tryd.underlying3 rfl) ?_
   refine G_put (l1 := []) (L' := [_, _]) rfl rfl rfl rfl (P_insert (es := [_, _, _, _]) rfl Tryd.underlying108 Tryd.underlying21 rfl rfl rfl rfl (mem_at 0 rfl) rfl) rfl ?_
   refine G_val rfl rfl rfl rfl (V_fieldAddr (fo := 12) rfl Tryd.underlying27 rfl infTellR_3 rfl rfl rfl) ?_
   refine G_val rfl rfl rfl rfl (V_load1 rfl rfl (mem_at 2 rfl) rfl Tryd.underlying3 rfl) ?_
   refine G_put (l1 := []) (L' := [_, _]) rfl rfl rfl rfl (P_insert (es := [_, _, _, _, _]) rfl Tryd.underlying108 Tryd.underlying21 rfl rfl rfl rfl (mem_at 0 rfl) rfl) rfl ?_
   refine G_val rfl rfl rfl rfl (V_fieldAddr (fo := 13) rfl Tryd.underlying27 rfl infTellR_3 rfl rfl rfl) ?_
   refine G_val rfl rfl rfl rfl (V_load1 rfl rfl (mem_at 2 rfl) rfl Tryd.underlying3 rfl) ?_
   refine G_put (l1 := []) (L' := [_, _]) rfl rfl rfl rfl (P_insert (es := [_, _, _, _, _, _]) rfl Tryd.underlying108 Tryd.underlying21 rfl rfl rfl rfl (mem_at 0 rfl) rfl) rfl ?_
   refine G_val rfl rfl rfl rfl (V_fieldAddr (fo := 14) rfl Tryd.underlying27 rfl infTellR_3 rfl rfl rfl) ?_
   refine G_val rfl rfl rfl rfl (V_load1 rfl rfl (mem_at 2 rfl) rfl Tryd.underlying3 rfl) ?_
   refine G_put (l1 := []) (L' := [_, _]) rfl rfl rfl rfl (P_insert (es := [_, _, _, _, _, _, _]) rfl Tryd.underlying108 Tryd.underlying21 rfl rfl rfl rfl (mem_at 0 rfl) rfl) rfl ?_
   refine G_val rfl rfl rfl rfl (V_fieldAddr (fo := 15) rfl Tryd.underlying27 rfl infTellR_3 rfl rfl rfl) ?_
   refine G_val rfl rfl rfl rfl (V_load1 rfl rfl (mem_at 2 rfl) rfl Tryd.underlying3 rfl) ?_
   refine G_put (l1 := []) (L' := [_, _]) rfl rfl rfl rfl (P_insert (es := [_, _, _, _, _, _, _, _]) rfl Tryd.underlying108 Tryd.underlying21 rfl rfl rfl rfl (mem_at 0 rfl) rfl) rfl ?_
   refine G_val rfl rfl rfl rfl (V_move rfl rfl) ?_
   refine G_val rfl rfl rfl rfl (V_assign rfl rfl) ?_
   refine G_done ?_
   refine G_seq ?_
   refine G_region (l := [0, 1, 2, 3, 4]) rfl ?_
   refine G_val rfl rfl rfl rfl (V_move rfl rfl) ?_
   refine G_val rfl rfl rfl rfl (V_move rfl rfl) ?_
   refine G_val rfl rfl rfl rfl (V_lookup rfl Tryd.underlying108 Tryd.underlying21 rfl rfl rfl (mem_at 1 rfl) rfl) ?_
   refine G_call (L2 := [_, _]) rfl rfl rfl rfl rfl rfl Tryd.call40 (tl_num (q.nx 13) (hq.nx 13).1 (hq.nx 13).2 T0 r0) [] [0] rfl rfl ?_
   rintro v post ⟨rfl, rfl⟩
   show G _ _ _ [_, _] _
   refine G_val rfl rfl rfl rfl (V_assign rfl rfl) ?_
   refine G_done ?_
   refine G_ret (post := []) Tryd.func27 rfl (RVs_cons (RV_tmp rfl) RVs_nil) [] rfl ?_
   dsimp only [packed]
   exact ⟨rfl, rfl⟩
 · skip
   refine G_region (l := [0]) rfl ?_
   refine G_val rfl rfl rfl rfl (V_move rfl rfl) ?_
   refine G_done ?_
   refine G_block ?_
   refine G_seq ?_
   refine G_region (l := [0, 1]) rfl ?_
   refine G_val rfl rfl rfl rfl (V_eql rfl rfl rfl) ?_
   refine G_val rfl rfl rfl rfl (V_assign rfl rfl) ?_
   refine G_done ?_
   refine G_ifD rfl (fun hc1 => ?_) (fun hc1 => ?_)
   · (first | contradiction | (exact absurd rfl hc1) | (exfalso; omega) | (simp at hc1; done) | (exact absurd hc1 (by decide)) | (exact absurd (by decide) hc1))
   refine G_seq ?_
   refine G_region (l := [0, 1]) rfl ?_
   refine G_val rfl rfl rfl rfl (V_eql rfl rfl rfl) ?_
   refine G_val rfl rfl rfl rfl (V_assign rfl rfl) ?_
   refine G_done ?_
   refine G_ifD rfl (fun hc2 => ?_) (fun hc2 => ?_)
   · (first | contradiction | (exact absurd rfl hc2) | (exfalso; omega) | (simp at hc2; done) | (exact absurd hc2 (by decide)) | (exact absurd (by decide) hc2))
   refine G_seq ?_
   refine G_region (l := [0, 1]) rfl ?_
   refine G_val rfl rfl rfl rfl (V_eql rfl rfl rfl) ?_
   refine G_val rfl rfl rfl rfl (V_assign rfl rfl) ?_
   refine G_done ?_
   refine G_ifD rfl (fun hc3 => ?_) (fun hc3 => ?_)
   · (first | contradiction | (exact absurd rfl hc3) | (exfalso; omega) | (simp at hc3; done) | (exact absurd hc3 (by decide)) | (exact absurd (by decide) hc3))
   refine G_seq ?_
   refine G_region (l := [0, 1]) rfl ?_
   refine G_val rfl rfl rfl rfl (V_eql rfl rfl rfl) ?_
   refine G_val rfl rfl rfl rfl (V_assign rfl rfl) ?_
   refine G_done ?_
   refine G_ifD rfl (fun hc4 => ?_) (fun hc4 => ?_)
   · (first | contradiction | (exact absurd rfl hc4) | (exfalso; omega) | (simp at hc4; done) | (exact absurd hc4 (by decide)) | (exact absurd (by decide) hc4))
   refine G_seq ?_
   refine G_region (l := [0, 1]) rfl ?_
   refine G_val rfl rfl rfl rfl (V_eql rfl rfl rfl) ?_
   refine G_val rfl rfl rfl rfl (V_assign rfl rfl) ?_
   refine G_done ?_
   refine G_ifD rfl (fun hc5 => ?_) (fun hc5 => ?_)
   · (first | contradiction | (exact absurd rfl hc5) | (exfalso; omega) | (simp at hc5; done) | (exact absurd hc5 (by decide)) | (exact absurd (by decide) hc5))
   refine G_seq ?_
   refine G_region (l := [0, 1]) rfl ?_
   refine G_val rfl rfl rfl rfl (V_eql rfl rfl rfl) ?_
   refine G_val rfl rfl rfl rfl (V_assign rfl rfl) ?_
   refine G_done ?_
   refine G_ifD rfl (fun hc6 => ?_) (fun hc6 => ?_)
   · (first | contradiction | (exact absurd rfl hc6) | (exfalso; omega) | (simp at hc6; done) | (exact absurd hc6 (by decide)) | (exact absurd (by decide) hc6))
   refine G_seq ?_
   refine G_region (l := [0, 1]) rfl ?_
   refine G_val rfl rfl rfl rfl (V_eql rfl rfl rfl) ?_
   refine G_val rfl rfl rfl rfl (V_assign rfl rfl) ?_
   refine G_done ?_
   refine G_ifD rfl (fun hc7 => ?_) (fun hc7 => ?_)
   · (first | contradiction | (exact absurd rfl hc7) | (exfalso; omega) | (simp at hc7; done) | (exact absurd hc7 (by decide)) | (exact absurd (by decide) hc7))
   refine G_skip ?_
   refine G_inBlock ?_
   refine G_seq ?_
   refine G_region (l := [0, 1, 2, 3, 4, 5, 6, 7, 8, 9, 10, 11, 12, 13, 14, 15, 16, 17, 18, 19, 20, 21, 22, 23, 24, 25, 26, 27, 28, 29]) rfl ?_
   refine G_new rfl rfl rfl rfl (N_map rfl) (fun b42 => ?_)
   refine G_val rfl rfl rfl rfl (V_fieldAddr (fo := 7) rfl Tryd.underlying27 rfl infTellR_3 rfl rfl rfl) ?_
   refine G_val rfl rfl rfl rfl (V_load1 rfl rfl (mem_at 2 rfl) rfl Tryd.underlying3 rfl) ?_
   refine G_put (l1 := []) (L' := [_, _]) rfl rfl rfl rfl (P_insert (es := []) rfl Tryd.underlying108 Tryd.underlying21 rfl rfl rfl rfl (mem_at 0 rfl) rfl) rfl ?_
   refine G_val rfl rfl rfl rfl (V_fieldAddr (fo := 8) rfl Tryd.underlying27 rfl infTellR_3 rfl rfl rfl) ?_
   refine G_val rfl rfl rfl rfl (V_load1 rfl rfl (mem_at 2 rfl) rfl Tryd.underlying3 rfl) ?_
   refine G_put (l1 := []) (L' := [_, _]) rfl rfl rfl rfl (P_insert (es := [_]) rfl Tryd.underlying108 Tryd.underlying21 rfl rfl rfl rfl (mem_at 0 rfl) rfl) rfl ?_
   refine G_val rfl rfl rfl rfl (V_fieldAddr (fo := 9) rfl Tryd.underlying27 rfl infTellR_3 rfl rfl rfl) ?_
   refine G_val rfl rfl rfl rfl (V_load1 rfl rfl (mem_at 2 rfl) rfl Tryd.underlying3 rfl) ?_
   refine G_put (l1 := []) (L' := [_, _]) rfl rfl rfl rfl (P_insert (es := [_, _]) rfl Tryd.underlying108 Tryd.underlying21 rfl rfl rfl rfl (mem_at 0 rfl) rfl) rfl ?_
   refine G_val rfl rfl rfl rfl (V_fieldAddr (fo := 10) rfl Tryd.underlying27 rfl infTellR_3 rfl rfl rfl) ?_
   refine G_val rfl rfl rfl rfl (V_load1 rfl rfl (mem_at 2 rfl) rfl Tryd.underlying3 rfl) ?_
   refine G_put (l1 := []) (L' := [_, _]) rfl rfl rfl rfl (P_insert (es := [_, _, _]) rfl Tryd.underlying108 Tryd.underlying21 rfl rfl rfl rfl (mem_at 0 rfl) rfl) rfl ?_
   refine G_val rfl rfl rfl rfl (V_fieldAddr (fo := 11) rfl Tryd.underlying27 rfl infTellR_3 rfl rfl rfl) ?_
   refine G_val rfl rfl rfl rfl (V_load1 rfl rfl (mem_at 2 rfl) rfl Tryd.underlying3 rfl) ?_
   refine G_put (l1 := []) (L' := [_, _]) rfl rfl rfl rfl (P_insert (es := [_, _, _, _]) rfl Tryd.underlying108 Tryd.underlying21 rfl rfl rfl rfl (mem_at 0 rfl) rfl) rfl ?_
   refine G_val rfl rfl rfl rfl (V_fieldAddr (fo := 12) rfl Tryd.underlying27 rfl infTellR_3 rfl rfl rfl) ?_
   refine G_val rfl rfl rfl rfl (V_load1 rfl rfl (mem_at 2 rfl) rfl Tryd.underlying3 rfl) ?_
   refine G_put (l1 := []) (L' := [_, _]) rfl rfl rfl rfl (P_insert (es := [_, _, _, _, _]) rfl Tryd.underlying108 Tryd.underlying21 rfl rfl rfl rfl (mem_at 0 rfl) rfl) rfl ?_
   refine G_val rfl rfl rfl rfl (V_fieldAddr (fo := 13) rfl Tryd.underlying27 rfl infTellR_3 rfl rfl rfl) ?_
   refine G_val rfl rfl rfl rfl (V_load1 rfl rfl (mem_at 2 rfl) rfl Tryd.underlying3 rfl) ?_
   refine G_put (l1 := []) (L' := [_, _]) rfl rfl rfl rfl (P_insert (es := [_, _, _, _, _, _]) rfl Tryd.underlying108 Tryd.underlying21 rfl rfl rfl rfl (mem_at 0 rfl) rfl) rfl ?_
   refine G_val rfl rfl rfl rfl (V_fieldAddr (fo := 14) rfl Tryd.underlying27 rfl infTellR_3 rfl rfl rfl) ?_
   refine G_val rfl rfl rfl rfl (V_load1 rfl rfl (mem_at 2 rfl) rfl Tryd.underlying3 rfl) ?_
   refine G_put (l1 := []) (L' := [_, _]) rfl rfl rfl rfl (P_insert (es := [_, _, _, _, _, _, _]) rfl Tryd.underlying108 Tryd.underlying21 rfl rfl rfl rfl (mem_at 0 rfl) rfl) rfl ?_
   refine G_val rfl rfl rfl rfl (V_fieldAddr (fo := 15) rfl Tryd.underlying27 rfl infTellR_3 rfl rfl rfl) ?_
   refine G_val rfl rfl rfl rfl (V_load1 rfl rfl (mem_at 2 rfl) rfl Tryd.underlying3 rfl) ?_
   refine G_put (l1 := []) (L' := [_, _]) rfl rfl rfl rfl (P_insert (es := [_, _, _, _, _, _, _, _]) rfl Tryd.underlying108 Tryd.underlying21 rfl rfl rfl rfl (mem_at 0 rfl) rfl) rfl ?_
   refine G_val rfl rfl rfl rfl (V_move rfl rfl) ?_
   refine G_val rfl rfl rfl rfl (V_assign rfl rfl) ?_
   refine G_done ?_
   refine G_seq ?_
   refine G_region (l := [0, 1, 2, 3, 4]) rfl ?_
   refine G_val rfl rfl rfl rfl (V_move rfl rfl) ?_
   refine G_val rfl rfl rfl rfl (V_move rfl rfl) ?_
   refine G_val rfl rfl rfl rfl (V_lookup rfl Tryd.underlying108 Tryd.underlying21 rfl rfl rfl (mem_at 1 rfl) rfl) ?_
   refine G_call (L2 := [_, _]) rfl rfl rfl rfl rfl rfl Tryd.call40 (tl_num (q.nx 14) (hq.nx 14).1 (hq.nx 14).2 T0 r0) [] [0] rfl rfl ?_
   rintro v post ⟨rfl, rfl⟩
   show G _ _ _ [_, _] _
   refine G_val rfl rfl rfl rfl (V_assign rfl rfl) ?_
   refine G_done ?_
   refine G_ret (post := []) Tryd.func27 rfl (RVs_cons (RV_tmp rfl) RVs_nil) [] rfl ?_
   dsimp only [packed]
   exact ⟨rfl, rfl⟩
 · skip
   refine G_region (l := [0]) rfl ?_
   refine G_val rfl rfl rfl rfl (V_move rfl rfl) ?_
   refine G_done ?_
   refine G_block ?_
   refine G_seq ?_
   refine G_region (l := [0, 1]) rfl ?_
   refine G_val rfl rfl rfl rfl (V_eql rfl rfl rfl) ?_
   refine G_val rfl rfl rfl rfl (V_assign rfl rfl) ?_
   refine G_done ?_
   refine G_ifD rfl (fun hc1 => ?_) (fun hc1 => ?_)
   · (first | contradiction | (exact absurd rfl hc1) | (exfalso; omega) | (simp at hc1; done) | (exact absurd hc1 (by decide)) | (exact absurd (by decide) hc1))
   refine G_seq ?_
   refine G_region (l := [0, 1]) rfl ?_
   refine G_val rfl rfl rfl rfl (V_eql rfl rfl rfl) ?_
   refine G_val rfl rfl rfl rfl (V_assign rfl rfl) ?_
   refine G_done ?_
   refine G_ifD rfl (fun hc2 => ?_) (fun hc2 => ?_)
   · (first | contradiction | (exact absurd rfl hc2) | (exfalso; omega) | (simp at hc2; done) | (exact absurd hc2 (by decide)) | (exact absurd (by decide) hc2))
   refine G_seq ?_
   refine G_region (l := [0, 1]) rfl ?_
   refine G_val rfl rfl rfl rfl (V_eql rfl rfl rfl) ?_
   refine G_val rfl rfl rfl rfl (V_assign rfl rfl) ?_
   refine G_done ?_
   refine G_ifD rfl (fun hc3 => ?_) (fun hc3 => ?_)
   · (first | contradiction | (exact absurd rfl hc3) | (exfalso; omega) | (simp at hc3; done) | (exact absurd hc3 (by decide)) | (exact absurd (by decide) hc3))
   refine G_seq ?_
   refine G_region (l := [0, 1]) rfl ?_
   refine G_val rfl rfl rfl rfl (V_eql rfl rfl rfl) ?_
   refine G_val rfl rfl rfl rfl (V_assign rfl rfl) ?_
   refine G_done ?_
   refine G_ifD rfl (fun hc4 => ?_) (fun hc4 => ?_)
   · (first | contradiction | (exact absurd rfl hc4) | (exfalso; omega) | (simp at hc4; done) | (exact absurd hc4 (by decide)) | (exact absurd (by decide) hc4))
   refine G_seq ?_
   refine G_region (l := [0, 1]) rfl ?_
   refine G_val rfl rfl rfl rfl (V_eql rfl rfl rfl) ?_
   refine G_val rfl rfl rfl rfl (V_assign rfl rfl) ?_
   refine G_done ?_
   refine G_ifD rfl (fun hc5 => ?_) (fun hc5 => ?_)
   · (first | contradiction | (exact absurd rfl hc5) | (exfalso; omega) | (simp at hc5; done) | (exact absurd hc5 (by decide)) | (exact absurd (by decide) hc5))
   refine G_seq ?_
   refine G_region (l := [0, 1]) rfl ?_
   refine G_val rfl rfl rfl rfl (V_eql rfl rfl rfl) ?_
   refine G_val rfl rfl rfl rfl (V_assign rfl rfl) ?_
   refine G_done ?_
   refine G_ifD rfl (fun hc6 => ?_) (fun hc6 => ?_)
   · (first | contradiction | (exact absurd rfl hc6) | (exfalso; omega) | (simp at hc6; done) | (exact absurd hc6 (by decide)) | (exact absurd (by decide) hc6))
   refine G_seq ?_
   refine G_region (l := [0, 1]) rfl ?_
   refine G_val rfl rfl rfl rfl (V_eql rfl rfl rfl) ?_
   refine G_val rfl rfl rfl rfl (V_assign rfl rfl) ?_
   refine G_done ?_
   refine G_ifD rfl (fun hc7 => ?_) (fun hc7 => ?_)
   · (first | contradiction | (exact absurd rfl hc7) | (exfalso; omega) | (simp at hc7; done) | (exact absurd hc7 (by decide)) | (exact absurd (by decide) hc7))
   refine G_skip ?_
   refine G_inBlock ?_
   refine G_seq ?_
   refine G_region (l := [0, 1, 2, 3, 4, 5, 6, 7, 8, 9, 10, 11, 12, 13, 14, 15, 16, 17, 18, 19, 20, 21, 22, 23, 24, 25, 26, 27, 28, 29]) rfl ?_
   refine G_new rfl rfl rfl rfl (N_map rfl) (fun b42 => ?_)
   refine G_val rfl rfl rfl rfl (V_fieldAddr (fo := 7) rfl Tryd.underlying27 rfl infTellR_3 rfl rfl rfl) ?_
   refine G_val rfl rfl rfl rfl (V_load1 rfl rfl (mem_at 2 rfl) rfl Tryd.underlying3 rfl) ?_
   refine G_put (l1 := []) (L' := [_, _]) rfl rfl rfl rfl (P_insert (es := []) rfl Tryd.underlying108 Tryd.underlying21 rfl rfl rfl rfl (mem_at 0 rfl) rfl) rfl ?_
   refine G_val rfl rfl rfl rfl (V_fieldAddr (fo := 8) rfl Tryd.underlying27 rfl infTellR_3 rfl rfl rfl) ?_
   refine G_val rfl rfl rfl rfl (V_load1 rfl rfl (mem_at 2 rfl) rfl Tryd.underlying3 rfl) ?_
   refine G_put (l1 := []) (L' := [_, _]) rfl rfl rfl rfl (P_insert (es := [_]) rfl Tryd.underlying108 Tryd.underlying21 rfl rfl rfl rfl (mem_at 0 rfl) rfl) rfl ?_
   refine G_val rfl rfl rfl rfl (V_fieldAddr (fo := 9) rfl Tryd.underlying27 rfl infTellR_3 rfl rfl rfl) ?_
   refine G_val rfl rfl rfl rfl (V_load1 rfl rfl (mem_at 2 rfl) rfl Tryd.underlying3 rfl) ?_
   refine G_put (l1 := []) (L' := [_, _]) rfl rfl rfl rfl (P_insert (es := [_, _]) rfl Tryd.underlying108 Tryd.underlying21 rfl rfl rfl rfl (mem_at 0 rfl) rfl) rfl ?_
   refine G_val rfl rfl rfl rfl (V_fieldAddr (fo := 10) rfl Tryd.underlying27 rfl infTellR_3 rfl rfl rfl) ?_
   refine G_val rfl rfl rfl rfl (V_load1 rfl rfl (mem_at 2 rfl) rfl Tryd.underlying3 rfl) ?_
   refine G_put (l1 := []) (L' := [_, _]) rfl rfl rfl rfl (P_insert (es := [_, _, _]) rfl Tryd.underlying108 Tryd.underlying21 rfl rfl rfl rfl (mem_at 0 rfl) rfl) rfl ?_
   refine G_val rfl rfl rfl rfl (V_fieldAddr (fo := 11) rfl Tryd.underlying27 rfl infTellR_3 rfl rfl rfl) ?_
   refine G_val rfl rfl rfl rfl (V_load1 rfl rfl (mem_at 2 rfl) rfl Tryd.underlying3 rfl) ?_
   refine G_put (l1 := []) (L' := [_, _]) rfl rfl rfl rfl (P_insert (es := [_, _, _, _]) rfl Tryd.underlying108 Tryd.underlying21 rfl rfl rfl rfl (mem_at 0 rfl) rfl) rfl ?_
   refine G_val rfl rfl rfl rfl (V_fieldAddr (fo := 12) rfl Tryd.underlying27 rfl infTellR_3 rfl rfl rfl) ?_
   refine G_val rfl rfl rfl rfl (V_load1 rfl rfl (mem_at 2 rfl) rfl Tryd.underlying3 rfl) ?_
   refine G_put (l1 := []) (L' := [_, _]) rfl rfl rfl rfl (P_insert (es := [_, _, _, _, _]) rfl Tryd.underlying108 Tryd.underlying21 rfl rfl rfl rfl (mem_at 0 rfl) rfl) rfl ?_
   refine G_val rfl rfl rfl rfl (V_fieldAddr (fo := 13) rfl Tryd.underlying27 rfl infTellR_3 rfl rfl rfl) ?_
   refine G_val rfl rfl rfl rfl (V_load1 rfl rfl (mem_at 2 rfl) rfl Tryd.underlying3 rfl) ?_
   refine G_put (l1 := []) (L' := [_, _]) rfl rfl rfl rfl (P_insert (es := [_, _, _, _, _, _]) rfl Tryd.underlying108 Tryd.underlying21 rfl rfl rfl rfl (mem_at 0 rfl) rfl) rfl ?_
   refine G_val rfl rfl rfl rfl (V_fieldAddr (fo := 14) rfl Tryd.underlying27 rfl infTellR_3 rfl rfl rfl) ?_
   refine G_val rfl rfl rfl rfl (V_load1 rfl rfl (mem_at 2 rfl) rfl Tryd.underlying3 rfl) ?_
   refine G_put (l1 := []) (L' := [_, _]) rfl rfl rfl rfl (P_insert (es := [_, _, _, _, _, _, _]) rfl Tryd.underlying108 Tryd.underlying21 rfl rfl rfl rfl (mem_at 0 rfl) rfl) rfl ?_
   refine G_val rfl rfl rfl rfl (V_fieldAddr (fo := 15) rfl Tryd.underlying27 rfl infTellR_3 rfl rfl rfl) ?_
   refine G_val rfl rfl rfl rfl (V_load1 rfl rfl (mem_at 2 rfl) rfl Tryd.underlying3 rfl) ?_
   refine G_put (l1 := []) (L' := [_, _]) rfl rfl rfl rfl (P_insert (es := [_, _, _, _, _, _, _, _]) rfl Tryd.underlying108 Tryd.underlying21 rfl rfl rfl rfl (mem_at 0 rfl) rfl) rfl ?_
   refine G_val rfl rfl rfl rfl (V_move rfl rfl) ?_
   refine G_val rfl rfl rfl rfl (V_assign rfl rfl) ?_
   refine G_done ?_
   refine G_seq ?_
   refine G_region (l := [0, 1, 2, 3, 4]) rfl ?_
   refine G_val rfl rfl rfl rfl (V_move rfl rfl) ?_
   refine G_val rfl rfl rfl rfl (V_move rfl rfl) ?_
   refine G_val rfl rfl rfl rfl (V_lookup rfl Tryd.underlying108 Tryd.underlying21 rfl rfl rfl (mem_at 1 rfl) rfl) ?_
   refine G_call (L2 := [_, _]) rfl rfl rfl rfl rfl rfl Tryd.call40 (tl_num (q.nx 15) (hq.nx 15).1 (hq.nx 15).2 T0 r0) [] [0] rfl rfl ?_
   rintro v post ⟨rfl, rfl⟩
   show G _ _ _ [_, _] _
   refine G_val rfl rfl rfl rfl (V_assign rfl rfl) ?_
   refine G_done ?_
   refine G_ret (post := []) Tryd.func27 rfl (RVs_cons (RV_tmp rfl) RVs_nil) [] rfl ?_
   dsimp only [packed]
   exact ⟨rfl, rfl⟩

set_option maxRecDepth 100000 in
set_option maxHeartbeats 1000000 in
theorem rtl_field (q : Rq) (hq : RqT q) (c : Int) (hc : KnownL c) :
    Ct Tryd.prog 30 [.agg (rqCells q).toArray, .int .u8 c] [] [] fun v post => v = .string (bs (telF q c)) ∧ post = [] := by
 refine ct_of Tryd.func30 rfl rfl (fun w0 => ?_)
 show G _ _ [(0, _), (1, _)] _ _
 refine G_seq ?_
 refine G_region (l := [0, 1]) rfl ?_
 refine G_new rfl rfl rfl rfl (N_boxA rfl rfl) (fun b2 => ?_)
 refine G_val rfl rfl rfl rfl (V_assign rfl rfl) ?_
 refine G_done ?_
 refine G_seq ?_
 refine G_seq ?_
 rcases hc with rfl | rfl | rfl | rfl | rfl | rfl | rfl | rfl | rfl | rfl | rfl | rfl | rfl | rfl | rfl | rfl
 · skip
   refine G_region (l := [0]) rfl ?_
   refine G_val rfl rfl rfl rfl (V_move rfl rfl) ?_
   refine G_done ?_
   refine G_block ?_
   refine G_seq ?_
   refine G_region (l := [0, 1]) rfl ?_
   refine G_val rfl rfl rfl rfl (V_eql rfl rfl rfl) ?_
   refine G_val rfl rfl rfl rfl (V_assign rfl rfl) ?_
   refine G_done ?_
   refine G_ifD rfl (fun hc1 => ?_) (fun hc1 => ?_)
   rotate_left
   · (first | contradiction | (exact absurd rfl hc1) | (exfalso; omega) | (simp at hc1; done) | (exact absurd hc1 (by decide)) | (exact absurd (by decide) hc1))
   refine G_seq ?_
   refine G_region (l := [0, 1, 2, 3]) rfl ?_
   refine G_val rfl rfl rfl rfl (V_fieldAddr (fo := 1) rfl Tryd.underlying27 rfl infTellR_9 rfl rfl rfl) ?_
   refine G_val rfl rfl rfl rfl (V_load1 rfl rfl (mem_at 0 rfl) rfl Tryd.underlying9 rfl) ?_
   refine G_call (L2 := [_]) rfl rfl rfl rfl rfl rfl Tryd.call10 (rtl_quote (q.tx 1) (by have := hq.tx 1; omega)) [] [] rfl rfl ?_
   rintro v post ⟨rfl, rfl⟩
   show G _ _ _ [_] _
   refine G_val rfl rfl rfl rfl (V_assign rfl rfl) ?_
   refine G_done ?_
   refine G_ret (post := []) Tryd.func30 rfl (RVs_cons (RV_tmp rfl) RVs_nil) [] rfl ?_
   dsimp only [packed]
   first | exact ⟨rfl, rfl⟩ | (refine ⟨str_eq ?_, rfl⟩; show _ = (if q.flag then _ else _); simp [*]; done)
 · skip
   refine G_region (l := [0]) rfl ?_
   refine G_val rfl rfl rfl rfl (V_move rfl rfl) ?_
   refine G_done ?_
   refine G_block ?_
   refine G_seq ?_
   refine G_region (l := [0, 1]) rfl ?_
   refine G_val rfl rfl rfl rfl (V_eql rfl rfl rfl) ?_
   refine G_val rfl rfl rfl rfl (V_assign rfl rfl) ?_
   refine G_done ?_
   refine G_ifD rfl (fun hc1 => ?_) (fun hc1 => ?_)
   · (first | contradiction | (exact absurd rfl hc1) | (exfalso; omega) | (simp at hc1; done) | (exact absurd hc1 (by decide)) | (exact absurd (by decide) hc1))
   refine G_seq ?_
   refine G_region (l := [0, 1]) rfl ?_
   refine G_val rfl rfl rfl rfl (V_eql rfl rfl rfl) ?_
   refine G_val rfl rfl rfl rfl (V_assign rfl rfl) ?_
   refine G_done ?_
   refine G_ifD rfl (fun hc2 => ?_) (fun hc2 => ?_)
   rotate_left
   · (first | contradiction | (exact absurd rfl hc2) | (exfalso; omega) | (simp at hc2; done) | (exact absurd hc2 (by decide)) | (exact absurd (by decide) hc2))
   refine G_seq ?_
   refine G_region (l := [0, 1, 2, 3]) rfl ?_
   refine G_val rfl rfl rfl rfl (V_fieldAddr (fo := 2) rfl Tryd.underlying27 rfl infTellR_9 rfl rfl rfl) ?_
   refine G_val rfl rfl rfl rfl (V_load1 rfl rfl (mem_at 0 rfl) rfl Tryd.underlying9 rfl) ?_
   refine G_call (L2 := [_]) rfl rfl rfl rfl rfl rfl Tryd.call10 (rtl_quote (q.tx 2) (by have := hq.tx 2; omega)) [] [] rfl rfl ?_
   rintro v post ⟨rfl, rfl⟩
   show G _ _ _ [_] _
   refine G_val rfl rfl rfl rfl (V_assign rfl rfl) ?_
   refine G_done ?_
   refine G_ret (post := []) Tryd.func30 rfl (RVs_cons (RV_tmp rfl) RVs_nil) [] rfl ?_
   dsimp only [packed]
   first | exact ⟨rfl, rfl⟩ | (refine ⟨str_eq ?_, rfl⟩; show _ = (if q.flag then _ else _); simp [*]; done)
 · skip
   refine G_region (l := [0]) rfl ?_
   refine G_val rfl rfl rfl rfl (V_move rfl rfl) ?_
   refine G_done ?_
   refine G_block ?_
   refine G_seq ?_
   refine G_region (l := [0, 1]) rfl ?_
   refine G_val rfl rfl rfl rfl (V_eql rfl rfl rfl) ?_
   refine G_val rfl rfl rfl rfl (V_assign rfl rfl) ?_
   refine G_done ?_
   refine G_ifD rfl (fun hc1 => ?_) (fun hc1 => ?_)
   · (first | contradiction | (exact absurd rfl hc1) | (exfalso; omega) | (simp at hc1; done) | (exact absurd hc1 (by decide)) | (exact absurd (by decide) hc1))
   refine G_seq ?_
   refine G_region (l := [0, 1]) rfl ?_
   refine G_val rfl rfl rfl rfl (V_eql rfl rfl rfl) ?_
   refine G_val rfl rfl rfl rfl (V_assign rfl rfl) ?_
   refine G_done ?_
   refine G_ifD rfl (fun hc2 => ?_) (fun hc2 => ?_)
   · (first | contradiction | (exact absurd rfl hc2) | (exfalso; omega) | (simp at hc2; done) | (exact absurd hc2 (by decide)) | (exact absurd (by decide) hc2))
   refine G_seq ?_
   refine G_region (l := [0, 1]) rfl ?_
   refine G_val rfl rfl rfl rfl (V_eql rfl rfl rfl) ?_
   refine G_val rfl rfl rfl rfl (V_assign rfl rfl) ?_
   refine G_done ?_
   refine G_ifD rfl (fun hc3 => ?_) (fun hc3 => ?_)
   rotate_left
   · (first | contradiction | (exact absurd rfl hc3) | (exfalso; omega) | (simp at hc3; done) | (exact absurd hc3 (by decide)) | (exact absurd (by decide) hc3))
   refine G_seq ?_
   refine G_region (l := [0, 1, 2, 3]) rfl ?_
   refine G_val rfl rfl rfl rfl (V_fieldAddr (fo := 3) rfl Tryd.underlying27 rfl infTellR_9 rfl rfl rfl) ?_
   refine G_val rfl rfl rfl rfl (V_load1 rfl rfl (mem_at 0 rfl) rfl Tryd.underlying9 rfl) ?_
   refine G_call (L2 := [_]) rfl rfl rfl rfl rfl rfl Tryd.call10 (rtl_quote (q.tx 3) (by have := hq.tx 3; omega)) [] [] rfl rfl ?_
   rintro v post ⟨rfl, rfl⟩
   show G _ _ _ [_] _
   refine G_val rfl rfl rfl rfl (V_assign rfl rfl) ?_
   refine G_done ?_
   refine G_ret (post := []) Tryd.func30 rfl (RVs_cons (RV_tmp rfl) RVs_nil) [] rfl ?_
   dsimp only [packed]
   first | exact ⟨rfl, rfl⟩ | (refine ⟨str_eq ?_, rfl⟩; show _ = (if q.flag then _ else _); simp [*]; done)
 · skip
   refine G_region (l := [0]) rfl ?_
   refine G_val rfl rfl rfl rfl (V_move rfl rfl) ?_
   refine G_done ?_
   refine G_block ?_
   refine G_seq ?_
   refine G_region (l := [0, 1]) rfl ?_
   refine G_val rfl rfl rfl rfl (V_eql rfl rfl rfl) ?_
   refine G_val rfl rfl rfl rfl (V_assign rfl rfl) ?_
   refine G_done ?_
   refine G_ifD rfl (fun hc1 => ?_) (fun hc1 => ?_)
   · (first | contradiction | (exact absurd rfl hc1) | (exfalso; omega) | (simp at hc1; done) | (exact absurd hc1 (by decide)) | (exact absurd (by decide) hc1))
   refine G_seq ?_
   refine G_region (l := [0, 1]) rfl ?_
   refine G_val rfl rfl rfl rfl (V_eql rfl rfl rfl) ?_
   refine G_val rfl rfl rfl rfl (V_assign rfl rfl) ?_
   refine G_done ?_
   refine G_ifD rfl (fun hc2 => ?_) (fun hc2 => ?_)
   · (first | contradiction | (exact absurd rfl hc2) | (exfalso; omega) | (simp at hc2; done) | (exact absurd hc2 (by decide)) | (exact absurd (by decide) hc2))
   refine G_seq ?_
   refine G_region (l := [0, 1]) rfl ?_
   refine G_val rfl rfl rfl rfl (V_eql rfl rfl rfl) ?_
   refine G_val rfl rfl rfl rfl (V_assign rfl rfl) ?_
   refine G_done ?_
   refine G_ifD rfl (fun hc3 => ?_) (fun hc3 => ?_)
   · (first | contradiction | (exact absurd rfl hc3) | (exfalso; omega) | (simp at hc3; done) | (exact absurd hc3 (by decide)) | (exact absurd (by decide) hc3))
   refine G_seq ?_
   refine G_region (l := [0, 1]) rfl ?_
   refine G_val rfl rfl rfl rfl (V_eql rfl rfl rfl) ?_
   refine G_val rfl rfl rfl rfl (V_assign rfl rfl) ?_
   refine G_done ?_
   refine G_ifD rfl (fun hc4 => ?_) (fun hc4 => ?_)
   rotate_left
   · (first | contradiction | (exact absurd rfl hc4) | (exfalso; omega) | (simp at hc4; done) | (exact absurd hc4 (by decide)) | (exact absurd (by decide) hc4))
   refine G_seq ?_
   refine G_region (l := [0, 1, 2, 3]) rfl ?_
   refine G_val rfl rfl rfl rfl (V_fieldAddr (fo := 4) rfl Tryd.underlying27 rfl infTellR_9 rfl rfl rfl) ?_
   refine G_val rfl rfl rfl rfl (V_load1 rfl rfl (mem_at 0 rfl) rfl Tryd.underlying9 rfl) ?_
   refine G_call (L2 := [_]) rfl rfl rfl rfl rfl rfl Tryd.call10 (rtl_quote (q.tx 4) (by have := hq.tx 4; omega)) [] [] rfl rfl ?_
   rintro v post ⟨rfl, rfl⟩
   show G _ _ _ [_] _
   refine G_val rfl rfl rfl rfl (V_assign rfl rfl) ?_
   refine G_done ?_
   refine G_ret (post := []) Tryd.func30 rfl (RVs_cons (RV_tmp rfl) RVs_nil) [] rfl ?_
   dsimp only [packed]
   first | exact ⟨rfl, rfl⟩ | (refine ⟨str_eq ?_, rfl⟩; show _ = (if q.flag then _ else _); simp [*]; done)
 · skip
   refine G_region (l := [0]) rfl ?_
   refine G_val rfl rfl rfl rfl (V_move rfl rfl) ?_
   refine G_done ?_
   refine G_block ?_
   refine G_seq ?_
   refine G_region (l := [0, 1]) rfl ?_
   refine G_val rfl rfl rfl rfl (V_eql rfl rfl rfl) ?_
   refine G_val rfl rfl rfl rfl (V_assign rfl rfl) ?_
   refine G_done ?_
   refine G_ifD rfl (fun hc1 => ?_) (fun hc1 => ?_)
   · (first | contradiction | (exact absurd rfl hc1) | (exfalso; omega) | (simp at hc1; done) | (exact absurd hc1 (by decide)) | (exact absurd (by decide) hc1))
   refine G_seq ?_
   refine G_region (l := [0, 1]) rfl ?_
   refine G_val rfl rfl rfl rfl (V_eql rfl rfl rfl) ?_
   refine G_val rfl rfl rfl rfl (V_assign rfl rfl) ?_
   refine G_done ?_
   refine G_ifD rfl (fun hc2 => ?_) (fun hc2 => ?_)
   · (first | contradiction | (exact absurd rfl hc2) | (exfalso; omega) | (simp at hc2; done) | (exact absurd hc2 (by decide)) | (exact absurd (by decide) hc2))
   refine G_seq ?_
   refine G_region (l := [0, 1]) rfl ?_
   refine G_val rfl rfl rfl rfl (V_eql rfl rfl rfl) ?_
   refine G_val rfl rfl rfl rfl (V_assign rfl rfl) ?_
   refine G_done ?_
   refine G_ifD rfl (fun hc3 => ?_) (fun hc3 => ?_)
   · (first | contradiction | (exact absurd rfl hc3) | (exfalso; omega) | (simp at hc3; done) | (exact absurd hc3 (by decide)) | (exact absurd (by decide) hc3))
   refine G_seq ?_
   refine G_region (l := [0, 1]) rfl ?_
   refine G_val rfl rfl rfl rfl (V_eql rfl rfl rfl) ?_
   refine G_val rfl rfl rfl rfl (V_assign rfl rfl) ?_
   refine G_done ?_
   refine G_ifD rfl (fun hc4 => ?_) (fun hc4 => ?_)
   · (first | contradiction | (exact absurd rfl hc4) | (exfalso; omega) | (simp at hc4; done) | (exact absurd hc4 (by decide)) | (exact absurd (by decide) hc4))
   refine G_seq ?_
   refine G_region (l := [0, 1]) rfl ?_
   refine G_val rfl rfl rfl rfl (V_eql rfl rfl rfl) ?_
   refine G_val rfl rfl rfl rfl (V_assign rfl rfl) ?_
   refine G_done ?_
   refine G_ifD rfl (fun hc5 => ?_) (fun hc5 => ?_)
   rotate_left
   · (first | contradiction | (exact absurd rfl hc5) | (exfalso; omega) | (simp at hc5; done) | (exact absurd hc5 (by decide)) | (exact absurd (by decide) hc5))
   refine G_seq ?_
   refine G_region (l := [0, 1, 2, 3]) rfl ?_
   refine G_val rfl rfl rfl rfl (V_fieldAddr (fo := 5) rfl Tryd.underlying27 rfl infTellR_9 rfl rfl rfl) ?_
   refine G_val rfl rfl rfl rfl (V_load1 rfl rfl (mem_at 0 rfl) rfl Tryd.underlying9 rfl) ?_
   refine G_call (L2 := [_]) rfl rfl rfl rfl rfl rfl Tryd.call10 (rtl_quote (q.tx 5) (by have := hq.tx 5; omega)) [] [] rfl rfl ?_
   rintro v post ⟨rfl, rfl⟩
   show G _ _ _ [_] _
   refine G_val rfl rfl rfl rfl (V_assign rfl rfl) ?_
   refine G_done ?_
   refine G_ret (post := []) Tryd.func30 rfl (RVs_cons (RV_tmp rfl) RVs_nil) [] rfl ?_
   dsimp only [packed]
   first | exact ⟨rfl, rfl⟩ | (refine ⟨str_eq ?_, rfl⟩; show _ = (if q.flag then _ else _); simp [*]; done)
 · skip
   refine G_region (l := [0]) rfl ?_
   refine G_val rfl rfl rfl rfl (V_move rfl rfl) ?_
   refine G_done ?_
   refine G_block ?_
   refine G_seq ?_
   refine G_region (l := [0, 1]) rfl ?_
   refine G_val rfl rfl rfl rfl (V_eql rfl rfl rfl) ?_
   refine G_val rfl rfl rfl rfl (V_assign rfl rfl) ?_
   refine G_done ?_
   refine G_ifD rfl (fun hc1 => ?_) (fun hc1 => ?_)
   · (first | contradiction | (exact absurd rfl hc1) | (exfalso; omega) | (simp at hc1; done) | (exact absurd hc1 (by decide)) | (exact absurd (by decide) hc1))
   refine G_seq ?_
   refine G_region (l := [0, 1]) rfl ?_
   refine G_val rfl rfl rfl rfl (V_eql rfl rfl rfl) ?_
   refine G_val rfl rfl rfl rfl (V_assign rfl rfl) ?_
   refine G_done ?_
   refine G_ifD rfl (fun hc2 => ?_) (fun hc2 => ?_)
   · (first | contradiction | (exact absurd rfl hc2) | (exfalso; omega) | (simp at hc2; done) | (exact absurd hc2 (by decide)) | (exact absurd (by decide) hc2))
   refine G_seq ?_
   refine G_region (l := [0, 1]) rfl ?_
   refine G_val rfl rfl rfl rfl (V_eql rfl rfl rfl) ?_
   refine G_val rfl rfl rfl rfl (V_assign rfl rfl) ?_
   refine G_done ?_
   refine G_ifD rfl (fun hc3 => ?_) (fun hc3 => ?_)
   · (first | contradiction | (exact absurd rfl hc3) | (exfalso; omega) | (simp at hc3; done) | (exact absurd hc3 (by decide)) | (exact absurd (by decide) hc3))
   refine G_seq ?_
   refine G_region (l := [0, 1]) rfl ?_
   refine G_val rfl rfl rfl rfl (V_eql rfl rfl rfl) ?_
   refine G_val rfl rfl rfl rfl (V_assign rfl rfl) ?_
   refine G_done ?_
   refine G_ifD rfl (fun hc4 => ?_) (fun hc4 => ?_)
   · (first | contradiction | (exact absurd rfl hc4) | (exfalso; omega) | (simp at hc4; done) | (exact absurd hc4 (by decide)) | (exact absurd (by decide) hc4))
   refine G_seq ?_
   refine G_region (l := [0, 1]) rfl ?_
   refine G_val rfl rfl rfl rfl (V_eql rfl rfl rfl) ?_
   refine G_val rfl rfl rfl rfl (V_assign rfl rfl) ?_
   refine G_done ?_
   refine G_ifD rfl (fun hc5 => ?_) (fun hc5 => ?_)
   · (first | contradiction | (exact absurd rfl hc5) | (exfalso; omega) | (simp at hc5; done) | (exact absurd hc5 (by decide)) | (exact absurd (by decide) hc5))
   refine G_seq ?_
   refine G_region (l := [0, 1]) rfl ?_
   refine G_val rfl rfl rfl rfl (V_eql rfl rfl rfl) ?_
   refine G_val rfl rfl rfl rfl (V_assign rfl rfl) ?_
   refine G_done ?_
   refine G_ifD rfl (fun hc6 => ?_) (fun hc6 => ?_)
   rotate_left
   · (first | contradiction | (exact absurd rfl hc6) | (exfalso; omega) | (simp at hc6; done) | (exact absurd hc6 (by decide)) | (exact absurd (by decide) hc6))
   refine G_seq ?_
   refine G_region (l := [0, 1, 2, 3]) rfl ?_
   refine G_val rfl rfl rfl rfl (V_fieldAddr (fo := 6) rfl Tryd.underlying27 rfl infTellR_9 rfl rfl rfl) ?_
   refine G_val rfl rfl rfl rfl (V_load1 rfl rfl (mem_at 0 rfl) rfl Tryd.underlying9 rfl) ?_
   refine G_call (L2 := [_]) rfl rfl rfl rfl rfl rfl Tryd.call10 (rtl_quote (q.tx 6) (by have := hq.tx 6; omega)) [] [] rfl rfl ?_
   rintro v post ⟨rfl, rfl⟩
   show G _ _ _ [_] _
   refine G_val rfl rfl rfl rfl (V_assign rfl rfl) ?_
   refine G_done ?_
   refine G_ret (post := []) Tryd.func30 rfl (RVs_cons (RV_tmp rfl) RVs_nil) [] rfl ?_
   dsimp only [packed]
   first | exact ⟨rfl, rfl⟩ | (refine ⟨str_eq ?_, rfl⟩; show _ = (if q.flag then _ else _); simp [*]; done)
 · skip
   refine G_region (l := [0]) rfl ?_
   refine G_val rfl rfl rfl rfl (V_move rfl rfl) ?_
   refine G_done ?_
   refine G_block ?_
   refine G_seq ?_
   refine G_region (l := [0, 1]) rfl ?_
   refine G_val rfl rfl rfl rfl (V_eql rfl rfl rfl) ?_
   refine G_val rfl rfl rfl rfl (V_assign rfl rfl) ?_
   refine G_done ?_
   refine G_ifD rfl (fun hc1 => ?_) (fun hc1 => ?_)
   · (first | contradiction | (exact absurd rfl hc1) | (exfalso; omega) | (simp at hc1; done) | (exact absurd hc1 (by decide)) | (exact absurd (by decide) hc1))
   refine G_seq ?_
   refine G_region (l := [0, 1]) rfl ?_
   refine G_val rfl rfl rfl rfl (V_eql rfl rfl rfl) ?_
   refine G_val rfl rfl rfl rfl (V_assign rfl rfl) ?_
   refine G_done ?_
   refine G_ifD rfl (fun hc2 => ?_) (fun hc2 => ?_)
   · (first | contradiction | (exact absurd rfl hc2) | (exfalso; omega) | (simp at hc2; done) | (exact absurd hc2 (by decide)) | (exact absurd (by decide) hc2))
   refine G_seq ?_
   refine G_region (l := [0, 1]) rfl ?_
   refine G_val rfl rfl rfl rfl (V_eql rfl rfl rfl) ?_
   refine G_val rfl rfl rfl rfl (V_assign rfl rfl) ?_
   refine G_done ?_
   refine G_ifD rfl (fun hc3 => ?_) (fun hc3 => ?_)
   · (first | contradiction | (exact absurd rfl hc3) | (exfalso; omega) | (simp at hc3; done) | (exact absurd hc3 (by decide)) | (exact absurd (by decide) hc3))
   refine G_seq ?_
   refine G_region (l := [0, 1]) rfl ?_
   refine G_val rfl rfl rfl rfl (V_eql rfl rfl rfl) ?_
   refine G_val rfl rfl rfl rfl (V_assign rfl rfl) ?_
   refine G_done ?_
   refine G_ifD rfl (fun hc4 => ?_) (fun hc4 => ?_)
   · (first | contradiction | (exact absurd rfl hc4) | (exfalso; omega) | (simp at hc4; done) | (exact absurd hc4 (by decide)) | (exact absurd (by decide) hc4))
   refine G_seq ?_
   refine G_region (l := [0, 1]) rfl ?_
   refine G_val rfl rfl rfl rfl (V_eql rfl rfl rfl) ?_
   refine G_val rfl rfl rfl rfl (V_assign rfl rfl) ?_
   refine G_done ?_
   refine G_ifD rfl (fun hc5 => ?_) (fun hc5 => ?_)
   · (first | contradiction | (exact absurd rfl hc5) | (exfalso; omega) | (simp at hc5; done) | (exact absurd hc5 (by decide)) | (exact absurd (by decide) hc5))
   refine G_seq ?_
   refine G_region (l := [0, 1]) rfl ?_
   refine G_val rfl rfl rfl rfl (V_eql rfl rfl rfl) ?_
   refine G_val rfl rfl rfl rfl (V_assign rfl rfl) ?_
   refine G_done ?_
   refine G_ifD rfl (fun hc6 => ?_) (fun hc6 => ?_)
   · (first | contradiction | (exact absurd rfl hc6) | (exfalso; omega) | (simp at hc6; done) | (exact absurd hc6 (by decide)) | (exact absurd (by decide) hc6))
   refine G_seq ?_
   refine G_region (l := [0, 1]) rfl ?_
   refine G_val rfl rfl rfl rfl (V_eql rfl rfl rfl) ?_
   refine G_val rfl rfl rfl rfl (V_assign rfl rfl) ?_
   refine G_done ?_
   refine G_ifD rfl (fun hc7 => ?_) (fun hc7 => ?_)
   · (first | contradiction | (exact absurd rfl hc7) | (exfalso; omega) | (simp at hc7; done) | (exact absurd hc7 (by decide)) | (exact absurd (by decide) hc7))
   refine G_seq ?_
   refine G_region (l := [0, 1]) rfl ?_
   refine G_val rfl rfl rfl rfl (V_eql rfl rfl rfl) ?_
   refine G_val rfl rfl rfl rfl (V_assign rfl rfl) ?_
   refine G_done ?_
   refine G_ifD rfl (fun hc8 => ?_) (fun hc8 => ?_)
   · (first | contradiction | (exact absurd rfl hc8) | (exfalso; omega) | (simp at hc8; done) | (exact absurd hc8 (by decide)) | (exact absurd (by decide) hc8))
   refine G_seq ?_
   refine G_region (l := [0, 1]) rfl ?_
   refine G_val rfl rfl rfl rfl (V_eql rfl rfl rfl) ?_
   refine G_val rfl rfl rfl rfl (V_assign rfl rfl) ?_
   refine G_done ?_
   refine G_ifD rfl (fun hc9 => ?_) (fun hc9 => ?_)
   · (first | contradiction | (exact absurd rfl hc9) | (exfalso; omega) | (simp at hc9; done) | (exact absurd hc9 (by decide)) | (exact absurd (by decide) hc9))
   refine G_seq ?_
   refine G_region (l := [0, 1]) rfl ?_
   refine G_val rfl rfl rfl rfl (V_eql rfl rfl rfl) ?_
   refine G_val rfl rfl rfl rfl (V_assign rfl rfl) ?_
   refine G_done ?_
   refine G_ifD rfl (fun hc10 => ?_) (fun hc10 => ?_)
   · (first | contradiction | (exact absurd rfl hc10) | (exfalso; omega) | (simp at hc10; done) | (exact absurd hc10 (by decide)) | (exact absurd (by decide) hc10))
   refine G_seq ?_
   refine G_region (l := [0, 1]) rfl ?_
   refine G_val rfl rfl rfl rfl (V_eql rfl rfl rfl) ?_
   refine G_val rfl rfl rfl rfl (V_assign rfl rfl) ?_
   refine G_done ?_
   refine G_ifD rfl (fun hc11 => ?_) (fun hc11 => ?_)
   · (first | contradiction | (exact absurd rfl hc11) | (exfalso; omega) | (simp at hc11; done) | (exact absurd hc11 (by decide)) | (exact absurd (by decide) hc11))
   refine G_seq ?_
   refine G_region (l := [0, 1]) rfl ?_
   refine G_val rfl rfl rfl rfl (V_eql rfl rfl rfl) ?_
   refine G_val rfl rfl rfl rfl (V_assign rfl rfl) ?_
   refine G_done ?_
   refine G_ifD rfl (fun hc12 => ?_) (fun hc12 => ?_)
   · (first | contradiction | (exact absurd rfl hc12) | (exfalso; omega) | (simp at hc12; done) | (exact absurd hc12 (by decide)) | (exact absurd (by decide) hc12))
   refine G_seq ?_
   refine G_region (l := [0, 1]) rfl ?_
   refine G_val rfl rfl rfl rfl (V_eql rfl rfl rfl) ?_
   refine G_val rfl rfl rfl rfl (V_assign rfl rfl) ?_
   refine G_done ?_
   refine G_ifD rfl (fun hc13 => ?_) (fun hc13 => ?_)
   · (first | contradiction | (exact absurd rfl hc13) | (exfalso; omega) | (simp at hc13; done) | (exact absurd hc13 (by decide)) | (exact absurd (by decide) hc13))
   refine G_seq ?_
   refine G_region (l := [0, 1]) rfl ?_
   refine G_val rfl rfl rfl rfl (V_eql rfl rfl rfl) ?_
   refine G_val rfl rfl rfl rfl (V_assign rfl rfl) ?_
   refine G_done ?_
   refine G_ifD rfl (fun hc14 => ?_) (fun hc14 => ?_)
   · (first | contradiction | (exact absurd rfl hc14) | (exfalso; omega) | (simp at hc14; done) | (exact absurd hc14 (by decide)) | (exact absurd (by decide) hc14))
   refine G_seq ?_
   refine G_region (l := [0, 1]) rfl ?_
   refine G_val rfl rfl rfl rfl (V_eql rfl rfl rfl) ?_
   refine G_val rfl rfl rfl rfl (V_assign rfl rfl) ?_
   refine G_done ?_
   refine G_ifD rfl (fun hc15 => ?_) (fun hc15 => ?_)
   · (first | contradiction | (exact absurd rfl hc15) | (exfalso; omega) | (simp at hc15; done) | (exact absurd hc15 (by decide)) | (exact absurd (by decide) hc15))
   refine G_skip ?_
   refine G_inBlock ?_
   refine G_seq ?_
   refine G_seq ?_
   refine G_region (l := [0, 1]) rfl ?_
   refine G_val rfl rfl rfl rfl (V_fieldAddr (fo := 16) rfl Tryd.underlying27 rfl infTellR_4 rfl rfl rfl) ?_
   refine G_val rfl rfl rfl rfl (V_load1 rfl rfl (mem_at 0 rfl) rfl Tryd.underlying4 rfl) ?_
   refine G_done ?_
   refine G_if rfl (fun hc16 => ?_) (fun hc16 => ?_)
   · skip
     refine G_seq ?_
     refine G_region (l := [0]) rfl ?_
     refine G_val rfl rfl rfl rfl (V_assign rfl rfl) ?_
     refine G_done ?_
     refine G_ret (post := []) Tryd.func30 rfl (RVs_cons (RV_tmp rfl) RVs_nil) [] rfl ?_
     dsimp only [packed]
     first | exact ⟨rfl, rfl⟩ | (refine ⟨str_eq ?_, rfl⟩; show _ = (if q.flag then _ else _); simp [*]; done)
   refine G_skip ?_
   refine G_seq ?_
   refine G_region (l := [0]) rfl ?_
   refine G_val rfl rfl rfl rfl (V_assign rfl rfl) ?_
   refine G_done ?_
   refine G_ret (post := []) Tryd.func30 rfl (RVs_cons (RV_tmp rfl) RVs_nil) [] rfl ?_
   dsimp only [packed]
   first | exact ⟨rfl, rfl⟩ | (refine ⟨str_eq ?_, rfl⟩; show _ = (if q.flag then _ else _); simp [*]; done)
 · skip
   refine G_region (l := [0]) rfl ?_
   refine G_val rfl rfl rfl rfl (V_move rfl rfl) ?_
   refine G_done ?_
   refine G_block ?_
   refine G_seq ?_
   refine G_region (l := [0, 1]) rfl ?_
   refine G_val rfl rfl rfl rfl (V_eql rfl rfl rfl) ?_
   refine G_val rfl rfl rfl rfl (V_assign rfl rfl) ?_
   refine G_done ?_
   refine G_ifD rfl (fun hc1 => ?_) (fun hc1 => ?_)
   · (first | contradiction | (exact absurd rfl hc1) | (exfalso; omega) | (simp at hc1; done) | (exact absurd hc1 (by decide)) | (exact absurd (by decide) hc1))
   refine G_seq ?_
   refine G_region (l := [0, 1]) rfl ?_
   refine G_val rfl rfl rfl rfl (V_eql rfl rfl rfl) ?_
   refine G_val rfl rfl rfl rfl (V_assign rfl rfl) ?_
   refine G_done ?_
   refine G_ifD rfl (fun hc2 => ?_) (fun hc2 => ?_)
   · (first | contradiction | (exact absurd rfl hc2) | (exfalso; omega) | (simp at hc2; done) | (exact absurd hc2 (by decide)) | (exact absurd (by decide) hc2))
   refine G_seq ?_
   refine G_region (l := [0, 1]) rfl ?_
   refine G_val rfl rfl rfl rfl (V_eql rfl rfl rfl) ?_
   refine G_val rfl rfl rfl rfl (V_assign rfl rfl) ?_
   refine G_done ?_
   refine G_ifD rfl (fun hc3 => ?_) (fun hc3 => ?_)
   · (first | contradiction | (exact absurd rfl hc3) | (exfalso; omega) | (simp at hc3; done) | (exact absurd hc3 (by decide)) | (exact absurd (by decide) hc3))
   refine G_seq ?_
   refine G_region (l := [0, 1]) rfl ?_
   refine G_val rfl rfl rfl rfl (V_eql rfl rfl rfl) ?_
   refine G_val rfl rfl rfl rfl (V_assign rfl rfl) ?_
   refine G_done ?_
   refine G_ifD rfl (fun hc4 => ?_) (fun hc4 => ?_)
   · (first | contradiction | (exact absurd rfl hc4) | (exfalso; omega) | (simp at hc4; done) | (exact absurd hc4 (by decide)) | (exact absurd (by decide) hc4))
   refine G_seq ?_
   refine G_region (l := [0, 1]) rfl ?_
   refine G_val rfl rfl rfl rfl (V_eql rfl rfl rfl) ?_
   refine G_val rfl rfl rfl rfl (V_assign rfl rfl) ?_
   refine G_done ?_
   refine G_ifD rfl (fun hc5 => ?_) (fun hc5 => ?_)
   · (first | contradiction | (exact absurd rfl hc5) | (exfalso; omega) | (simp at hc5; done) | (exact absurd hc5 (by decide)) | (exact absurd (by decide) hc5))
   refine G_seq ?_
   refine G_region (l := [0, 1]) rfl ?_
   refine G_val rfl rfl rfl rfl (V_eql rfl rfl rfl) ?_
   refine G_val rfl rfl rfl rfl (V_assign rfl rfl) ?_
   refine G_done ?_
   refine G_ifD rfl (fun hc6 => ?_) (fun hc6 => ?_)
   · (first | contradiction | (exact absurd rfl hc6) | (exfalso; omega) | (simp at hc6; done) | (exact absurd hc6 (by decide)) | (exact absurd (by decide) hc6))
   refine G_seq ?_
   refine G_region (l := [0, 1]) rfl ?_
   refine G_val rfl rfl rfl rfl (V_eql rfl rfl rfl) ?_
   refine G_val rfl rfl rfl rfl (V_assign rfl rfl) ?_
   refine G_done ?_
   refine G_ifD rfl (fun hc7 => ?_) (fun hc7 => ?_)
   rotate_left
   · (first | contradiction | (exact absurd rfl hc7) | (exfalso; omega) | (simp at hc7; done) | (exact absurd hc7 (by decide)) | (exact absurd (by decide) hc7))
   refine G_seq ?_
   refine G_region (l := [0, 1, 2, 3]) rfl ?_
   refine G_val rfl rfl rfl rfl (V_fieldAddr (fo := 7) rfl Tryd.underlying27 rfl infTellR_3 rfl rfl rfl) ?_
   refine G_val rfl rfl rfl rfl (V_load1 rfl rfl (mem_at 0 rfl) rfl Tryd.underlying3 rfl) ?_
   refine G_call (L2 := [_]) rfl rfl rfl rfl rfl rfl Tryd.call44 (rt_int (q.nx 7) (hq.nx 7).1 (hq.nx 7).2) [] [] rfl rfl ?_
   rintro v post ⟨rfl, rfl⟩
   show G _ _ _ [_] _
   refine G_val rfl rfl rfl rfl (V_assign rfl rfl) ?_
   refine G_done ?_
   refine G_ret (post := []) Tryd.func30 rfl (RVs_cons (RV_tmp rfl) RVs_nil) [] rfl ?_
   dsimp only [packed]
   first | exact ⟨rfl, rfl⟩ | (refine ⟨str_eq ?_, rfl⟩; show _ = (if q.flag then _ else _); simp [*]; done)
 · skip
   refine G_region (l := [0]) rfl ?_
   refine G_val rfl rfl rfl rfl (V_move rfl rfl) ?_
   refine G_done ?_
   refine G_block ?_
   refine G_seq ?_
   refine G_region (l := [0, 1]) rfl ?_
   refine G_val rfl rfl rfl rfl (V_eql rfl rfl rfl) ?_
   refine G_val rfl rfl rfl rfl (V_assign rfl rfl) ?_
   refine G_done ?_
   refine G_ifD rfl (fun hc1 => ?_) (fun hc1 => ?_)
   · (first | contradiction | (exact absurd rfl hc1) | (exfalso; omega) | (simp at hc1; done) | (exact absurd hc1 (by decide)) | (exact absurd (by decide) hc1))
   refine G_seq ?_
   refine G_region (l := [0, 1]) rfl ?_
   refine G_val rfl rfl rfl rfl (V_eql rfl rfl rfl) ?_
   refine G_val rfl rfl rfl rfl (V_assign rfl rfl) ?_
   refine G_done ?_
   refine G_ifD rfl (fun hc2 => ?_) (fun hc2 => ?_)
   · (first | contradiction | (exact absurd rfl hc2) | (exfalso; omega) | (simp at hc2; done) | (exact absurd hc2 (by decide)) | (exact absurd (by decide) hc2))
   refine G_seq ?_
   refine G_region (l := [0, 1]) rfl ?_
   refine G_val rfl rfl rfl rfl (V_eql rfl rfl rfl) ?_
   refine G_val rfl rfl rfl rfl (V_assign rfl rfl) ?_
   refine G_done ?_
   refine G_ifD rfl (fun hc3 => ?_) (fun hc3 => ?_)
   · (first | contradiction | (exact absurd rfl hc3) | (exfalso; omega) | (simp at hc3; done) | (exact absurd hc3 (by decide)) | (exact absurd (by decide) hc3))
   refine G_seq ?_
   refine G_region (l := [0, 1]) rfl ?_
   refine G_val rfl rfl rfl rfl (V_eql rfl rfl rfl) ?_
   refine G_val rfl rfl rfl rfl (V_assign rfl rfl) ?_
   refine G_done ?_
   refine G_ifD rfl (fun hc4 => ?_) (fun hc4 => ?_)
   · (first | contradiction | (exact absurd rfl hc4) | (exfalso; omega) | (simp at hc4; done) | (exact absurd hc4 (by decide)) | (exact absurd (by decide) hc4))
   refine G_seq ?_
   refine G_region (l := [0, 1]) rfl ?_
   refine G_val rfl rfl rfl rfl (V_eql rfl rfl rfl) ?_
   refine G_val rfl rfl rfl rfl (V_assign rfl rfl) ?_
   refine G_done ?_
   refine G_ifD rfl (fun hc5 => ?_) (fun hc5 => ?_)
   · (first | contradiction | (exact absurd rfl hc5) | (exfalso; omega) | (simp at hc5; done) | (exact absurd hc5 (by decide)) | (exact absurd (by decide) hc5))
   refine G_seq ?_
   refine G_region (l := [0, 1]) rfl ?_
   refine G_val rfl rfl rfl rfl (V_eql rfl rfl rfl) ?_
   refine G_val rfl rfl rfl rfl (V_assign rfl rfl) ?_
   refine G_done ?_
   refine G_ifD rfl (fun hc6 => ?_) (fun hc6 => ?_)
   · (first | contradiction | (exact absurd rfl hc6) | (exfalso; omega) | (simp at hc6; done) | (exact absurd hc6 (by decide)) | (exact absurd (by decide) hc6))
   refine G_seq ?_
   refine G_region (l := [0, 1]) rfl ?_
   refine G_val rfl rfl rfl rfl (V_eql rfl rfl rfl) ?_
   refine G_val rfl rfl rfl rfl (V_assign rfl rfl) ?_
   refine G_done ?_
   refine G_ifD rfl (fun hc7 => ?_) (fun hc7 => ?_)
   · (first | contradiction | (exact absurd rfl hc7) | (exfalso; omega) | (simp at hc7; done) | (exact absurd hc7 (by decide)) | (exact absurd (by decide) hc7))
   refine G_seq ?_
   refine G_region (l := [0, 1]) rfl ?_
   refine G_val rfl rfl rfl rfl (V_eql rfl rfl rfl) ?_
   refine G_val rfl rfl rfl rfl (V_assign rfl rfl) ?_
   refine G_done ?_
   refine G_ifD rfl (fun hc8 => ?_) (fun hc8 => ?_)
   rotate_left
   · (first | contradiction | (exact absurd rfl hc8) | (exfalso; omega) | (simp at hc8; done) | (exact absurd hc8 (by decide)) | (exact absurd (by decide) hc8))
   refine G_seq ?_
   refine G_region (l := [0, 1, 2, 3]) rfl ?_
   refine G_val rfl rfl rfl rfl (V_fieldAddr (fo := 8) rfl Tryd.underlying27 rfl infTellR_3 rfl rfl rfl) ?_
   refine G_val rfl rfl rfl rfl (V_load1 rfl rfl (mem_at 0 rfl) rfl Tryd.underlying3 rfl) ?_
   refine G_call (L2 := [_]) rfl rfl rfl rfl rfl rfl Tryd.call44 (rt_int (q.nx 8) (hq.nx 8).1 (hq.nx 8).2) [] [] rfl rfl ?_
   rintro v post ⟨rfl, rfl⟩
   show G _ _ _ [_] _
   refine G_val rfl rfl rfl rfl (V_assign rfl rfl) ?_
   refine G_done ?_
   refine G_ret (post := []) Tryd.func30 rfl (RVs_cons (RV_tmp rfl) RVs_nil) [] rfl ?_
   dsimp only [packed]
   first | exact ⟨rfl, rfl⟩ | (refine ⟨str_eq ?_, rfl⟩; show _ = (if q.flag then _ else _); simp [*]; done)
 · skip
   refine G_region (l := [0]) rfl ?_
   refine G_val rfl rfl rfl rfl (V_move rfl rfl) ?_
   refine G_done ?_
   refine G_block ?_
   refine G_seq ?_
   refine G_region (l := [0, 1]) rfl ?_
   refine G_val rfl rfl rfl rfl (V_eql rfl rfl rfl) ?_
   refine G_val rfl rfl rfl rfl (V_assign rfl rfl) ?_
   refine G_done ?_
   refine G_ifD rfl (fun hc1 => ?_) (fun hc1 => ?_)
   · (first | contradiction | (exact absurd rfl hc1) | (exfalso; omega) | (simp at hc1; done) | (exact absurd hc1 (by decide)) | (exact absurd (by decide) hc1))
   refine G_seq ?_
   refine G_region (l := [0, 1]) rfl ?_
   refine G_val rfl rfl rfl rfl (V_eql rfl rfl rfl) ?_
   refine G_val rfl rfl rfl rfl (V_assign rfl rfl) ?_
   refine G_done ?_
   refine G_ifD rfl (fun hc2 => ?_) (fun hc2 => ?_)
   · (first | contradiction | (exact absurd rfl hc2) | (exfalso; omega) | (simp at hc2; done) | (exact absurd hc2 (by decide)) | (exact absurd (by decide) hc2))
   refine G_seq ?_
   refine G_region (l := [0, 1]) rfl ?_
   refine G_val rfl rfl rfl rfl (V_eql rfl rfl rfl) ?_
   refine G_val rfl rfl rfl rfl (V_assign rfl rfl) ?_
   refine G_done ?_
   refine G_ifD rfl (fun hc3 => ?_) (fun hc3 => ?_)
   · (first | contradiction | (exact absurd rfl hc3) | (exfalso; omega) | (simp at hc3; done) | (exact absurd hc3 (by decide)) | (exact absurd (by decide) hc3))
   refine G_seq ?_
   refine G_region (l := [0, 1]) rfl ?_
   refine G_val rfl rfl rfl rfl (V_eql rfl rfl rfl) ?_
   refine G_val rfl rfl rfl rfl (V_assign rfl rfl) ?_
   refine G_done ?_
   refine G_ifD rfl (fun hc4 => ?_) (fun hc4 => ?_)
   · (first | contradiction | (exact absurd rfl hc4) | (exfalso; omega) | (simp at hc4; done) | (exact absurd hc4 (by decide)) | (exact absurd (by decide) hc4))
   refine G_seq ?_
   refine G_region (l := [0, 1]) rfl ?_
   refine G_val rfl rfl rfl rfl (V_eql rfl rfl rfl) ?_
   refine G_val rfl rfl rfl rfl (V_assign rfl rfl) ?_
   refine G_done ?_
   refine G_ifD rfl (fun hc5 => ?_) (fun hc5 => ?_)
   · (first | contradiction | (exact absurd rfl hc5) | (exfalso; omega) | (simp at hc5; done) | (exact absurd hc5 (by decide)) | (exact absurd (by decide) hc5))
   refine G_seq ?_
   refine G_region (l := [0, 1]) rfl ?_
   refine G_val rfl rfl rfl rfl (V_eql rfl rfl rfl) ?_
   refine G_val rfl rfl rfl rfl (V_assign rfl rfl) ?_
   refine G_done ?_
   refine G_ifD rfl (fun hc6 => ?_) (fun hc6 => ?_)
   · (first | contradiction | (exact absurd rfl hc6) | (exfalso; omega) | (simp at hc6; done) | (exact absurd hc6 (by decide)) | (exact absurd (by decide) hc6))
   refine G_seq ?_
   refine G_region (l := [0, 1]) rfl ?_
   refine G_val rfl rfl rfl rfl (V_eql rfl rfl rfl) ?_
   refine G_val rfl rfl rfl rfl (V_assign rfl rfl) ?_
   refine G_done ?_
   refine G_ifD rfl (fun hc7 => ?_) (fun hc7 => ?_)
   · (first | contradiction | (exact absurd rfl hc7) | (exfalso; omega) | (simp at hc7; done) | (exact absurd hc7 (by decide)) | (exact absurd (by decide) hc7))
   refine G_seq ?_
   refine G_region (l := [0, 1]) rfl ?_
   refine G_val rfl rfl rfl rfl (V_eql rfl rfl rfl) ?_
   refine G_val rfl rfl rfl rfl (V_assign rfl rfl) ?_
   refine G_done ?_
   refine G_ifD rfl (fun hc8 => ?_) (fun hc8 => ?_)
   · (first | contradiction | (exact absurd rfl hc8) | (exfalso; omega) | (simp at hc8; done) | (exact absurd hc8 (by decide)) | (exact absurd (by decide) hc8))
   refine G_seq ?_
   refine G_region (l := [0, 1]) rfl ?_
   refine G_val rfl rfl rfl rfl (V_eql rfl rfl rfl) ?_
   refine G_val rfl rfl rfl rfl (V_assign rfl rfl) ?_
   refine G_done ?_
   refine G_ifD rfl (fun hc9 => ?_) (fun hc9 => ?_)
   rotate_left
   · (first | contradiction | (exact absurd rfl hc9) | (exfalso; omega) | (simp at hc9; done) | (exact absurd hc9 (by decide)) | (exact absurd (by decide) hc9))
   refine G_seq ?_
   refine G_region (l := [0, 1, 2, 3]) rfl ?_
   refine G_val rfl rfl rfl rfl (V_fieldAddr (fo := 9) rfl Tryd.underlying27 rfl infTellR_3 rfl rfl rfl) ?_
   refine G_val rfl rfl rfl rfl (V_load1 rfl rfl (mem_at 0 rfl) rfl Tryd.underlying3 rfl) ?_
   refine G_call (L2 := [_]) rfl rfl rfl rfl rfl rfl Tryd.call44 (rt_int (q.nx 9) (hq.nx 9).1 (hq.nx 9).2) [] [] rfl rfl ?_
   rintro v post ⟨rfl, rfl⟩
   show G _ _ _ [_] _
   refine G_val rfl rfl rfl rfl (V_assign rfl rfl) ?_
   refine G_done ?_
   refine G_ret (post := []) Tryd.func30 rfl (RVs_cons (RV_tmp rfl) RVs_nil) [] rfl ?_
   dsimp only [packed]
   first | exact ⟨rfl, rfl⟩ | (refine ⟨str_eq ?_, rfl⟩; show _ = (if q.flag then _ else _); simp [*]; done)
 · skip
   refine G_region (l := [0]) rfl ?_
   refine G_val rfl rfl rfl rfl (V_move rfl rfl) ?_
   refine G_done ?_
   refine G_block ?_
   refine G_seq ?_
   refine G_region (l := [0, 1]) rfl ?_
   refine G_val rfl rfl rfl rfl (V_eql rfl rfl rfl) ?_
   refine G_val rfl rfl rfl rfl (V_assign rfl rfl) ?_
   refine G_done ?_
   refine G_ifD rfl (fun hc1 => ?_) (fun hc1 => ?_)
   · (first | contradiction | (exact absurd rfl hc1) | (exfalso; omega) | (simp at hc1; done) | (exact absurd hc1 (by decide)) | (exact absurd (by decide) hc1))
   refine G_seq ?_
   refine G_region (l := [0, 1]) rfl ?_
   refine G_val rfl rfl rfl rfl (V_eql rfl rfl rfl) ?_
   refine G_val rfl rfl rfl rfl (V_assign rfl rfl) ?_
   refine G_done ?_
   refine G_ifD rfl (fun hc2 => ?_) (fun hc2 => ?_)
   · (first | contradiction | (exact absurd rfl hc2) | (exfalso; omega) | (simp at hc2; done) | (exact absurd hc2 (by decide)) | (exact absurd (by decide) hc2))
   refine G_seq ?_
   refine G_region (l := [0, 1]) rfl ?_
   refine G_val rfl rfl rfl rfl (V_eql rfl rfl rfl) ?_
   refine G_val rfl rfl rfl rfl (V_assign rfl rfl) ?_
   refine G_done ?_
   refine G_ifD rfl (fun hc3 => ?_) (fun hc3 => ?_)
   · (first | contradiction | (exact absurd rfl hc3) | (exfalso; omega) | (simp at hc3; done) | (exact absurd hc3 (by decide)) | (exact absurd (by decide) hc3))
   refine G_seq ?_
   refine G_region (l := [0, 1]) rfl ?_
   refine G_val rfl rfl rfl rfl (V_eql rfl rfl rfl) ?_
   refine G_val rfl rfl rfl rfl (V_assign rfl rfl) ?_
   refine G_done ?_
   refine G_ifD rfl (fun hc4 => ?_) (fun hc4 => ?_)
   · (first | contradiction | (exact absurd rfl hc4) | (exfalso; omega) | (simp at hc4; done) | (exact absurd hc4 (by decide)) | (exact absurd (by decide) hc4))
   refine G_seq ?_
   refine G_region (l := [0, 1]) rfl ?_
   refine G_val rfl rfl rfl rfl (V_eql rfl rfl rfl) ?_
   refine G_val rfl rfl rfl rfl (V_assign rfl rfl) ?_
   refine G_done ?_
   refine G_ifD rfl (fun hc5 => ?_) (fun hc5 => ?_)
   · (first | contradiction | (exact absurd rfl hc5) | (exfalso; omega) | (simp at hc5; done) | (exact absurd hc5 (by decide)) | (exact absurd (by decide) hc5))
   refine G_seq ?_
   refine G_region (l := [0, 1]) rfl ?_
   refine G_val rfl rfl rfl rfl (V_eql rfl rfl rfl) ?_
   refine G_val rfl rfl rfl rfl (V_assign rfl rfl) ?_
   refine G_done ?_
   refine G_ifD rfl (fun hc6 => ?_) (fun hc6 => ?_)
   · (first | contradiction | (exact absurd rfl hc6) | (exfalso; omega) | (simp at hc6; done) | (exact absurd hc6 (by decide)) | (exact absurd (by decide) hc6))
   refine G_seq ?_
   refine G_region (l := [0, 1]) rfl ?_
   refine G_val rfl rfl rfl rfl (V_eql rfl rfl rfl) ?_
   refine G_val rfl rfl rfl rfl (V_assign rfl rfl) ?_
   refine G_done ?_
   refine G_ifD rfl (fun hc7 => ?_) (fun hc7 => ?_)
   · (first | contradiction | (exact absurd rfl hc7) | (exfalso; omega) | (simp at hc7; done) | (exact absurd hc7 (by decide)) | (exact absurd (by decide) hc7))
   refine G_seq ?_
   refine G_region (l := [0, 1]) rfl ?_
   refine G_val rfl rfl rfl rfl (V_eql rfl rfl rfl) ?_
   refine G_val rfl rfl rfl rfl (V_assign rfl rfl) ?_
   refine G_done ?_
   refine G_ifD rfl (fun hc8 => ?_) (fun hc8 => ?_)
   · (first | contradiction | (exact absurd rfl hc8) | (exfalso; omega) | (simp at hc8; done) | (exact absurd hc8 (by decide)) | (exact absurd (by decide) hc8))
   refine G_seq ?_
   refine G_region (l := [0, 1]) rfl ?_
   refine G_val rfl rfl rfl rfl (V_eql rfl rfl rfl) ?_
   refine G_val rfl rfl rfl rfl (V_assign rfl rfl) ?_
   refine G_done ?_
   refine G_ifD rfl (fun hc9 => ?_) (fun hc9 => ?_)
   · (first | contradiction | (exact absurd rfl hc9) | (exfalso; omega) | (simp at hc9; done) | (exact absurd hc9 (by decide)) | (exact absurd (by decide) hc9))
   refine G_seq ?_
   refine G_region (l := [0, 1]) rfl ?_
   refine G_val rfl rfl rfl rfl (V_eql rfl rfl rfl) ?_
   refine G_val rfl rfl rfl rfl (V_assign rfl rfl) ?_
   refine G_done ?_
   refine G_ifD rfl (fun hc10 => ?_) (fun hc10 => ?_)
   rotate_left
   · (first | contradiction | (exact absurd rfl hc10) | (exfalso; omega) | (simp at hc10; done) | (exact absurd hc10 (by decide)) | (exact absurd (by decide) hc10))
   refine G_seq ?_
   refine G_region (l := [0, 1, 2, 3]) rfl ?_
   refine G_val rfl rfl rfl rfl (V_fieldAddr (fo := 10) rfl Tryd.underlying27 rfl infTellR_3 rfl rfl rfl) ?_
   refine G_val rfl rfl rfl rfl (V_load1 rfl rfl (mem_at 0 rfl) rfl Tryd.underlying3 rfl) ?_
   refine G_call (L2 := [_]) rfl rfl rfl rfl rfl rfl Tryd.call44 (rt_int (q.nx 10) (hq.nx 10).1 (hq.nx 10).2) [] [] rfl rfl ?_
   rintro v post ⟨rfl, rfl⟩
   show G _ _ _ [_] _
   refine G_val rfl rfl rfl rfl (V_assign rfl rfl) ?_
   refine G_done ?_
   refine G_ret (post := []) Tryd.func30 rfl (RVs_cons (RV_tmp rfl) RVs_nil) [] rfl ?_
   dsimp only [packed]
   first | exact ⟨rfl, rfl⟩ | (refine ⟨str_eq ?_, rfl⟩; show _ = (if q.flag then _ else _); simp [*]; done)
 · skip
   refine G_region (l := [0]) rfl ?_
   refine G_val rfl rfl rfl rfl (V_move rfl rfl) ?_
   refine G_done ?_
   refine G_block ?_
   refine G_seq ?_
   refine G_region (l := [0, 1]) rfl ?_
   refine G_val rfl rfl rfl rfl (V_eql rfl rfl rfl) ?_
   refine G_val rfl rfl rfl rfl (V_assign rfl rfl) ?_
   refine G_done ?_
   refine G_ifD rfl (fun hc1 => ?_) (fun hc1 => ?_)
   · (first | contradiction | (exact absurd rfl hc1) | (exfalso; omega) | (simp at hc1; done) | (exact absurd hc1 (by decide)) | (exact absurd (by decide) hc1))
   refine G_seq ?_
   refine G_region (l := [0, 1]) rfl ?_
   refine G_val rfl rfl rfl rfl (V_eql rfl rfl rfl) ?_
   refine G_val rfl rfl rfl rfl (V_assign rfl rfl) ?_
   refine G_done ?_
   refine G_ifD rfl (fun hc2 => ?_) (fun hc2 => ?_)
   · (first | contradiction | (exact absurd rfl hc2) | (exfalso; omega) | (simp at hc2; done) | (exact absurd hc2 (by decide)) | (exact absurd (by decide) hc2))
   refine G_seq ?_
   refine G_region (l := [0, 1]) rfl ?_
   refine G_val rfl rfl rfl rfl (V_eql rfl rfl rfl) ?_
   refine G_val rfl rfl rfl rfl (V_assign rfl rfl) ?_
   refine G_done ?_
   refine G_ifD rfl (fun hc3 => ?_) (fun hc3 => ?_)
   · (first | contradiction | (exact absurd rfl hc3) | (exfalso; omega) | (simp at hc3; done) | (exact absurd hc3 (by decide)) | (exact absurd (by decide) hc3))
   refine G_seq ?_
   refine G_region (l := [0, 1]) rfl ?_
   refine G_val rfl rfl rfl rfl (V_eql rfl rfl rfl) ?_
   refine G_val rfl rfl rfl rfl (V_assign rfl rfl) ?_
   refine G_done ?_
   refine G_ifD rfl (fun hc4 => ?_) (fun hc4 => ?_)
   · (first | contradiction | (exact absurd rfl hc4) | (exfalso; omega) | (simp at hc4; done) | (exact absurd hc4 (by decide)) | (exact absurd (by decide) hc4))
   refine G_seq ?_
   refine G_region (l := [0, 1]) rfl ?_
   refine G_val rfl rfl rfl rfl (V_eql rfl rfl rfl) ?_
   refine G_val rfl rfl rfl rfl (V_assign rfl rfl) ?_
   refine G_done ?_
   refine G_ifD rfl (fun hc5 => ?_) (fun hc5 => ?_)
   · (first | contradiction | (exact absurd rfl hc5) | (exfalso; omega) | (simp at hc5; done) | (exact absurd hc5 (by decide)) | (exact absurd (by decide) hc5))
   refine G_seq ?_
   refine G_region (l := [0, 1]) rfl ?_
   refine G_val rfl rfl rfl rfl (V_eql rfl rfl rfl) ?_
   refine G_val rfl rfl rfl rfl (V_assign rfl rfl) ?_
   refine G_done ?_
   refine G_ifD rfl (fun hc6 => ?_) (fun hc6 => ?_)
   · (first | contradiction | (exact absurd rfl hc6) | (exfalso; omega) | (simp at hc6; done) | (exact absurd hc6 (by decide)) | (exact absurd (by decide) hc6))
   refine G_seq ?_
   refine G_region (l := [0, 1]) rfl ?_
   refine G_val rfl rfl rfl rfl (V_eql rfl rfl rfl) ?_
   refine G_val rfl rfl rfl rfl (V_assign rfl rfl) ?_
   refine G_done ?_
   refine G_ifD rfl (fun hc7 => ?_) (fun hc7 => ?_)
   · (first | contradiction | (exact absurd rfl hc7) | (exfalso; omega) | (simp at hc7; done) | (exact absurd hc7 (by decide)) | (exact absurd (by decide) hc7))
   refine G_seq ?_
   refine G_region (l := [0, 1]) rfl ?_
   refine G_val rfl rfl rfl rfl (V_eql rfl rfl rfl) ?_
   refine G_val rfl rfl rfl rfl (V_assign rfl rfl) ?_
   refine G_done ?_
   refine G_ifD rfl (fun hc8 => ?_) (fun hc8 => ?_)
   · (first | contradiction | (exact absurd rfl hc8) | (exfalso; omega) | (simp at hc8; done) | (exact absurd hc8 (by decide)) | (exact absurd (by decide) hc8))
   refine G_seq ?_
   refine G_region (l := [0, 1]) rfl ?_
   refine G_val rfl rfl rfl rfl (V_eql rfl rfl rfl) ?_
   refine G_val rfl rfl rfl rfl (V_assign rfl rfl) ?_
   refine G_done ?_
   refine G_ifD rfl (fun hc9 => ?_) (fun hc9 => ?_)
   · (first | contradiction | (exact absurd rfl hc9) | (exfalso; omega) | (simp at hc9; done) | (exact absurd hc9 (by decide)) | (exact absurd (by decide) hc9))
   refine G_seq ?_
   refine G_region (l := [0, 1]) rfl ?_
   refine G_val rfl rfl rfl rfl (V_eql rfl rfl rfl) ?_
   refine G_val rfl rfl rfl rfl (V_assign rfl rfl) ?_
   refine G_done ?_
   refine G_ifD rfl (fun hc10 => ?_) (fun hc10 => ?_)
   · (first | contradiction | (exact absurd rfl hc10) | (exfalso; omega) | (simp at hc10; done) | (exact absurd hc10 (by decide)) | (exact absurd (by decide) hc10))
   refine G_seq ?_
   refine G_region (l := [0, 1]) rfl ?_
   refine G_val rfl rfl rfl rfl (V_eql rfl rfl rfl) ?_
   refine G_val rfl rfl rfl rfl (V_assign rfl rfl) ?_
   refine G_done ?_
   refine G_ifD rfl (fun hc11 => ?_) (fun hc11 => ?_)
   rotate_left
   · (first | contradiction | (exact absurd rfl hc11) | (exfalso; omega) | (simp at hc11; done) | (exact absurd hc11 (by decide)) | (exact absurd (by decide) hc11))
   refine G_seq ?_
   refine G_region (l := [0, 1, 2, 3]) rfl ?_
   refine G_val rfl rfl rfl rfl (V_fieldAddr (fo := 11) rfl Tryd.underlying27 rfl infTellR_3 rfl rfl rfl) ?_
   refine G_val rfl rfl rfl rfl (V_load1 rfl rfl (mem_at 0 rfl) rfl Tryd.underlying3 rfl) ?_
   refine G_call (L2 := [_]) rfl rfl rfl rfl rfl rfl Tryd.call44 (rt_int (q.nx 11) (hq.nx 11).1 (hq.nx 11).2) [] [] rfl rfl ?_
   rintro v post ⟨rfl, rfl⟩
   show G _ _ _ [_] _
   refine G_val rfl rfl rfl rfl (V_assign rfl rfl) ?_
   refine G_done ?_
   refine G_ret (post := []) Tryd.func30 rfl (RVs_cons (RV_tmp rfl) RVs_nil) [] rfl ?_
   dsimp only [packed]
   first | exact ⟨rfl, rfl⟩ | (refine ⟨str_eq ?_, rfl⟩; show _ = (if q.flag then _ else _); simp [*]; done)
 · skip
   refine G_region (l := [0]) rfl ?_
   refine G_val rfl rfl rfl rfl (V_move rfl rfl) ?_
   refine G_done ?_
   refine G_block ?_
   refine G_seq ?_
   refine G_region (l := [0, 1]) rfl ?_
   refine G_val rfl rfl rfl rfl (V_eql rfl rfl rfl) ?_
   refine G_val rfl rfl rfl rfl (V_assign rfl rfl) ?_
   refine G_done ?_
   refine G_ifD rfl (fun hc1 => ?_) (fun hc1 => ?_)
   · (first | contradiction | (exact absurd rfl hc1) | (exfalso; omega) | (simp at hc1; done) | (exact absurd hc1 (by decide)) | (exact absurd (by decide) hc1))
   refine G_seq ?_
   refine G_region (l := [0, 1]) rfl ?_
   refine G_val rfl rfl rfl rfl (V_eql rfl rfl rfl) ?_
   refine G_val rfl rfl rfl rfl (V_assign rfl rfl) ?_
   refine G_done ?_
   refine G_ifD rfl (fun hc2 => ?_) (fun hc2 => ?_)
   · (first | contradiction | (exact absurd rfl hc2) | (exfalso; omega) | (simp at hc2; done) | (exact absurd hc2 (by decide)) | (exact absurd (by decide) hc2))
   refine G_seq ?_
   refine G_region (l := [0, 1]) rfl ?_
   refine G_val rfl rfl rfl rfl (V_eql rfl rfl rfl) ?_
   refine G_val rfl rfl rfl rfl (V_assign rfl rfl) ?_
   refine G_done ?_
   refine G_ifD rfl (fun hc3 => ?_) (fun hc3 => ?_)
   · (first | contradiction | (exact absurd rfl hc3) | (exfalso; omega) | (simp at hc3; done) | (exact absurd hc3 (by decide)) | (exact absurd (by decide) hc3))
   refine G_seq ?_
   refine G_region (l := [0, 1]) rfl ?_
   refine G_val rfl rfl rfl rfl (V_eql rfl rfl rfl) ?_
   refine G_val rfl rfl rfl rfl (V_assign rfl rfl) ?_
   refine G_done ?_
   refine G_ifD rfl (fun hc4 => ?_) (fun hc4 => ?_)
   · (first | contradiction | (exact absurd rfl hc4) | (exfalso; omega) | (simp at hc4; done) | (exact absurd hc4 (by decide)) | (exact absurd (by decide) hc4))
   refine G_seq ?_
   refine G_region (l := [0, 1]) rfl ?_
   refine G_val rfl rfl rfl rfl (V_eql rfl rfl rfl) ?_
   refine G_val rfl rfl rfl rfl (V_assign rfl rfl) ?_
   refine G_done ?_
   refine G_ifD rfl (fun hc5 => ?_) (fun hc5 => ?_)
   · (first | contradiction | (exact absurd rfl hc5) | (exfalso; omega) | (simp at hc5; done) | (exact absurd hc5 (by decide)) | (exact absurd (by decide) hc5))
   refine G_seq ?_
   refine G_region (l := [0, 1]) rfl ?_
   refine G_val rfl rfl rfl rfl (V_eql rfl rfl rfl) ?_
   refine G_val rfl rfl rfl rfl (V_assign rfl rfl) ?_
   refine G_done ?_
   refine G_ifD rfl (fun hc6 => ?_) (fun hc6 => ?_)
   · (first | contradiction | (exact absurd rfl hc6) | (exfalso; omega) | (simp at hc6; done) | (exact absurd hc6 (by decide)) | (exact absurd (by decide) hc6))
   refine G_seq ?_
   refine G_region (l := [0, 1]) rfl ?_
   refine G_val rfl rfl rfl rfl (V_eql rfl rfl rfl) ?_
   refine G_val rfl rfl rfl rfl (V_assign rfl rfl) ?_
   refine G_done ?_
   refine G_ifD rfl (fun hc7 => ?_) (fun hc7 => ?_)
   · (first | contradiction | (exact absurd rfl hc7) | (exfalso; omega) | (simp at hc7; done) | (exact absurd hc7 (by decide)) | (exact absurd (by decide) hc7))
   refine G_seq ?_
   refine G_region (l := [0, 1]) rfl ?_
   refine G_val rfl rfl rfl rfl (V_eql rfl rfl rfl) ?_
   refine G_val rfl rfl rfl rfl (V_assign rfl rfl) ?_
   refine G_done ?_
   refine G_ifD rfl (fun hc8 => ?_) (fun hc8 => ?_)
   · (first | contradiction | (exact absurd rfl hc8) | (exfalso; omega) | (simp at hc8; done) | (exact absurd hc8 (by decide)) | (exact absurd (by decide) hc8))
   refine G_seq ?_
   refine G_region (l := [0, 1]) rfl ?_
   refine G_val rfl rfl rfl rfl (V_eql rfl rfl rfl) ?_
   refine G_val rfl rfl rfl rfl (V_assign rfl rfl) ?_
   refine G_done ?_
   refine G_ifD rfl (fun hc9 => ?_) (fun hc9 => ?_)
   · (first | contradiction | (exact absurd rfl hc9) | (exfalso; omega) | (simp at hc9; done) | (exact absurd hc9 (by decide)) | (exact absurd (by decide) hc9))
   refine G_seq ?_
   refine G_region (l := [0, 1]) rfl ?_
   refine G_val rfl rfl rfl rfl (V_eql rfl rfl rfl) ?_
   refine G_val rfl rfl rfl rfl (V_assign rfl rfl) ?_
   refine G_done ?_
   refine G_ifD rfl (fun hc10 => ?_) (fun hc10 => ?_)
   · (first | contradiction | (exact absurd rfl hc10) | (exfalso; omega) | (simp at hc10; done) | (exact absurd hc10 (by decide)) | (exact absurd (by decide) hc10))
   refine G_seq ?_
   refine G_region (l := [0, 1]) rfl ?_
   refine G_val rfl rfl rfl rfl (V_eql rfl rfl rfl) ?_
   refine G_val rfl rfl rfl rfl (V_assign rfl rfl) ?_
   refine G_done ?_
   refine G_ifD rfl (fun hc11 => ?_) (fun hc11 => ?_)
   · (first | contradiction | (exact absurd rfl hc11) | (exfalso; omega) | (simp at hc11; done) | (exact absurd hc11 (by decide)) | (exact absurd (by decide) hc11))
   refine G_seq ?_
   refine G_region (l := [0, 1]) rfl ?_
   refine G_val rfl rfl rfl rfl (V_eql rfl rfl rfl) ?_
   refine G_val rfl rfl rfl rfl (V_assign rfl rfl) ?_
   refine G_done ?_
   refine G_ifD rfl (fun hc12 => ?_) (fun hc12 => ?_)
   rotate_left
   · (first | contradiction | (exact absurd rfl hc12) | (exfalso; omega) | (simp at hc12; done) | (exact absurd hc12 (by decide)) | (exact absurd (by decide) hc12))
   refine G_seq ?_
   refine G_region (l := [0, 1, 2, 3]) rfl ?_
   refine G_val rfl rfl rfl rfl (V_fieldAddr (fo := 12) rfl Tryd.underlying27 rfl infTellR_3 rfl rfl rfl) ?_
   refine G_val rfl rfl rfl rfl (V_load1 rfl rfl (mem_at 0 rfl) rfl Tryd.underlying3 rfl) ?_
   refine G_call (L2 := [_]) rfl rfl rfl rfl rfl rfl Tryd.call44 (rt_int (q.nx 12) (hq.nx 12).1 (hq.nx 12).2) [] [] rfl rfl ?_
   rintro v post ⟨rfl, rfl⟩
   show G _ _ _ [_] _
   refine G_val rfl rfl rfl rfl (V_assign rfl rfl) ?_
   refine G_done ?_
   refine G_ret (post := []) Tryd.func30 rfl (RVs_cons (RV_tmp rfl) RVs_nil) [] rfl ?_
   dsimp only [packed]
   first | exact ⟨rfl, rfl⟩ | (refine ⟨str_eq ?_, rfl⟩; show _ = (if q.flag then _ else _); simp [*]; done)
 · skip
   refine G_region (l := [0]) rfl ?_
   refine G_val rfl rfl rfl rfl (V_move rfl rfl) ?_
   refine G_done ?_
   refine G_block ?_
   refine G_seq ?_
   refine G_region (l := [0, 1]) rfl ?_
   refine G_val rfl rfl rfl rfl (V_eql rfl rfl rfl) ?_
   refine G_val rfl rfl rfl rfl (V_assign rfl rfl) ?_
   refine G_done ?_
   refine G_ifD rfl (fun hc1 => ?_) (fun hc1 => ?_)
   · (first | contradiction | (exact absurd rfl hc1) | (exfalso; omega) | (simp at hc1; done) | (exact absurd hc1 (by decide)) | (exact absurd (by decide) hc1))
   refine G_seq ?_
   refine G_region (l := [0, 1]) rfl ?_
   refine G_val rfl rfl rfl rfl (V_eql rfl rfl rfl) ?_
   refine G_val rfl rfl rfl rfl (V_assign rfl rfl) ?_
   refine G_done ?_
   refine G_ifD rfl (fun hc2 => ?_) (fun hc2 => ?_)
   · (first | contradiction | (exact absurd rfl hc2) | (exfalso; omega) | (simp at hc2; done) | (exact absurd hc2 (by decide)) | (exact absurd (by decide) hc2))
   refine G_seq ?_
   refine G_region (l := [0, 1]) rfl ?_
   refine G_val rfl rfl rfl rfl (V_eql rfl rfl rfl) ?_
   refine G_val rfl rfl rfl rfl (V_assign rfl rfl) ?_
   refine G_done ?_
   refine G_ifD rfl (fun hc3 => ?_) (fun hc3 => ?_)
   · (first | contradiction | (exact absurd rfl hc3) | (exfalso; omega) | (simp at hc3; done) | (exact absurd hc3 (by decide)) | (exact absurd (by decide) hc3))
   refine G_seq ?_
   refine G_region (l := [0, 1]) rfl ?_
   refine G_val rfl rfl rfl rfl (V_eql rfl rfl rfl) ?_
   refine G_val rfl rfl rfl rfl (V_assign rfl rfl) ?_
   refine G_done ?_
   refine G_ifD rfl (fun hc4 => ?_) (fun hc4 => ?_)
   · (first | contradiction | (exact absurd rfl hc4) | (exfalso; omega) | (simp at hc4; done) | (exact absurd hc4 (by decide)) | (exact absurd (by decide) hc4))
   refine G_seq ?_
   refine G_region (l := [0, 1]) rfl ?_
   refine G_val rfl rfl rfl rfl (V_eql rfl rfl rfl) ?_
   refine G_val rfl rfl rfl rfl (V_assign rfl rfl) ?_
   refine G_done ?_
   refine G_ifD rfl (fun hc5 => ?_) (fun hc5 => ?_)
   · (first | contradiction | (exact absurd rfl hc5) | (exfalso; omega) | (simp at hc5; done) | (exact absurd hc5 (by decide)) | (exact absurd (by decide) hc5))
   refine G_seq ?_
   refine G_region (l := [0, 1]) rfl ?_
   refine G_val rfl rfl rfl rfl (V_eql rfl rfl rfl) ?_
   refine G_val rfl rfl rfl rfl (V_assign rfl rfl) ?_
   refine G_done ?_
   refine G_ifD rfl (fun hc6 => ?_) (fun hc6 => ?_)
   · (first | contradiction | (exact absurd rfl hc6) | (exfalso; omega) | (simp at hc6; done) | (exact absurd hc6 (by decide)) | (exact absurd (by decide) hc6))
   refine G_seq ?_
   refine G_region (l := [0, 1]) rfl ?_
   refine G_val rfl rfl rfl rfl (V_eql rfl rfl rfl) ?_
   refine G_val rfl rfl rfl rfl (V_assign rfl rfl) ?_
   refine G_done ?_
   refine G_ifD rfl (fun hc7 => ?_) (fun hc7 => ?_)
   · (first | contradiction | (exact absurd rfl hc7) | (exfalso; omega) | (simp at hc7; done) | (exact absurd hc7 (by decide)) | (exact absurd (by decide) hc7))
   refine G_seq ?_
   refine G_region (l := [0, 1]) rfl ?_
   refine G_val rfl rfl rfl rfl (V_eql rfl rfl rfl) ?_
   refine G_val rfl rfl rfl rfl (V_assign rfl rfl) ?_
   refine G_done ?_
   refine G_ifD rfl (fun hc8 => ?_) (fun hc8 => ?_)
   · (first | contradiction | (exact absurd rfl hc8) | (exfalso; omega) | (simp at hc8; done) | (exact absurd hc8 (by decide)) | (exact absurd (by decide) hc8))
   refine G_seq ?_
   refine G_region (l := [0, 1]) rfl ?_
   refine G_val rfl rfl rfl rfl (V_eql rfl rfl rfl) ?_
   refine G_val rfl rfl rfl rfl (V_assign rfl rfl) ?_
   refine G_done ?_
   refine G_ifD rfl (fun hc9 => ?_) (fun hc9 => ?_)
   · (first | contradiction | (exact absurd rfl hc9) | (exfalso; omega) | (simp at hc9; done) | (exact absurd hc9 (by decide)) | (exact absurd (by decide) hc9))
   refine G_seq ?_
   refine G_region (l := [0, 1]) rfl ?_
   refine G_val rfl rfl rfl rfl (V_eql rfl rfl rfl) ?_
   refine G_val rfl rfl rfl rfl (V_assign rfl rfl) ?_
   refine G_done ?_
   refine G_ifD rfl (fun hc10 => ?_) (fun hc10 => ?_)
   · (first | contradiction | (exact absurd rfl hc10) | (exfalso; omega) | (simp at hc10; done) | (exact absurd hc10 (by decide)) | (exact absurd (by decide) hc10))
   refine G_seq ?_
   refine G_region (l := [0, 1]) rfl ?_
   refine G_val rfl rfl rfl rfl (V_eql rfl rfl rfl) ?_
   refine G_val rfl rfl rfl rfl (V_assign rfl rfl) ?_
   refine G_done ?_
   refine G_ifD rfl (fun hc11 => ?_) (fun hc11 => ?_)
   · (first | contradiction | (exact absurd rfl hc11) | (exfalso; omega) | (simp at hc11; done) | (exact absurd hc11 (by decide)) | (exact absurd (by decide) hc11))
   refine G_seq ?_
   refine G_region (l := [0, 1]) rfl ?_
   refine G_val rfl rfl rfl rfl (V_eql rfl rfl rfl) ?_
   refine G_val rfl rfl rfl rfl (V_assign rfl rfl) ?_
   refine G_done ?_
   refine G_ifD rfl (fun hc12 => ?_) (fun hc12 => ?_)
   · (first | contradiction | (exact absurd rfl hc12) | (exfalso; omega) | (simp at hc12; done) | (exact absurd hc12 (by decide)) | (exact absurd (by decide) hc12))
   refine G_seq ?_
   refine G_region (l := [0, 1]) rfl ?_
   refine G_val rfl rfl rfl rfl (V_eql rfl rfl rfl) ?_
   refine G_val rfl rfl rfl rfl (V_assign rfl rfl) ?_
   refine G_done ?_
   refine G_ifD rfl (fun hc13 => ?_) (fun hc13 => ?_)
   rotate_left
   · (first | contradiction | (exact absurd rfl hc13) | (exfalso; omega) | (simp at hc13; done) | (exact absurd hc13 (by decide)) | (exact absurd (by decide) hc13))
   refine G_seq ?_
   refine G_region (l := [0, 1, 2, 3]) rfl ?_
   refine G_val rfl rfl rfl rfl (V_fieldAddr (fo := 13) rfl Tryd.underlying27 rfl infTellR_3 rfl rfl rfl) ?_
   refine G_val rfl rfl rfl rfl (V_load1 rfl rfl (mem_at 0 rfl) rfl Tryd.underlying3 rfl) ?_
   refine G_call (L2 := [_]) rfl rfl rfl rfl rfl rfl Tryd.call44 (rt_int (q.nx 13) (hq.nx 13).1 (hq.nx 13).2) [] [] rfl rfl ?_
   rintro v post ⟨rfl, rfl⟩
   show G _ _ _ [_] _
   refine G_val rfl rfl rfl rfl (V_assign rfl rfl) ?_
   refine G_done ?_
   refine G_ret (post := []) Tryd.func30 rfl (RVs_cons (RV_tmp rfl) RVs_nil) [] rfl ?_
   dsimp only [packed]
   first | exact ⟨rfl, rfl⟩ | (refine ⟨str_eq ?_, rfl⟩; show _ = (if q.flag then _ else _); simp [*]; done)
 · skip
   refine G_region (l := [0]) rfl ?_
   refine G_val rfl rfl rfl rfl (V_move rfl rfl) ?_
   refine G_done ?_
   refine G_block ?_
   refine G_seq ?_
   refine G_region (l := [0, 1]) rfl ?_
   refine G_val rfl rfl rfl rfl (V_eql rfl rfl rfl) ?_
   refine G_val rfl rfl rfl rfl (V_assign rfl rfl) ?_
   refine G_done ?_
   refine G_ifD rfl (fun hc1 => ?_) (fun hc1 => ?_)
   · (first | contradiction | (exact absurd rfl hc1) | (exfalso; omega) | (simp at hc1; done) | (exact absurd hc1 (by decide)) | (exact absurd (by decide) hc1))
   refine G_seq ?_
   refine G_region (l := [0, 1]) rfl ?_
   refine G_val rfl rfl rfl rfl (V_eql rfl rfl rfl) ?_
   refine G_val rfl rfl rfl rfl (V_assign rfl rfl) ?_
   refine G_done ?_
   refine G_ifD rfl (fun hc2 => ?_) (fun hc2 => ?_)
   · (first | contradiction | (exact absurd rfl hc2) | (exfalso; omega) | (simp at hc2; done) | (exact absurd hc2 (by decide)) | (exact absurd (by decide) hc2))
   refine G_seq ?_
   refine G_region (l := [0, 1]) rfl ?_
   refine G_val rfl rfl rfl rfl (V_eql rfl rfl rfl) ?_
   refine G_val rfl rfl rfl rfl (V_assign rfl rfl) ?_
   refine G_done ?_
   refine G_ifD rfl (fun hc3 => ?_) (fun hc3 => ?_)
   · (first | contradiction | (exact absurd rfl hc3) | (exfalso; omega) | (simp at hc3; done) | (exact absurd hc3 (by decide)) | (exact absurd (by decide) hc3))
   refine G_seq ?_
   refine G_region (l := [0, 1]) rfl ?_
   refine G_val rfl rfl rfl rfl (V_eql rfl rfl rfl) ?_
   refine G_val rfl rfl rfl rfl (V_assign rfl rfl) ?_
   refine G_done ?_
   refine G_ifD rfl (fun hc4 => ?_) (fun hc4 => ?_)
   · (first | contradiction | (exact absurd rfl hc4) | (exfalso; omega) | (simp at hc4; done) | (exact absurd hc4 (by decide)) | (exact absurd (by decide) hc4))
   refine G_seq ?_
   refine G_region (l := [0, 1]) rfl ?_
   refine G_val rfl rfl rfl rfl (V_eql rfl rfl rfl) ?_
   refine G_val rfl rfl rfl rfl (V_assign rfl rfl) ?_
   refine G_done ?_
   refine G_ifD rfl (fun hc5 => ?_) (fun hc5 => ?_)
   · (first | contradiction | (exact absurd rfl hc5) | (exfalso; omega) | (simp at hc5; done) | (exact absurd hc5 (by decide)) | (exact absurd (by decide) hc5))
   refine G_seq ?_
   refine G_region (l := [0, 1]) rfl ?_
   refine G_val rfl rfl rfl rfl (V_eql rfl rfl rfl) ?_
   refine G_val rfl rfl rfl rfl (V_assign rfl rfl) ?_
   refine G_done ?_
   refine G_ifD rfl (fun hc6 => ?_) (fun hc6 => ?_)
   · (first | contradiction | (exact absurd rfl hc6) | (exfalso; omega) | (simp at hc6; done) | (exact absurd hc6 (by decide)) | (exact absurd (by decide) hc6))
   refine G_seq ?_
   refine G_region (l := [0, 1]) rfl ?_
   refine G_val rfl rfl rfl rfl (V_eql rfl rfl rfl) ?_
   refine G_val rfl rfl rfl rfl (V_assign rfl rfl) ?_
   refine G_done ?_
   refine G_ifD rfl (fun hc7 => ?_) (fun hc7 => ?_)
   · (first | contradiction | (exact absurd rfl hc7) | (exfalso; omega) | (simp at hc7; done) | (exact absurd hc7 (by decide)) | (exact absurd (by decide) hc7))
   refine G_seq ?_
   refine G_region (l := [0, 1]) rfl ?_
   refine G_val rfl rfl rfl rfl (V_eql rfl rfl rfl) ?_
   refine G_val rfl rfl rfl rfl (V_assign rfl rfl) ?_
   refine G_done ?_
   refine G_ifD rfl (fun hc8 => ?_) (fun hc8 => ?_)
   · (first | contradiction | (exact absurd rfl hc8) | (exfalso; omega) | (simp at hc8; done) | (exact absurd hc8 (by decide)) | (exact absurd (by decide) hc8))
   refine G_seq ?_
   refine G_region (l := [0, 1]) rfl ?_
   refine G_val rfl rfl rfl rfl (V_eql rfl rfl rfl) ?_
   refine G_val rfl rfl rfl rfl (V_assign rfl rfl) ?_
   refine G_done ?_
   refine G_ifD rfl (fun hc9 => ?_) (fun hc9 => ?_)
   · (first | contradiction | (exact absurd rfl hc9) | (exfalso; omega) | (simp at hc9; done) | (exact absurd hc9 (by decide)) | (exact absurd (by decide) hc9))
   refine G_seq ?_
   refine G_region (l := [0, 1]) rfl ?_
   refine G_val rfl rfl rfl rfl (V_eql rfl rfl rfl) ?_
   refine G_val rfl rfl rfl rfl (V_assign rfl rfl) ?_
   refine G_done ?_
   refine G_ifD rfl (fun hc10 => ?_) (fun hc10 => ?_)
   · (first | contradiction | (exact absurd rfl hc10) | (exfalso; omega) | (simp at hc10; done) | (exact absurd hc10 (by decide)) | (exact absurd (by decide) hc10))
   refine G_seq ?_
   refine G_region (l := [0, 1]) rfl ?_
   refine G_val rfl rfl rfl rfl (V_eql rfl rfl rfl) ?_
   refine G_val rfl rfl rfl rfl (V_assign rfl rfl) ?_
   refine G_done ?_
   refine G_ifD rfl (fun hc11 => ?_) (fun hc11 => ?_)
   · (first | contradiction | (exact absurd rfl hc11) | (exfalso; omega) | (simp at hc11; done) | (exact absurd hc11 (by decide)) | (exact absurd (by decide) hc11))
   refine G_seq ?_
   refine G_region (l := [0, 1]) rfl ?_
   refine G_val rfl rfl rfl rfl (V_eql rfl rfl rfl) ?_
   refine G_val rfl rfl rfl rfl (V_assign rfl rfl) ?_
   refine G_done ?_
   refine G_ifD rfl (fun hc12 => ?_) (fun hc12 => ?_)
   · (first | contradiction | (exact absurd rfl hc12) | (exfalso; omega) | (simp at hc12; done) | (exact absurd hc12 (by decide)) | (exact absurd (by decide) hc12))
   refine G_seq ?_
   refine G_region (l := [0, 1]) rfl ?_
   refine G_val rfl rfl rfl rfl (V_eql rfl rfl rfl) ?_
   refine G_val rfl rfl rfl rfl (V_assign rfl rfl) ?_
   refine G_done ?_
   refine G_ifD rfl (fun hc13 => ?_) (fun hc13 => ?_)
   · (first | contradiction | (exact absurd rfl hc13) | (exfalso; omega) | (simp at hc13; done) | (exact absurd hc13 (by decide)) | (exact absurd (by decide) hc13))
   refine G_seq ?_
   refine G_region (l := [0, 1]) rfl ?_
   refine G_val rfl rfl rfl rfl (V_eql rfl rfl rfl) ?_
   refine G_val rfl rfl rfl rfl (V_assign rfl rfl) ?_
   refine G_done ?_
   refine G_ifD rfl (fun hc14 => ?_) (fun hc14 => ?_)
   rotate_left
   · (first | contradiction | (exact absurd rfl hc14) | (exfalso; omega) | (simp at hc14; done) | (exact absurd hc14 (by decide)) | (exact absurd (by decide) hc14))
   refine G_seq ?_
   refine G_region (l := [0, 1, 2, 3]) rfl ?_
   refine G_val rfl rfl rfl rfl (V_fieldAddr (fo := 14) rfl Tryd.underlying27 rfl infTellR_3 rfl rfl rfl) ?_
   refine G_val rfl rfl rfl rfl (V_load1 rfl rfl (mem_at 0 rfl) rfl Tryd.underlying3 rfl) ?_
   refine G_call (L2 := [_]) rfl rfl rfl rfl rfl rfl Tryd.call44 (rt_int (q.nx 14) (hq.nx 14).1 (hq.nx 14).2) [] [] rfl rfl ?_
   rintro v post ⟨rfl, rfl⟩
   show G _ _ _ [_] _
   refine G_val rfl rfl rfl rfl (V_assign rfl rfl) ?_
   refine G_done ?_
   refine G_ret (post := []) Tryd.func30 rfl (RVs_cons (RV_tmp rfl) RVs_nil) [] rfl ?_
   dsimp only [packed]
   first | exact ⟨rfl, rfl⟩ | (refine ⟨str_eq ?_, rfl⟩; show _ = (if q.flag then _ else _); simp [*]; done)
 · skip
   refine G_region (l := [0]) rfl ?_
   refine G_val rfl rfl rfl rfl (V_move rfl rfl) ?_
   refine G_done ?_
   refine G_block ?_
   refine G_seq ?_
   refine G_region (l := [0, 1]) rfl ?_
   refine G_val rfl rfl rfl rfl (V_eql rfl rfl rfl) ?_
   refine G_val rfl rfl rfl rfl (V_assign rfl rfl) ?_
   refine G_done ?_
   refine G_ifD rfl (fun hc1 => ?_) (fun hc1 => ?_)
   · (first | contradiction | (exact absurd rfl hc1) | (exfalso; omega) | (simp at hc1; done) | (exact absurd hc1 (by decide)) | (exact absurd (by decide) hc1))
   refine G_seq ?_
   refine G_region (l := [0, 1]) rfl ?_
   refine G_val rfl rfl rfl rfl (V_eql rfl rfl rfl) ?_
   refine G_val rfl rfl rfl rfl (V_assign rfl rfl) ?_
   refine G_done ?_
   refine G_ifD rfl (fun hc2 => ?_) (fun hc2 => ?_)
   · (first | contradiction | (exact absurd rfl hc2) | (exfalso; omega) | (simp at hc2; done) | (exact absurd hc2 (by decide)) | (exact absurd (by decide) hc2))
   refine G_seq ?_
   refine G_region (l := [0, 1]) rfl ?_
   refine G_val rfl rfl rfl rfl (V_eql rfl rfl rfl) ?_
   refine G_val rfl rfl rfl rfl (V_assign rfl rfl) ?_
   refine G_done ?_
   refine G_ifD rfl (fun hc3 => ?_) (fun hc3 => ?_)
   · (first | contradiction | (exact absurd rfl hc3) | (exfalso; omega) | (simp at hc3; done) | (exact absurd hc3 (by decide)) | (exact absurd (by decide) hc3))
   refine G_seq ?_
   refine G_region (l := [0, 1]) rfl ?_
   refine G_val rfl rfl rfl rfl (V_eql rfl rfl rfl) ?_
   refine G_val rfl rfl rfl rfl (V_assign rfl rfl) ?_
   refine G_done ?_
   refine G_ifD rfl (fun hc4 => ?_) (fun hc4 => ?_)
   · (first | contradiction | (exact absurd rfl hc4) | (exfalso; omega) | (simp at hc4; done) | (exact absurd hc4 (by decide)) | (exact absurd (by decide) hc4))
   refine G_seq ?_
   refine G_region (l := [0, 1]) rfl ?_
   refine G_val rfl rfl rfl rfl (V_eql rfl rfl rfl) ?_
   refine G_val rfl rfl rfl rfl (V_assign rfl rfl) ?_
   refine G_done ?_
   refine G_ifD rfl (fun hc5 => ?_) (fun hc5 => ?_)
   · (first | contradiction | (exact absurd rfl hc5) | (exfalso; omega) | (simp at hc5; done) | (exact absurd hc5 (by decide)) | (exact absurd (by decide) hc5))
   refine G_seq ?_
   refine G_region (l := [0, 1]) rfl ?_
   refine G_val rfl rfl rfl rfl (V_eql rfl rfl rfl) ?_
   refine G_val rfl rfl rfl rfl (V_assign rfl rfl) ?_
   refine G_done ?_
   refine G_ifD rfl (fun hc6 => ?_) (fun hc6 => ?_)
   · (first | contradiction | (exact absurd rfl hc6) | (exfalso; omega) | (simp at hc6; done) | (exact absurd hc6 (by decide)) | (exact absurd (by decide) hc6))
   refine G_seq ?_
   refine G_region (l := [0, 1]) rfl ?_
   refine G_val rfl rfl rfl rfl (V_eql rfl rfl rfl) ?_
   refine G_val rfl rfl rfl rfl (V_assign rfl rfl) ?_
   refine G_done ?_
   refine G_ifD rfl (fun hc7 => ?_) (fun hc7 => ?_)
   · (first | contradiction | (exact absurd rfl hc7) | (exfalso; omega) | (simp at hc7; done) | (exact absurd hc7 (by decide)) | (exact absurd (by decide) hc7))
   refine G_seq ?_
   refine G_region (l := [0, 1]) rfl ?_
   refine G_val rfl rfl rfl rfl (V_eql rfl rfl rfl) ?_
   refine G_val rfl rfl rfl rfl (V_assign rfl rfl) ?_
   refine G_done ?_
   refine G_ifD rfl (fun hc8 => ?_) (fun hc8 => ?_)
   · (first | contradiction | (exact absurd rfl hc8) | (exfalso; omega) | (simp at hc8; done) | (exact absurd hc8 (by decide)) | (exact absurd (by decide) hc8))
   refine G_seq ?_
   refine G_region (l := [0, 1]) rfl ?_
   refine G_val rfl rfl rfl rfl (V_eql rfl rfl rfl) ?_
   refine G_val rfl rfl rfl rfl (V_assign rfl rfl) ?_
   refine G_done ?_
   refine G_ifD rfl (fun hc9 => ?_) (fun hc9 => ?_)
   · (first | contradiction | (exact absurd rfl hc9) | (exfalso; omega) | (simp at hc9; done) | (exact absurd hc9 (by decide)) | (exact absurd (by decide) hc9))
   refine G_seq ?_
   refine G_region (l := [0, 1]) rfl ?_
   refine G_val rfl rfl rfl rfl (V_eql rfl rfl rfl) ?_
   refine G_val rfl rfl rfl rfl (V_assign rfl rfl) ?_
   refine G_done ?_
   refine G_ifD rfl (fun hc10 => ?_) (fun hc10 => ?_)
   · (first | contradiction | (exact absurd rfl hc10) | (exfalso; omega) | (simp at hc10; done) | (exact absurd hc10 (by decide)) | (exact absurd (by decide) hc10))
   refine G_seq ?_
   refine G_region (l := [0, 1]) rfl ?_
   refine G_val rfl rfl rfl rfl (V_eql rfl rfl rfl) ?_
   refine G_val rfl rfl rfl rfl (V_assign rfl rfl) ?_
   refine G_done ?_
   refine G_ifD rfl (fun hc11 => ?_) (fun hc11 => ?_)
   · (first | contradiction | (exact absurd rfl hc11) | (exfalso; omega) | (simp at hc11; done) | (exact absurd hc11 (by decide)) | (exact absurd (by decide) hc11))
   refine G_seq ?_
   refine G_region (l := [0, 1]) rfl ?_
   refine G_val rfl rfl rfl rfl (V_eql rfl rfl rfl) ?_
   refine G_val rfl rfl rfl rfl (V_assign rfl rfl) ?_
   refine G_done ?_
   refine G_ifD rfl (fun hc12 => ?_) (fun hc12 => ?_)
   · (first | contradiction | (exact absurd rfl hc12) | (exfalso; omega) | (simp at hc12; done) | (exact absurd hc12 (by decide)) | (exact absurd (by decide) hc12))
   refine G_seq ?_
   refine G_region (l := [0, 1]) rfl ?_
   refine G_val rfl rfl rfl rfl (V_eql rfl rfl rfl) ?_
   refine G_val rfl rfl rfl rfl (V_assign rfl rfl) ?_
   refine G_done ?_
   refine G_ifD rfl (fun hc13 => ?_) (fun hc13 => ?_)
   · (first | contradiction | (exact absurd rfl hc13) | (exfalso; omega) | (simp at hc13; done) | (exact absurd hc13 (by decide)) | (exact absurd (by decide) hc13))
   refine G_seq ?_
   refine G_region (l := [0, 1]) rfl ?_
   refine G_val rfl rfl rfl rfl (V_eql rfl rfl rfl) ?_
   refine G_val rfl rfl rfl rfl (V_assign rfl rfl) ?_
   refine G_done ?_
   refine G_ifD rfl (fun hc14 => ?_) (fun hc14 => ?_)
   · (first | contradiction | (exact absurd rfl hc14) | (exfalso; omega) | (simp at hc14; done) | (exact absurd hc14 (by decide)) | (exact absurd (by decide) hc14))
   refine G_seq ?_
   refine G_region (l := [0, 1]) rfl ?_
   refine G_val rfl rfl rfl rfl (V_eql rfl rfl rfl) ?_
   refine G_val rfl rfl rfl rfl (V_assign rfl rfl) ?_
   refine G_done ?_
   refine G_ifD rfl (fun hc15 => ?_) (fun hc15 => ?_)
   rotate_left
   · (first | contradiction | (exact absurd rfl hc15) | (exfalso; omega) | (simp at hc15; done) | (exact absurd hc15 (by decide)) | (exact absurd (by decide) hc15))
   refine G_seq ?_
   refine G_region (l := [0, 1, 2, 3]) rfl ?_
   refine G_val rfl rfl rfl rfl (V_fieldAddr (fo := 15) rfl Tryd.underlying27 rfl infTellR_3 rfl rfl rfl) ?_
   refine G_val rfl rfl rfl rfl (V_load1 rfl rfl (mem_at 0 rfl) rfl Tryd.underlying3 rfl) ?_
   refine G_call (L2 := [_]) rfl rfl rfl rfl rfl rfl Tryd.call44 (rt_int (q.nx 15) (hq.nx 15).1 (hq.nx 15).2) [] [] rfl rfl ?_
   rintro v post ⟨rfl, rfl⟩
   show G _ _ _ [_] _
   refine G_val rfl rfl rfl rfl (V_assign rfl rfl) ?_
   refine G_done ?_
   refine G_ret (post := []) Tryd.func30 rfl (RVs_cons (RV_tmp rfl) RVs_nil) [] rfl ?_
   dsimp only [packed]
   first | exact ⟨rfl, rfl⟩ | (refine ⟨str_eq ?_, rfl⟩; show _ = (if q.flag then _ else _); simp [*]; done)

set_option maxRecDepth 100000 in
set_option maxHeartbeats 1000000 in
theorem tl_request (q : Rq) (hq : RqT q) (T0 : TypeId) (r0 : Nat × Nat) :
    Ct Tryd.prog 11 [.agg (rqCells q).toArray] [(some 0, .cells powC T0 r0)] [] fun v post => v = .string (bs (reqT q)) ∧ post = [] := by
 refine ct_of Tryd.func11 rfl rfl (fun w0 => ?_)
 show G _ _ [(0, _)] _ _
 refine G_seq ?_
 refine G_region (l := [0, 1]) rfl ?_
 refine G_new rfl rfl rfl rfl (N_boxA rfl rfl) (fun b1 => ?_)
 refine G_val rfl rfl rfl rfl (V_assign rfl rfl) ?_
 refine G_done ?_
 refine G_seq ?_
 refine G_region (l := [0, 1, 2, 3]) rfl ?_
 refine G_val rfl rfl rfl rfl (V_fieldAddr (fo := 0) rfl Tryd.underlying27 rfl infTellR_3 rfl rfl rfl) ?_
 refine G_val rfl rfl rfl rfl (V_load1 rfl rfl (mem_at 1 rfl) rfl Tryd.underlying3 rfl) ?_
 refine G_call (L2 := [_]) rfl rfl rfl rfl rfl rfl Tryd.call25 (msg_word _) [] [] rfl rfl ?_
 rintro v post ⟨rfl, rfl⟩
 show G _ _ _ [_] _
 refine G_val rfl rfl rfl rfl (V_assign rfl rfl) ?_
 refine G_done ?_
 refine G_seq ?_
 refine G_seq ?_
 refine G_region (l := [0, 1]) rfl ?_
 refine G_val rfl rfl rfl rfl (V_move rfl rfl) ?_
 refine G_val rfl rfl rfl rfl (V_seql rfl rfl rfl) ?_
 refine G_done ?_
 refine G_ifD rfl (fun hc1 => ?_) (fun hc1 => ?_)
 · skip
   refine G_region (l := [0]) rfl ?_
   refine G_val rfl rfl rfl rfl (V_assign rfl rfl) ?_
   refine G_done ?_
   refine G_seq ?_
   refine G_seq ?_
   have hwl := wordK_len q.kind
   first | (have hw : wordK q.kind = [] := by assumption) | (have hw : ¬ wordK q.kind = [] := by assumption)
   first | rw [show [63] = reqI q 0 from by unfold reqI headL; rw [if_pos hw]; simp] | rw [show wordK q.kind = reqI q 0 from by unfold reqI headL; rw [if_neg hw]; simp]
   refine G_region (l := [0, 1, 2, 3]) rfl ?_
   refine G_val rfl rfl rfl rfl (V_fieldAddr (fo := 0) rfl Tryd.underlying27 rfl infTellR_3 rfl rfl rfl) ?_
   refine G_val rfl rfl rfl rfl (V_load1 rfl rfl (mem_at 1 rfl) rfl Tryd.underlying3 rfl) ?_
   refine G_call (L2 := [_]) rfl rfl rfl rfl rfl rfl Tryd.call26 (msg_fields _) [] [] rfl rfl ?_
   rintro v post ⟨rfl, rfl⟩
   show G _ _ _ [_] _
   refine G_new rfl rfl rfl rfl (N_range rfl Tryd.underlying9 rfl) (fun b14 => ?_)
   refine G_done ?_
   refine G_block ?_
   refine G_sub ?he5 [1, 0] ?hl5 (G_loop (X := Nat) (fun k => k ≤ (fieldsK q.kind).length) (fun k => (fieldsK q.kind).length - k) (fun k => [(1, .pointer (some ⟨b1, 0, none⟩)), (3, .string (bs (reqI q k))), (14, .pointer (some ⟨b14, 0, none⟩))]) (fun k => [(some b1, .cells (rqCells q).toArray 27 (0, 0)), (some b14, .stringIter (bs (fieldsK q.kind)) k)]) ?round5 0 ?h05)
   case he5 => exact (And.intro rfl (And.intro rfl (And.intro rfl trivial)))
   case hl5 => exact ⟨_, rfl⟩
   case h05 => exact Nat.zero_le _
   case round5 =>
    intro k hJ ih
    try dsimp only at hJ ih
    refine G_seq ?_
    refine G_region (l := [0, 1]) rfl ?_
    rcases Nat.lt_or_ge k (fieldsK q.kind).length with hlt | hlt
    · skip
      refine G_putV (l1 := [_]) (L' := [_, _]) rfl rfl rfl rfl rfl (P_next rfl rfl (mem_at 1 rfl) hlt (fieldsK_ascii q.kind k hlt)) rfl ?_
      refine G_val rfl rfl rfl rfl (V_extract rfl rfl rfl) ?_
      refine G_done ?_
      refine G_seq ?_
      refine G_then rfl ?_
      refine G_skip ?_
      refine G_block ?_
      refine G_seq ?_
      refine G_region (l := [0, 1]) rfl ?_
      refine G_val rfl rfl rfl rfl (V_extract rfl rfl rfl) ?_
      refine G_val rfl rfl rfl rfl (V_assign rfl rfl) ?_
      refine G_done ?_
      have hk := fieldsK_known q.kind k hlt
      have hl1 := reqI_len hq k
      have hl2 := telF_len hq (((fieldsK q.kind).getD k 0).toNat : Int)
      refine G_region (l := [0, 1, 2, 3, 4, 5, 6, 7, 8, 9, 10]) rfl ?_
      refine G_val rfl rfl rfl rfl (V_move rfl rfl) ?_
      refine G_val rfl rfl rfl rfl (V_move rfl rfl) ?_
      refine G_val rfl rfl rfl rfl (V_runeS rfl rfl Tryd.underlying21 Tryd.underlying9 (fieldsK_ascii q.kind k hlt)) ?_
      refine G_val rfl rfl rfl rfl (V_sadd rfl rfl rfl (by first | omega | (simp [rqCells]; done) | (simp [rqCells]; omega) | (simp [rqCells] at *; omega))) ?_
      refine G_val rfl rfl rfl rfl (V_sadd rfl rfl rfl (by first | omega | (simp [rqCells]; done) | (simp [rqCells]; omega) | (simp [rqCells] at *; omega))) ?_
      first
        | refine G_val rfl rfl rfl rfl (V_loadW (s := 17) rfl rfl (mem_at 1 rfl) Tryd.underlying27 rfl infTellR_27 rfl (by first | rfl | (simp [bcells_length, rqCells]; done) | (simp [bcells_length, rqCells]; omega) | (simp [bcells_length, *, rqCells]; done))) ?_
        | refine G_val rfl rfl rfl rfl (V_loadA (s := 17) rfl rfl (mem_at 1 rfl) Tryd.underlying27 rfl infTellR_27 rfl rfl (by first | rfl | (simp [bcells_length, rqCells]; done) | (simp [bcells_length, rqCells]; omega) | (simp [bcells_length, *, rqCells]; done))) ?_
      refine G_val rfl rfl rfl rfl (V_move rfl rfl) ?_
      refine G_call (L2 := [_, _]) rfl rfl rfl rfl rfl rfl Tryd.call27 (tl_field q hq _ hk T0 r0) [] [0] rfl rfl ?_
      rintro v post ⟨rfl, rfl⟩
      show G _ _ _ [_, _] _
      refine G_val rfl rfl rfl rfl (V_sadd rfl rfl rfl (by first | omega | (simp [rqCells]; done) | (simp [rqCells]; omega) | (simp [rqCells] at *; omega))) ?_
      refine G_val rfl rfl rfl rfl (V_sadd rfl rfl rfl (by first | omega | (simp [rqCells]; done) | (simp [rqCells]; omega) | (simp [rqCells] at *; omega))) ?_
      refine G_val rfl rfl rfl rfl (V_assign rfl rfl) ?_
      refine G_done ?_
      refine G_inBlock ?_
      refine G_sub ?_ [0, 0] ?_ (ih (k + 1) ?_ ?_)
      · refine (And.intro rfl (And.intro (slot_str (by rw [← reqI_next hlt]; rfl)) (And.intro rfl trivial)))
      · exact ⟨_, rfl⟩
      · exact hlt
      · (first | omega | (dsimp only; omega))
    refine G_val rfl rfl rfl rfl (V_nextE rfl rfl (mem_at 1 rfl) hlt) ?_
    refine G_val rfl rfl rfl rfl (V_extract rfl rfl rfl) ?_
    refine G_done ?_
    refine G_seq ?_
    refine G_else rfl ?_
    refine G_exit rfl ?_
    refine G_seq ?_
    rw [reqI_end hlt]
    refine G_region (l := [0, 1]) rfl ?_
    refine G_val rfl rfl rfl rfl (V_move rfl rfl) ?_
    refine G_val rfl rfl rfl rfl (V_assign rfl rfl) ?_
    refine G_done ?_
    refine G_ret (post := []) Tryd.func11 rfl (RVs_cons (RV_tmp rfl) RVs_nil) [] rfl ?_
    dsimp only [packed]
    exact ⟨rfl, rfl⟩
 refine G_skip ?_
 refine G_seq ?_
 refine G_seq ?_
 have hwl := wordK_len q.kind
 first | (have hw : wordK q.kind = [] := by assumption) | (have hw : ¬ wordK q.kind = [] := by assumption)
 first | rw [show [63] = reqI q 0 from by unfold reqI headL; rw [if_pos hw]; simp] | rw [show wordK q.kind = reqI q 0 from by unfold reqI headL; rw [if_neg hw]; simp]
 refine G_region (l := [0, 1, 2, 3]) rfl ?_
 refine G_val rfl rfl rfl rfl (V_fieldAddr (fo := 0) rfl Tryd.underlying27 rfl infTellR_3 rfl rfl rfl) ?_
 refine G_val rfl rfl rfl rfl (V_load1 rfl rfl (mem_at 1 rfl) rfl Tryd.underlying3 rfl) ?_
 refine G_call (L2 := [_]) rfl rfl rfl rfl rfl rfl Tryd.call26 (msg_fields _) [] [] rfl rfl ?_
 rintro v post ⟨rfl, rfl⟩
 show G _ _ _ [_] _
 refine G_new rfl rfl rfl rfl (N_range rfl Tryd.underlying9 rfl) (fun b14 => ?_)
 refine G_done ?_
 refine G_block ?_
 refine G_sub ?he5 [1, 0] ?hl5 (G_loop (X := Nat) (fun k => k ≤ (fieldsK q.kind).length) (fun k => (fieldsK q.kind).length - k) (fun k => [(1, .pointer (some ⟨b1, 0, none⟩)), (3, .string (bs (reqI q k))), (14, .pointer (some ⟨b14, 0, none⟩))]) (fun k => [(some b1, .cells (rqCells q).toArray 27 (0, 0)), (some b14, .stringIter (bs (fieldsK q.kind)) k)]) ?round5 0 ?h05)
 case he5 => exact (And.intro rfl (And.intro rfl (And.intro rfl trivial)))
 case hl5 => exact ⟨_, rfl⟩
 case h05 => exact Nat.zero_le _
 case round5 =>
  intro k hJ ih
  try dsimp only at hJ ih
  refine G_seq ?_
  refine G_region (l := [0, 1]) rfl ?_
  rcases Nat.lt_or_ge k (fieldsK q.kind).length with hlt | hlt
  · skip
    refine G_putV (l1 := [_]) (L' := [_, _]) rfl rfl rfl rfl rfl (P_next rfl rfl (mem_at 1 rfl) hlt (fieldsK_ascii q.kind k hlt)) rfl ?_
    refine G_val rfl rfl rfl rfl (V_extract rfl rfl rfl) ?_
    refine G_done ?_
    refine G_seq ?_
    refine G_then rfl ?_
    refine G_skip ?_
    refine G_block ?_
    refine G_seq ?_
    refine G_region (l := [0, 1]) rfl ?_
    refine G_val rfl rfl rfl rfl (V_extract rfl rfl rfl) ?_
    refine G_val rfl rfl rfl rfl (V_assign rfl rfl) ?_
    refine G_done ?_
    have hk := fieldsK_known q.kind k hlt
    have hl1 := reqI_len hq k
    have hl2 := telF_len hq (((fieldsK q.kind).getD k 0).toNat : Int)
    refine G_region (l := [0, 1, 2, 3, 4, 5, 6, 7, 8, 9, 10]) rfl ?_
    refine G_val rfl rfl rfl rfl (V_move rfl rfl) ?_
    refine G_val rfl rfl rfl rfl (V_move rfl rfl) ?_
    refine G_val rfl rfl rfl rfl (V_runeS rfl rfl Tryd.underlying21 Tryd.underlying9 (fieldsK_ascii q.kind k hlt)) ?_
    refine G_val rfl rfl rfl rfl (V_sadd rfl rfl rfl (by first | omega | (simp [rqCells]; done) | (simp [rqCells]; omega) | (simp [rqCells] at *; omega))) ?_
    refine G_val rfl rfl rfl rfl (V_sadd rfl rfl rfl (by first | omega | (simp [rqCells]; done) | (simp [rqCells]; omega) | (simp [rqCells] at *; omega))) ?_
    first
      | refine G_val rfl rfl rfl rfl (V_loadW (s := 17) rfl rfl (mem_at 1 rfl) Tryd.underlying27 rfl infTellR_27 rfl (by first | rfl | (simp [bcells_length, rqCells]; done) | (simp [bcells_length, rqCells]; omega) | (simp [bcells_length, *, rqCells]; done))) ?_
      | refine G_val rfl rfl rfl rfl (V_loadA (s := 17) rfl rfl (mem_at 1 rfl) Tryd.underlying27 rfl infTellR_27 rfl rfl (by first | rfl | (simp [bcells_length, rqCells]; done) | (simp [bcells_length, rqCells]; omega) | (simp [bcells_length, *, rqCells]; done))) ?_
    refine G_val rfl rfl rfl rfl (V_move rfl rfl) ?_
    refine G_call (L2 := [_, _]) rfl rfl rfl rfl rfl rfl Tryd.call27 (tl_field q hq _ hk T0 r0) [] [0] rfl rfl ?_
    rintro v post ⟨rfl, rfl⟩
    show G _ _ _ [_, _] _
    refine G_val rfl rfl rfl rfl (V_sadd rfl rfl rfl (by first | omega | (simp [rqCells]; done) | (simp [rqCells]; omega) | (simp [rqCells] at *; omega))) ?_
    refine G_val rfl rfl rfl rfl (V_sadd rfl rfl rfl (by first | omega | (simp [rqCells]; done) | (simp [rqCells]; omega) | (simp [rqCells] at *; omega))) ?_
    refine G_val rfl rfl rfl rfl (V_assign rfl rfl) ?_
    refine G_done ?_
    refine G_inBlock ?_
    refine G_sub ?_ [0, 0] ?_ (ih (k + 1) ?_ ?_)
    · refine (And.intro rfl (And.intro (slot_str (by rw [← reqI_next hlt]; rfl)) (And.intro rfl trivial)))
    · exact ⟨_, rfl⟩
    · exact hlt
    · (first | omega | (dsimp only; omega))
  refine G_val rfl rfl rfl rfl (V_nextE rfl rfl (mem_at 1 rfl) hlt) ?_
  refine G_val rfl rfl rfl rfl (V_extract rfl rfl rfl) ?_
  refine G_done ?_
  refine G_seq ?_
  refine G_else rfl ?_
  refine G_exit rfl ?_
  refine G_seq ?_
  rw [reqI_end hlt]
  refine G_region (l := [0, 1]) rfl ?_
  refine G_val rfl rfl rfl rfl (V_move rfl rfl) ?_
  refine G_val rfl rfl rfl rfl (V_assign rfl rfl) ?_
  refine G_done ?_
  refine G_ret (post := []) Tryd.func11 rfl (RVs_cons (RV_tmp rfl) RVs_nil) [] rfl ?_
  dsimp only [packed]
  exact ⟨rfl, rfl⟩

set_option maxRecDepth 100000 in
set_option maxHeartbeats 1000000 in
theorem rtl_request (q : Rq) (hq : RqT q) :
    Ct Tryd.prog 12 [.agg (rqCells q).toArray] [] [] fun v post => v = .string (bs (reqT q)) ∧ post = [] := by
 refine ct_of Tryd.func12 rfl rfl (fun w0 => ?_)
 show G _ _ [(0, _)] _ _
 refine G_seq ?_
 refine G_region (l := [0, 1]) rfl ?_
 refine G_new rfl rfl rfl rfl (N_boxA rfl rfl) (fun b1 => ?_)
 refine G_val rfl rfl rfl rfl (V_assign rfl rfl) ?_
 refine G_done ?_
 refine G_seq ?_
 refine G_region (l := [0, 1, 2, 3]) rfl ?_
 refine G_val rfl rfl rfl rfl (V_fieldAddr (fo := 0) rfl Tryd.underlying27 rfl infTellR_3 rfl rfl rfl) ?_
 refine G_val rfl rfl rfl rfl (V_load1 rfl rfl (mem_at 0 rfl) rfl Tryd.underlying3 rfl) ?_
 refine G_call (L2 := [_]) rfl rfl rfl rfl rfl rfl Tryd.call28 (rmsg_word _) [] [] rfl rfl ?_
 rintro v post ⟨rfl, rfl⟩
 show G _ _ _ [_] _
 refine G_val rfl rfl rfl rfl (V_assign rfl rfl) ?_
 refine G_done ?_
 refine G_seq ?_
 refine G_seq ?_
 refine G_region (l := [0, 1]) rfl ?_
 refine G_val rfl rfl rfl rfl (V_move rfl rfl) ?_
 refine G_val rfl rfl rfl rfl (V_seql rfl rfl rfl) ?_
 refine G_done ?_
 refine G_ifD rfl (fun hc1 => ?_) (fun hc1 => ?_)
 · skip
   refine G_region (l := [0]) rfl ?_
   refine G_val rfl rfl rfl rfl (V_assign rfl rfl) ?_
   refine G_done ?_
   refine G_seq ?_
   have hwl := wordK_len q.kind
   first | (have hw : wordK q.kind = [] := by assumption) | (have hw : ¬ wordK q.kind = [] := by assumption)
   first | rw [show [63] = reqI q 0 from by unfold reqI headL; rw [if_pos hw]; simp] | rw [show wordK q.kind = reqI q 0 from by unfold reqI headL; rw [if_neg hw]; simp]
   refine G_region (l := [0, 1, 2, 3]) rfl ?_
   refine G_val rfl rfl rfl rfl (V_fieldAddr (fo := 0) rfl Tryd.underlying27 rfl infTellR_3 rfl rfl rfl) ?_
   refine G_val rfl rfl rfl rfl (V_load1 rfl rfl (mem_at 0 rfl) rfl Tryd.underlying3 rfl) ?_
   refine G_call (L2 := [_]) rfl rfl rfl rfl rfl rfl Tryd.call29 (rmsg_fields _) [] [] rfl rfl ?_
   rintro v post ⟨rfl, rfl⟩
   show G _ _ _ [_] _
   refine G_val rfl rfl rfl rfl (V_assign rfl rfl) ?_
   refine G_done ?_
   refine G_seq ?_
   refine G_seq ?_
   refine G_region (l := [0]) rfl ?_
   refine G_val rfl rfl rfl rfl (V_assign rfl rfl) ?_
   refine G_done ?_
   refine G_block ?_
   refine G_sub ?he6 [0] ?hl6 (G_loop (X := Nat) (fun k => k ≤ (fieldsK q.kind).length) (fun k => (fieldsK q.kind).length - k) (fun k => [(1, .pointer (some ⟨b1, 0, none⟩)), (3, .string (bs (reqI q k))), (4, .string (bs (fieldsK q.kind))), (5, .int .i64 (k : Int))]) (fun k => [(some b1, .cells (rqCells q).toArray 27 (0, 0))]) ?round6 0 ?h06)
   case he6 => exact (And.intro rfl (And.intro rfl (And.intro rfl (And.intro rfl trivial))))
   case hl6 => exact ⟨_, rfl⟩
   case h06 => exact Nat.zero_le _
   case round6 =>
    intro k hJ ih
    try dsimp only at hJ ih
    refine G_seq ?_
    refine G_seq ?_
    refine G_region (l := [0, 1, 2, 3]) rfl ?_
    refine G_val rfl rfl rfl rfl (V_move rfl rfl) ?_
    refine G_val rfl rfl rfl rfl (V_move rfl rfl) ?_
    refine G_val rfl rfl rfl rfl (V_slen rfl rfl Tryd.underlying9 rfl) ?_
    refine G_val rfl rfl rfl rfl (V_lss rfl rfl rfl) ?_
    refine G_done ?_
    refine G_ifD rfl (fun hc2 => ?_) (fun hc2 => ?_)
    · skip
      refine G_skip ?_
      refine G_seq ?_
      refine G_block ?_
      have hlt : k < (fieldsK q.kind).length := by omega
      have hk := fieldsK_known q.kind k hlt
      have hl1 := reqI_len hq k
      have hl2 := telF_len hq (((fieldsK q.kind).getD k 0).toNat : Int)
      have hfl := fieldsK_len q.kind
      refine GH_start (Lq := [_]) (isq := [0]) (m := 16) mixedK rfl rfl ?_
      refine GH_take 0 rfl rfl rfl rfl (by kernel_rfl) (by kernel_rfl) (by kernel_rfl) (fun _ _ => (V_move rfl rfl)) ?_
      refine GH_take 1 rfl rfl rfl rfl (by kernel_rfl) (by kernel_rfl) (by kernel_rfl) (fun _ _ => (V_sadd rfl rfl rfl (by first | omega | (simp [rqCells]; done) | (simp [rqCells]; omega) | (simp [rqCells] at *; omega)))) ?_
      refine GH_take 2 rfl rfl rfl rfl (by kernel_rfl) (by kernel_rfl) (by kernel_rfl) (fun _ _ => (V_move rfl rfl)) ?_
      refine GH_take 3 rfl rfl rfl rfl (by kernel_rfl) (by kernel_rfl) (by kernel_rfl) (fun _ _ => (V_move rfl rfl)) ?_
      refine GH_take 4 rfl rfl rfl rfl (by kernel_rfl) (by kernel_rfl) (by kernel_rfl) (fun _ _ => (V_move rfl rfl)) ?_
      first
        | refine GH_take 5 rfl rfl rfl rfl (by kernel_rfl) (by kernel_rfl) (by kernel_rfl) (fun _ _ => ((V_add rfl rfl rfl).int (wrap_i64 (by omega)))) ?_
        | refine GH_take 5 rfl rfl rfl rfl (by kernel_rfl) (by kernel_rfl) (by kernel_rfl) (fun _ _ => (V_add rfl rfl rfl)) ?_
      refine GH_take 6 rfl rfl rfl rfl (by kernel_rfl) (by kernel_rfl) (by kernel_rfl) (fun _ _ => (V_ssliceN (lo := k) (hi := k + 1) rfl Tryd.underlying9 rfl rfl rfl rfl rfl (by omega) (by omega))) ?_
      rw [one_cut hlt]
      refine GH_take 7 rfl rfl rfl rfl (by kernel_rfl) (by kernel_rfl) (by kernel_rfl) (fun _ _ => (V_sadd rfl rfl rfl (by first | omega | (simp [rqCells]; done) | (simp [rqCells]; omega) | (simp [rqCells] at *; omega)))) ?_
      refine GH_take 8 rfl rfl rfl rfl (by kernel_rfl) (by kernel_rfl) (by kernel_rfl) (fun _ _ => (V_sadd rfl rfl rfl (by first | omega | (simp [rqCells]; done) | (simp [rqCells]; omega) | (simp [rqCells] at *; omega)))) ?_
      first
        | refine GH_take 9 rfl rfl rfl rfl (by kernel_rfl) (by kernel_rfl) (by kernel_rfl) (fun _ _ => (V_loadW (s := 17) rfl rfl (mem_at 0 rfl) Tryd.underlying27 rfl infTellR_27 rfl (by first | rfl | (simp [bcells_length, rqCells]; done) | (simp [bcells_length, rqCells]; omega) | (simp [bcells_length, *, rqCells]; done)))) ?_
        | refine GH_take 9 rfl rfl rfl rfl (by kernel_rfl) (by kernel_rfl) (by kernel_rfl) (fun _ _ => (V_loadA (s := 17) rfl rfl (mem_at 0 rfl) Tryd.underlying27 rfl infTellR_27 rfl rfl (by first | rfl | (simp [bcells_length, rqCells]; done) | (simp [bcells_length, rqCells]; omega) | (simp [bcells_length, *, rqCells]; done)))) ?_
      refine GH_take 10 rfl rfl rfl rfl (by kernel_rfl) (by kernel_rfl) (by kernel_rfl) (fun _ _ => (V_move rfl rfl)) ?_
      refine GH_take 11 rfl rfl rfl rfl (by kernel_rfl) (by kernel_rfl) (by kernel_rfl) (fun _ _ => (V_move rfl rfl)) ?_
      first
        | refine GH_take 12 rfl rfl rfl rfl (by kernel_rfl) (by kernel_rfl) (by kernel_rfl) (fun _ _ => (V_sindexN rfl Tryd.underlying9 rfl rfl rfl (by omega))) ?_
        | refine GH_take 12 rfl rfl rfl rfl (by kernel_rfl) (by kernel_rfl) (by kernel_rfl) (fun _ _ => (V_sindexD rfl Tryd.underlying9 rfl rfl (by omega) (by first | omega | (simp [rqCells]; done) | (simp [rqCells]; omega) | (simp [rqCells] at *; omega)))) ?_
      refine GH_all [13] (by kernel_rfl) (by decide) ?_
      refine (And.intro ?_ trivial)
      · skip
        refine GHop_call (L2 := [_]) rfl rfl rfl rfl rfl rfl Tryd.call30 (rtl_field q hq _ hk) [] [] rfl rfl [0] (by rintro v post ⟨rfl, rfl⟩; exact ⟨_, rfl⟩) ?_
        rintro v post ⟨rfl, rfl⟩
        show GH _ _ _ _ _ _ _ [_] _
        refine GH_take 14 rfl rfl rfl rfl (by kernel_rfl) (by kernel_rfl) (by kernel_rfl) (fun _ _ => (V_sadd rfl rfl rfl (by first | omega | (simp [rqCells]; done) | (simp [rqCells]; omega) | (simp [rqCells] at *; omega)))) ?_
        refine GH_take 15 rfl rfl rfl rfl (by kernel_rfl) (by kernel_rfl) (by kernel_rfl) (fun _ _ => (V_assign rfl rfl)) ?_
        refine GH_done (by kernel_rfl) ?_
        refine G_inBlock ?_
        refine G_region (l := [0, 1, 2]) rfl ?_
        refine G_val rfl rfl rfl rfl (V_move rfl rfl) ?_
        first
          | refine G_val rfl rfl rfl rfl ((V_add rfl rfl rfl).int (wrap_i64 (by omega))) ?_
          | refine G_val rfl rfl rfl rfl (V_add rfl rfl rfl) ?_
        refine G_val rfl rfl rfl rfl (V_assign rfl rfl) ?_
        refine G_done ?_
        refine G_sub ?_ [0] ?_ (ih (k + 1) ?_ ?_)
        · refine (And.intro rfl (And.intro (slot_str (by rw [← reqI_next hlt]; simp only [fieldL, List.append_assoc])) (And.intro rfl (And.intro (slot_int (by omega)) trivial))))
        · exact ⟨_, rfl⟩
        · omega
        · (first | omega | (dsimp only; omega))
    refine G_exit rfl ?_
    refine G_seq ?_
    rw [reqI_end (by omega)]
    refine G_region (l := [0, 1]) rfl ?_
    refine G_val rfl rfl rfl rfl (V_move rfl rfl) ?_
    refine G_val rfl rfl rfl rfl (V_assign rfl rfl) ?_
    refine G_done ?_
    refine G_ret (post := []) Tryd.func12 rfl (RVs_cons (RV_tmp rfl) RVs_nil) [] rfl ?_
    dsimp only [packed]
    exact ⟨rfl, rfl⟩
 refine G_skip ?_
 refine G_seq ?_
 have hwl := wordK_len q.kind
 first | (have hw : wordK q.kind = [] := by assumption) | (have hw : ¬ wordK q.kind = [] := by assumption)
 first | rw [show [63] = reqI q 0 from by unfold reqI headL; rw [if_pos hw]; simp] | rw [show wordK q.kind = reqI q 0 from by unfold reqI headL; rw [if_neg hw]; simp]
 refine G_region (l := [0, 1, 2, 3]) rfl ?_
 refine G_val rfl rfl rfl rfl (V_fieldAddr (fo := 0) rfl Tryd.underlying27 rfl infTellR_3 rfl rfl rfl) ?_
 refine G_val rfl rfl rfl rfl (V_load1 rfl rfl (mem_at 0 rfl) rfl Tryd.underlying3 rfl) ?_
 refine G_call (L2 := [_]) rfl rfl rfl rfl rfl rfl Tryd.call29 (rmsg_fields _) [] [] rfl rfl ?_
 rintro v post ⟨rfl, rfl⟩
 show G _ _ _ [_] _
 refine G_val rfl rfl rfl rfl (V_assign rfl rfl) ?_
 refine G_done ?_
 refine G_seq ?_
 refine G_seq ?_
 refine G_region (l := [0]) rfl ?_
 refine G_val rfl rfl rfl rfl (V_assign rfl rfl) ?_
 refine G_done ?_
 refine G_block ?_
 refine G_sub ?he6 [0] ?hl6 (G_loop (X := Nat) (fun k => k ≤ (fieldsK q.kind).length) (fun k => (fieldsK q.kind).length - k) (fun k => [(1, .pointer (some ⟨b1, 0, none⟩)), (3, .string (bs (reqI q k))), (4, .string (bs (fieldsK q.kind))), (5, .int .i64 (k : Int))]) (fun k => [(some b1, .cells (rqCells q).toArray 27 (0, 0))]) ?round6 0 ?h06)
 case he6 => exact (And.intro rfl (And.intro rfl (And.intro rfl (And.intro rfl trivial))))
 case hl6 => exact ⟨_, rfl⟩
 case h06 => exact Nat.zero_le _
 case round6 =>
  intro k hJ ih
  try dsimp only at hJ ih
  refine G_seq ?_
  refine G_seq ?_
  refine G_region (l := [0, 1, 2, 3]) rfl ?_
  refine G_val rfl rfl rfl rfl (V_move rfl rfl) ?_
  refine G_val rfl rfl rfl rfl (V_move rfl rfl) ?_
  refine G_val rfl rfl rfl rfl (V_slen rfl rfl Tryd.underlying9 rfl) ?_
  refine G_val rfl rfl rfl rfl (V_lss rfl rfl rfl) ?_
  refine G_done ?_
  refine G_ifD rfl (fun hc2 => ?_) (fun hc2 => ?_)
  · skip
    refine G_skip ?_
    refine G_seq ?_
    refine G_block ?_
    have hlt : k < (fieldsK q.kind).length := by omega
    have hk := fieldsK_known q.kind k hlt
    have hl1 := reqI_len hq k
    have hl2 := telF_len hq (((fieldsK q.kind).getD k 0).toNat : Int)
    have hfl := fieldsK_len q.kind
    refine GH_start (Lq := [_]) (isq := [0]) (m := 16) mixedK rfl rfl ?_
    refine GH_take 0 rfl rfl rfl rfl (by kernel_rfl) (by kernel_rfl) (by kernel_rfl) (fun _ _ => (V_move rfl rfl)) ?_
    refine GH_take 1 rfl rfl rfl rfl (by kernel_rfl) (by kernel_rfl) (by kernel_rfl) (fun _ _ => (V_sadd rfl rfl rfl (by first | omega | (simp [rqCells]; done) | (simp [rqCells]; omega) | (simp [rqCells] at *; omega)))) ?_
    refine GH_take 2 rfl rfl rfl rfl (by kernel_rfl) (by kernel_rfl) (by kernel_rfl) (fun _ _ => (V_move rfl rfl)) ?_
    refine GH_take 3 rfl rfl rfl rfl (by kernel_rfl) (by kernel_rfl) (by kernel_rfl) (fun _ _ => (V_move rfl rfl)) ?_
    refine GH_take 4 rfl rfl rfl rfl (by kernel_rfl) (by kernel_rfl) (by kernel_rfl) (fun _ _ => (V_move rfl rfl)) ?_
    first
      | refine GH_take 5 rfl rfl rfl rfl (by kernel_rfl) (by kernel_rfl) (by kernel_rfl) (fun _ _ => ((V_add rfl rfl rfl).int (wrap_i64 (by omega)))) ?_
      | refine GH_take 5 rfl rfl rfl rfl (by kernel_rfl) (by kernel_rfl) (by kernel_rfl) (fun _ _ => (V_add rfl rfl rfl)) ?_
    refine GH_take 6 rfl rfl rfl rfl (by kernel_rfl) (by kernel_rfl) (by kernel_rfl) (fun _ _ => (V_ssliceN (lo := k) (hi := k + 1) rfl Tryd.underlying9 rfl rfl rfl rfl rfl (by omega) (by omega))) ?_
    rw [one_cut hlt]
    refine GH_take 7 rfl rfl rfl rfl (by kernel_rfl) (by kernel_rfl) (by kernel_rfl) (fun _ _ => (V_sadd rfl rfl rfl (by first | omega | (simp [rqCells]; done) | (simp [rqCells]; omega) | (simp [rqCells] at *; omega)))) ?_
    refine GH_take 8 rfl rfl rfl rfl (by kernel_rfl) (by kernel_rfl) (by kernel_rfl) (fun _ _ => (V_sadd rfl rfl rfl (by first | omega | (simp [rqCells]; done) | (simp [rqCells]; omega) | (simp [rqCells] at *; omega)))) ?_
    first
      | refine GH_take 9 rfl rfl rfl rfl (by kernel_rfl) (by kernel_rfl) (by kernel_rfl) (fun _ _ => (V_loadW (s := 17) rfl rfl (mem_at 0 rfl) Tryd.underlying27 rfl infTellR_27 rfl (by first | rfl | (simp [bcells_length, rqCells]; done) | (simp [bcells_length, rqCells]; omega) | (simp [bcells_length, *, rqCells]; done)))) ?_
      | refine GH_take 9 rfl rfl rfl rfl (by kernel_rfl) (by kernel_rfl) (by kernel_rfl) (fun _ _ => (V_loadA (s := 17) rfl rfl (mem_at 0 rfl) Tryd.underlying27 rfl infTellR_27 rfl rfl (by first | rfl | (simp [bcells_length, rqCells]; done) | (simp [bcells_length, rqCells]; omega) | (simp [bcells_length, *, rqCells]; done)))) ?_
    refine GH_take 10 rfl rfl rfl rfl (by kernel_rfl) (by kernel_rfl) (by kernel_rfl) (fun _ _ => (V_move rfl rfl)) ?_
    refine GH_take 11 rfl rfl rfl rfl (by kernel_rfl) (by kernel_rfl) (by kernel_rfl) (fun _ _ => (V_move rfl rfl)) ?_
    first
      | refine GH_take 12 rfl rfl rfl rfl (by kernel_rfl) (by kernel_rfl) (by kernel_rfl) (fun _ _ => (V_sindexN rfl Tryd.underlying9 rfl rfl rfl (by omega))) ?_
      | refine GH_take 12 rfl rfl rfl rfl (by kernel_rfl) (by kernel_rfl) (by kernel_rfl) (fun _ _ => (V_sindexD rfl Tryd.underlying9 rfl rfl (by omega) (by first | omega | (simp [rqCells]; done) | (simp [rqCells]; omega) | (simp [rqCells] at *; omega)))) ?_
    refine GH_all [13] (by kernel_rfl) (by decide) ?_
    refine (And.intro ?_ trivial)
    · skip
      refine GHop_call (L2 := [_]) rfl rfl rfl rfl rfl rfl Tryd.call30 (rtl_field q hq _ hk) [] [] rfl rfl [0] (by rintro v post ⟨rfl, rfl⟩; exact ⟨_, rfl⟩) ?_
      rintro v post ⟨rfl, rfl⟩
      show GH _ _ _ _ _ _ _ [_] _
      refine GH_take 14 rfl rfl rfl rfl (by kernel_rfl) (by kernel_rfl) (by kernel_rfl) (fun _ _ => (V_sadd rfl rfl rfl (by first | omega | (simp [rqCells]; done) | (simp [rqCells]; omega) | (simp [rqCells] at *; omega)))) ?_
      refine GH_take 15 rfl rfl rfl rfl (by kernel_rfl) (by kernel_rfl) (by kernel_rfl) (fun _ _ => (V_assign rfl rfl)) ?_
      refine GH_done (by kernel_rfl) ?_
      refine G_inBlock ?_
      refine G_region (l := [0, 1, 2]) rfl ?_
      refine G_val rfl rfl rfl rfl (V_move rfl rfl) ?_
      first
        | refine G_val rfl rfl rfl rfl ((V_add rfl rfl rfl).int (wrap_i64 (by omega))) ?_
        | refine G_val rfl rfl rfl rfl (V_add rfl rfl rfl) ?_
      refine G_val rfl rfl rfl rfl (V_assign rfl rfl) ?_
      refine G_done ?_
      refine G_sub ?_ [0] ?_ (ih (k + 1) ?_ ?_)
      · refine (And.intro rfl (And.intro (slot_str (by rw [← reqI_next hlt]; simp only [fieldL, List.append_assoc])) (And.intro rfl (And.intro (slot_int (by omega)) trivial))))
      · exact ⟨_, rfl⟩
      · omega
      · (first | omega | (dsimp only; omega))
  refine G_exit rfl ?_
  refine G_seq ?_
  rw [reqI_end (by omega)]
  refine G_region (l := [0, 1]) rfl ?_
  refine G_val rfl rfl rfl rfl (V_move rfl rfl) ?_
  refine G_val rfl rfl rfl rfl (V_assign rfl rfl) ?_
  refine G_done ?_
  refine G_ret (post := []) Tryd.func12 rfl (RVs_cons (RV_tmp rfl) RVs_nil) [] rfl ?_
  dsimp only [packed]
  exact ⟨rfl, rfl⟩

end
end Go.Proofs.YtjnaeoelnmhjfaaDoor

/- strings.Repeat of a byte 0, and what it calls. -/
set_option linter.unusedSimpArgs false
set_option linter.unusedVariables false
namespace Go.Proofs.YtjnaeoelnmhjfaaDoor
open Go Go.RowKit

section
theorem infRep_5 : Tryd.prog.info? 5 = some Tryd.t5 := by kernel_rfl
theorem infRep_55 : Tryd.prog.info? 55 = some Tryd.t55 := by kernel_rfl


theorem and_mask (n : Nat) (h : n < 4294967296) : bitsOp .and .u64 (n : Int) 4294967295 = (n : Int) := by
  have e1 : BitVec.ofInt 64 (n : Int) = BitVec.ofNat 64 n := by apply BitVec.eq_of_toNat_eq; simp [BitVec.toNat_ofInt]
  show IntKind.u64.wrap ((BitVec.ofInt 64 (n : Int) &&& BitVec.ofInt 64 (4294967295 : Int)).toNat : Int) = _
  have e2 : BitVec.ofInt 64 (4294967295 : Int) = BitVec.ofNat 64 4294967295 := rfl
  rw [e1, e2, BitVec.toNat_and]
  have e3 : (BitVec.ofNat 64 n).toNat = n := by simp; omega
  have e4 : (BitVec.ofNat 64 4294967295).toNat = 4294967295 := rfl
  rw [e3, e4]
  have e5 : n &&& 4294967295 = n := by
    have := Nat.and_two_pow_sub_one_of_lt_two_pow (n := 32) (x := n) (by omega)
    simpa using this
  rw [e5]
  exact wrap_u64 (by omega)
theorem shr32 (n : Nat) (h : n < 4294967296) : (n : Int) / (2 : Int) ^ min (32 : Int).toNat IntKind.u64.bits = 0 := by
  have e : (2 : Int) ^ min (32 : Int).toNat IntKind.u64.bits = 4294967296 := by decide
  rw [e]
  omega
theorem wmul1 (n : Nat) (h : n < 4294967296) : IntKind.u64.wrap ((1 : Int) * (n : Int)) = (n : Int) := by rw [wrap_u64 (by omega)]; omega
theorem wmul0 (n : Nat) : IntKind.u64.wrap ((0 : Int) * (n : Int)) = 0 := by rw [Int.zero_mul]; rfl


theorem txt_room (g : Nat) (cs : Array Value) (n : Nat) (h1 : 1 ≤ n) (h2 : n ≤ cs.size) (h3 : cs.size ≤ 9223372036854775807) : Txt ⟨some g, cs, (0, 0), cs.size⟩ [] :=
  ⟨⟨rfl, Nat.zero_le _, h3, by simp, by simp [bcells], by simp, fun h => by cases h⟩, fun _ => by show 0 < cs.size; omega⟩

set_option maxRecDepth 100000 in
set_option maxHeartbeats 1000000 in
theorem bld_grow1 (b n : Nat) (h1 : 1 ≤ n) (h8 : n ≤ 100000000) :
    Ct Tryd.prog 61 [.pointer (some ⟨b, 0, none⟩), .int .i64 (n : Int)] [] [(some b, .cells #[.pointer (some ⟨b, 0, none⟩), .slice none 0 0] 57 (0, 0))] fun v post => v = .tuple #[] ∧ ∃ u1, Txt u1 [] ∧ post = [(some b, .cells #[.pointer (some ⟨b, 0, none⟩), u1.v 0] 57 (0, 0)), (u1.ob, .cells u1.cs 5 u1.fz)] := by
 refine ct_of Tryd.func61 rfl rfl (fun w0 => ?_)
 show G _ _ [(0, _), (1, _)] _ _
 refine G_seq ?_
 refine GH_start (Lq := [_]) (isq := [0]) (m := 16) mixedK rfl rfl ?_
 refine GH_take 0 rfl rfl rfl rfl (by kernel_rfl) (by kernel_rfl) (by kernel_rfl) (fun _ _ => (V_move rfl rfl)) ?_
 first
   | refine GH_take 1 rfl rfl rfl rfl (by kernel_rfl) (by kernel_rfl) (by kernel_rfl) (fun _ _ => (V_nilCheck rfl rfl)) ?_
   | refine GH_take 1 rfl rfl rfl rfl (by kernel_rfl) (by kernel_rfl) (by kernel_rfl) (fun _ _ => (V_nilCheckF rfl rfl)) ?_
 refine GH_take 2 rfl rfl rfl rfl (by kernel_rfl) (by kernel_rfl) (by kernel_rfl) (fun _ _ => (V_fieldAddr (fo := 1) rfl Tryd.underlying57 rfl infRep_55 rfl rfl rfl)) ?_
 refine GH_take 3 rfl rfl rfl rfl (by kernel_rfl) (by kernel_rfl) (by kernel_rfl) (fun _ _ => (V_load1 rfl rfl (mem_at 0 rfl) rfl Tryd.underlying55 rfl)) ?_
 refine GH_take 4 rfl rfl rfl rfl (by kernel_rfl) (by kernel_rfl) (by kernel_rfl) (fun _ _ => (V_cap rfl rfl Tryd.underlying55 rfl)) ?_
 refine GH_take 5 rfl rfl rfl rfl (by kernel_rfl) (by kernel_rfl) (by kernel_rfl) (fun _ _ => (Val.int (e' := 0) (V_mul rfl rfl rfl) (rfl))) ?_
 refine GH_take 6 rfl rfl rfl rfl (by kernel_rfl) (by kernel_rfl) (by kernel_rfl) (fun _ _ => (V_move rfl rfl)) ?_
 refine GH_take 7 rfl rfl rfl rfl (by kernel_rfl) (by kernel_rfl) (by kernel_rfl) (fun _ _ => (Val.int (e' := (n : Int)) (V_add rfl rfl rfl) (show IntKind.i64.wrap ((0 : Int) + (n : Int)) = (n : Int) by rw [wrap_i64 (by omega)]; omega))) ?_
 refine GH_take 9 rfl rfl rfl rfl (by kernel_rfl) (by kernel_rfl) (by kernel_rfl) (fun _ _ => (V_move rfl rfl)) ?_
 first
   | refine GH_take 10 rfl rfl rfl rfl (by kernel_rfl) (by kernel_rfl) (by kernel_rfl) (fun _ _ => (V_nilCheck rfl rfl)) ?_
   | refine GH_take 10 rfl rfl rfl rfl (by kernel_rfl) (by kernel_rfl) (by kernel_rfl) (fun _ _ => (V_nilCheckF rfl rfl)) ?_
 refine GH_take 11 rfl rfl rfl rfl (by kernel_rfl) (by kernel_rfl) (by kernel_rfl) (fun _ _ => (V_fieldAddr (fo := 1) rfl Tryd.underlying57 rfl infRep_55 rfl rfl rfl)) ?_
 refine GH_take 12 rfl rfl rfl rfl (by kernel_rfl) (by kernel_rfl) (by kernel_rfl) (fun _ _ => (V_load1 rfl rfl (mem_at 0 rfl) rfl Tryd.underlying55 rfl)) ?_
 refine GH_take 13 rfl rfl rfl rfl (by kernel_rfl) (by kernel_rfl) (by kernel_rfl) (fun _ _ => (V_len rfl rfl Tryd.underlying55 rfl)) ?_
 refine GH_all [8] (by kernel_rfl) (by decide) ?_
 refine (And.intro ?_ trivial)
 · skip
   refine GHop_mnz (m := n) (ps := #[3]) rfl rfl rfl rfl rfl rfl Tryd.func69 (by kernel_rfl) (by kernel_rfl) (by kernel_rfl) (by kernel_rfl) Tryd.underlying55 (by omega) [1] (fun _ _ => ⟨_, rfl⟩) (fun b13 csb13 h1b13 h2b13 => ?_)
   refine GH_take 14 rfl rfl rfl rfl (by kernel_rfl) (by kernel_rfl) (by kernel_rfl) (fun _ _ => (V_sliceH rfl Tryd.underlying55 infRep_5 rfl rfl rfl (by first | omega | (simp; done) | (simp; omega) | (simp at *; omega)))) ?_
   refine GH_take 15 rfl rfl rfl rfl (by kernel_rfl) (by kernel_rfl) (by kernel_rfl) (fun _ _ => (V_assign rfl rfl)) ?_
   refine GH_done (by kernel_rfl) ?_
   refine G_seq ?_
   refine G_region (l := [0, 1, 2, 3, 4, 5]) rfl ?_
   refine G_val rfl rfl rfl rfl (V_move rfl rfl) ?_
   refine G_val rfl rfl rfl rfl (V_move rfl rfl) ?_
   first
     | refine G_val rfl rfl rfl rfl (V_nilCheck rfl rfl) ?_
     | refine G_val rfl rfl rfl rfl (V_nilCheckF rfl rfl) ?_
   refine G_val rfl rfl rfl rfl (V_fieldAddr (fo := 1) rfl Tryd.underlying57 rfl infRep_55 rfl rfl rfl) ?_
   refine G_val rfl rfl rfl rfl (V_load1 rfl rfl (mem_at 1 rfl) rfl Tryd.underlying55 rfl) ?_
   refine G_val rfl rfl rfl rfl (V_copy0 rfl rfl Tryd.underlying55 infRep_5 rfl rfl) ?_
   refine G_done ?_
   refine G_region (l := [0, 1, 2, 3, 4]) rfl ?_
   refine G_val rfl rfl rfl rfl (V_move rfl rfl) ?_
   refine G_val rfl rfl rfl rfl (V_move rfl rfl) ?_
   first
     | refine G_val rfl rfl rfl rfl (V_nilCheck rfl rfl) ?_
     | refine G_val rfl rfl rfl rfl (V_nilCheckF rfl rfl) ?_
   refine G_val rfl rfl rfl rfl (V_fieldAddr (fo := 1) rfl Tryd.underlying57 rfl infRep_55 rfl rfl rfl) ?_
   refine G_put (l1 := [_]) (L' := [_, _]) rfl rfl rfl rfl (P_store1 rfl rfl rfl (mem_at 1 rfl) (by first | exact of_decide_eq_true rfl | omega | (simp; done) | (simp; omega) | (simp at *; omega)) infRep_55 rfl rfl) rfl ?_
   refine G_done ?_
   refine G_end (post := [_, _]) Tryd.func61 rfl RVs_nil [1, 0] rfl ?_
   dsimp only [packed]
   exact ⟨rfl, ⟨some b13, csb13, (0, 0), csb13.size⟩, txt_room b13 csb13 n h1 h1b13 h2b13, rfl⟩

set_option maxRecDepth 100000 in
set_option maxHeartbeats 1000000 in
theorem bld_grow (b n : Nat) (h1 : 1 ≤ n) (h8 : n ≤ 100000000) :
    Ct Tryd.prog 53 [.pointer (some ⟨b, 0, none⟩), .int .i64 (n : Int)] [] [(some b, .cells #[.pointer none, .slice none 0 0] 57 (0, 0))] fun v post => v = .tuple #[] ∧ ∃ u1, Txt u1 [] ∧ post = [(some b, .cells #[.pointer (some ⟨b, 0, none⟩), u1.v 0] 57 (0, 0)), (u1.ob, .cells u1.cs 5 u1.fz)] := by
 refine ct_of Tryd.func53 rfl rfl (fun w0 => ?_)
 show G _ _ [(0, _), (1, _)] _ _
 refine G_seq ?_
 refine G_region (l := [0, 1]) rfl ?_
 refine G_val rfl rfl rfl rfl (V_move rfl rfl) ?_
 refine G_call (L2 := []) rfl rfl rfl rfl rfl rfl Tryd.call49 (copy_fresh b _ rfl) [0] [] rfl rfl ?_
 rintro v post ⟨rfl, rfl⟩
 show G _ _ _ [_] _
 refine G_done ?_
 refine G_seq ?_
 refine G_seq ?_
 refine G_region (l := [0, 1]) rfl ?_
 refine G_val rfl rfl rfl rfl (V_move rfl rfl) ?_
 refine G_val rfl rfl rfl rfl (V_lss rfl rfl rfl) ?_
 refine G_done ?_
 refine G_ifD rfl (fun hc1 => ?_) (fun hc1 => ?_)
 · (exfalso; omega)
 refine G_skip ?_
 refine G_seq ?_
 refine GH_start (Lq := [_]) (isq := [0]) (m := 13) mixedK rfl rfl ?_
 refine GH_take 0 rfl rfl rfl rfl (by kernel_rfl) (by kernel_rfl) (by kernel_rfl) (fun _ _ => (V_move rfl rfl)) ?_
 first
   | refine GH_take 1 rfl rfl rfl rfl (by kernel_rfl) (by kernel_rfl) (by kernel_rfl) (fun _ _ => (V_nilCheck rfl rfl)) ?_
   | refine GH_take 1 rfl rfl rfl rfl (by kernel_rfl) (by kernel_rfl) (by kernel_rfl) (fun _ _ => (V_nilCheckF rfl rfl)) ?_
 refine GH_take 2 rfl rfl rfl rfl (by kernel_rfl) (by kernel_rfl) (by kernel_rfl) (fun _ _ => (V_fieldAddr (fo := 1) rfl Tryd.underlying57 rfl infRep_55 rfl rfl rfl)) ?_
 refine GH_take 3 rfl rfl rfl rfl (by kernel_rfl) (by kernel_rfl) (by kernel_rfl) (fun _ _ => (V_load1 rfl rfl (mem_at 0 rfl) rfl Tryd.underlying55 rfl)) ?_
 refine GH_take 4 rfl rfl rfl rfl (by kernel_rfl) (by kernel_rfl) (by kernel_rfl) (fun _ _ => (V_cap rfl rfl Tryd.underlying55 rfl)) ?_
 refine GH_take 5 rfl rfl rfl rfl (by kernel_rfl) (by kernel_rfl) (by kernel_rfl) (fun _ _ => (V_move rfl rfl)) ?_
 first
   | refine GH_take 6 rfl rfl rfl rfl (by kernel_rfl) (by kernel_rfl) (by kernel_rfl) (fun _ _ => (V_nilCheck rfl rfl)) ?_
   | refine GH_take 6 rfl rfl rfl rfl (by kernel_rfl) (by kernel_rfl) (by kernel_rfl) (fun _ _ => (V_nilCheckF rfl rfl)) ?_
 refine GH_take 7 rfl rfl rfl rfl (by kernel_rfl) (by kernel_rfl) (by kernel_rfl) (fun _ _ => (V_fieldAddr (fo := 1) rfl Tryd.underlying57 rfl infRep_55 rfl rfl rfl)) ?_
 refine GH_take 8 rfl rfl rfl rfl (by kernel_rfl) (by kernel_rfl) (by kernel_rfl) (fun _ _ => (V_load1 rfl rfl (mem_at 0 rfl) rfl Tryd.underlying55 rfl)) ?_
 refine GH_take 9 rfl rfl rfl rfl (by kernel_rfl) (by kernel_rfl) (by kernel_rfl) (fun _ _ => (V_len rfl rfl Tryd.underlying55 rfl)) ?_
 first
   | refine GH_take 10 rfl rfl rfl rfl (by kernel_rfl) (by kernel_rfl) (by kernel_rfl) (fun _ _ => ((V_sub rfl rfl rfl).int (wrap_i64 (by omega)))) ?_
   | refine GH_take 10 rfl rfl rfl rfl (by kernel_rfl) (by kernel_rfl) (by kernel_rfl) (fun _ _ => (V_sub rfl rfl rfl)) ?_
 refine GH_take 11 rfl rfl rfl rfl (by kernel_rfl) (by kernel_rfl) (by kernel_rfl) (fun _ _ => (V_move rfl rfl)) ?_
 refine GH_take 12 rfl rfl rfl rfl (by kernel_rfl) (by kernel_rfl) (by kernel_rfl) (fun _ _ => (V_lss rfl rfl rfl)) ?_
 refine GH_done (by kernel_rfl) ?_
 refine G_ifD rfl (fun hc2 => ?_) (fun hc2 => ?_)
 rotate_left
 · (exfalso; omega)
 refine G_region (l := [0, 1, 2]) rfl ?_
 refine G_val rfl rfl rfl rfl (V_move rfl rfl) ?_
 refine G_val rfl rfl rfl rfl (V_move rfl rfl) ?_
 refine G_call (L2 := []) rfl rfl rfl rfl rfl rfl Tryd.call61 (bld_grow1 _ n (by omega) (by omega)) [0] [] rfl rfl ?_
 rintro v post ⟨rfl, u1, hu1, rfl⟩
 show G _ _ _ [_, _] _
 refine G_done ?_
 refine G_end (post := [_, _]) Tryd.func53 rfl RVs_nil [0, 0] rfl ?_
 dsimp only [packed]
 exact ⟨rfl, u1, hu1, rfl⟩


theorem rep_step (m k : Nat) (h : k ≤ m) : List.replicate m (0 : UInt8) ++ (List.replicate m (0 : UInt8)).take k = List.replicate (m + k) 0 := by
  rw [List.take_replicate, Nat.min_eq_left h, List.replicate_append_replicate]

end
end Go.Proofs.YtjnaeoelnmhjfaaDoor

/- Parts of slices: from a place on; with a third index. -/
set_option linter.unusedSimpArgs false
set_option linter.unusedVariables false
namespace Go.Proofs.YtjnaeoelnmhjfaaDoor
open Go Go.RowKit

section
variable {c : Cx} {n : Nat} {env : List (Nat × Value)} {L : List (Option Nat × Obj)} {o : Oper}
theorem V_sliceLHM {x xl xh xm : Operand} {t e : TypeId} {ti : TypeInfo} {s b off len cap lo hi mx : Nat} {q q' q'' : IntKind} {zl zh zm : Int} (hop : o.op = .slice t x (some xl) (some xh) (some xm)) (hu : c.P.underlying t = some (.slice e)) (hs : c.P.info? e = some ti) (hsz : ti.size = s) (hx : fev env x = some (.slice (some ⟨b, off, none⟩) len cap))
    (hl : fev env xl = some (.int q zl)) (hh : fev env xh = some (.int q' zh)) (hm : fev env xm = some (.int q'' zm)) (el : zl = (lo : Int)) (eh : zh = (hi : Int)) (em : zm = (mx : Int)) (h1 : lo ≤ hi) (h2 : hi ≤ mx) (h3 : mx ≤ cap) : Val c n env L o (.slice (some ⟨b, if mx = lo then off else off + lo * s, none⟩) (hi - lo) (mx - lo)) := fun a w hk _ => by
  subst el eh em hsz
  have e0 : (0 : Int) ≤ (mx : Int) ∧ (mx : Int) ≤ (cap : Int) := by omega
  have e1 : (0 : Int) ≤ (hi : Int) ∧ (hi : Int) ≤ (mx : Int) := by omega
  have e2 : (0 : Int) ≤ (lo : Int) ∧ (lo : Int) ≤ (hi : Int) := by omega
  simp only [execOp, hop, hk.eval hx, hk.eval hl, hk.eval hh, hk.eval hm, Option.map_some, Option.map_none, Instr.sliceAt, Instr.slice, run_underlying hu, Instr.sliceBounds, Instr.sliceBound, asIntOf, Sem.run_bind, Sem.run_pure, Result.andThen_ok, if_pos e0, if_pos e1, if_pos e2, sizeOf, typeInfo, run_program, hs, Int.toNat_natCast, Option.isSome_none, Option.isSome_some, Bool.false_eq_true, if_false, if_true]
  by_cases h : mx = lo
  · simp [h]
  · simp [h, Addr.add_lit]
theorem V_sliceLo {x xl : Operand} {t e : TypeId} {ti : TypeInfo} {s b off len cap lo : Nat} {q : IntKind} {zl : Int} (hop : o.op = .slice t x (some xl) none none) (hu : c.P.underlying t = some (.slice e)) (hs : c.P.info? e = some ti) (hsz : ti.size = s) (hx : fev env x = some (.slice (some ⟨b, off, none⟩) len cap))
    (hl : fev env xl = some (.int q zl)) (el : zl = (lo : Int)) (h1 : lo ≤ len) (h2 : len ≤ cap) : Val c n env L o (.slice (some ⟨b, if cap = lo then off else off + lo * s, none⟩) (len - lo) (cap - lo)) := fun a w hk _ => by
  subst el hsz
  have e1 : (0 : Int) ≤ (len : Int) ∧ (len : Int) ≤ (cap : Int) := by omega
  have e2 : (0 : Int) ≤ (lo : Int) ∧ (lo : Int) ≤ (len : Int) := by omega
  simp only [execOp, hop, hk.eval hx, hk.eval hl, Option.map_some, Option.map_none, Instr.sliceAt, Instr.slice, run_underlying hu, Instr.sliceBounds, Instr.sliceBound, asIntOf, Sem.run_bind, Sem.run_pure, Result.andThen_ok, if_pos e1, if_pos e2, sizeOf, typeInfo, run_program, hs, Int.toNat_natCast, Option.isSome_none, Bool.false_eq_true, if_false, if_true]
  by_cases h : cap = lo
  · simp [h]
  · simp [h, Addr.add_lit]
end
end Go.Proofs.YtjnaeoelnmhjfaaDoor
