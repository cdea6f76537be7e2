/- What the law ScriptSends needs, part 3. -/
import Derived.Test.YtkekkalgebgokaaPkScriptSends1
import Derived.Test.YtkekkalgebgokaaPkScriptSends2


/- The bytes of a text as a slice of its own; stores into a row of which something is frozen. -/
set_option linter.unusedSimpArgs false
set_option linter.unusedVariables false
namespace Go.Proofs.Ytkekkalgebgokaa
open Go Go.RowKit

section
variable {c : Cx} {n : Nat} {env : List (Nat × Value)} {L : List (Option Nat × Obj)} {k : List Item} {o : Oper}

/-- '[]byte(s)': a new row, whose first cells are the text's bytes. -/
theorem G_bytesOf {ops : Array Oper} {i : Nat} {rest : List Nat} {d : Nat} {x : Operand} {t u e : TypeId} {l : List UInt8} (ho : ops[i]? = some o) (hd : o.dst = some d) (hn : Nat.blt d n = true) (hg : fguard ops env o = some true)
    (hop : o.op = .convert t u x) (ht : c.P.underlying t = some .string) (hu : c.P.underlying u = some (.slice e)) (he : c.P.underlying e = some (.int .u8)) (hx : fev env x = some (.string (bs l))) (hl : l.length ≤ 9223372036854775807)
    (h : ∀ b (cs : Array Value), l.length ≤ cs.size → cs.size ≤ 9223372036854775807 → cs.toList.take l.length = bcells l → G c n ((d, .slice (some ⟨b, 0, none⟩) l.length cs.size) :: env) ((some b, .cells cs e (cs.size, cs.size + 1)) :: L) (.inRegion ops rest :: k)) :
    G c n env L (.inRegion ops (i :: rest) :: k) := by
  intro a w hk hm
  refine goes_op ho (wanted_of hk hg) ?_
  have hr := run_bytes_of_string (P := c.P) w t u e (bs l) ht hu he
  have hge := grownCap_ge w l.length 0 e
  have hcm := grownCap_le_maxLen w l.length 0 e (by unfold maxLen; omega)
  unfold maxLen at hcm
  rw [bs_size] at hr
  generalize hK : grownCap w l.length 0 e = K at hr hge hcm
  have hsz : (bytesRow (bs l) K).size = K := by
    unfold bytesRow
    rw [Array.size_append, Array.size_map, Array.size_replicate, show (bs l).data.size = l.length by simp [bs], bs_size]
    omega
  have htk : (bytesRow (bs l) K).toList.take l.length = bcells l := by
    unfold bytesRow
    rw [Array.toList_append, List.take_append_of_le_length (by simp [bs]), Array.toList_map]
    rw [List.take_of_length_le (by simp [bs])]
    simp [bs, bcells]
  have hrun : (execOp a.eval o).run c.P w = .ok (.value (.slice (some ⟨w.heap.size, 0, none⟩) l.length K)) (w.drew.alloc (.cells (bytesRow (bs l) K) e (K, K + 1))) := by
    simp only [execOp, hop, hk.eval hx]
    rw [Sem.run_bind, hr, hsz]
    rfl
  rw [hrun, Oper.upon_value, hd]
  have hm' := (hm.drew (w.drawn + 1)).alloc (.cells (bytesRow (bs l) K) e (K, K + 1))
  have := h w.heap.size (bytesRow (bs l) K) (by omega) (by omega) htk
  rw [hsz] at this
  exact this _ _ (hk.put hn _) hm'

/-- A store into a place ahead of what is frozen. -/
theorem P_store1F {x y : Operand} {t T : TypeId} {b off : Nat} {cs : Array Value} {fr : Nat × Nat} {ti : TypeInfo} {v : Value} (hop : o.op = .store t x y) (hx : fev env x = some (.pointer (some ⟨b, off, none⟩))) (hy : fev env y = some v) (hm : (some b, Obj.cells cs T fr) ∈ L) (hoff : off < cs.size) (hfr : off < fr.1)
    (hs : c.P.info? t = some ti) (h1 : ti.size = 1) (hv : v.oneCell' = true) : Put c n env L o b (.cells (cs.setIfInBounds off v) T fr) := fun a w hk hmm => by
  have hw := hmm.lies hm
  have hc : w.cell? ⟨b, off, none⟩ = some cs[off] := by rw [cell_of_row w b off cs T fr hw]; simp [hoff]
  have hf : w.frozen? ⟨b, off, none⟩ = false := by
    obtain ⟨lo, hi⟩ := fr
    simp only [World.frozen?, hw]
    rw [decide_eq_false (show ¬ lo ≤ off by simp only at hfr; omega)]
    rfl
  have hcells : v.cells = #[v] := by cases v <;> first | rfl | simp [Value.oneCell'] at hv
  have hsame : (w.setCell ⟨b, off, none⟩ v).heap[b]? = some (.cells (cs.setIfInBounds off v) T fr) := by
    rw [setCell_eq_setRow w b off cs T fr v hw]
    exact setRow_heap w b cs _ T _ hw
  refine ⟨w.setCell ⟨b, off, none⟩ v, ?_, rfl, rfl, rfl, by simp, hsame, fun k hne => heap_setCell_other w _ k v hne⟩
  have hst : (storeVar t ⟨b, off, none⟩ v).run c.P w = .ok () (w.setCell ⟨b, off, none⟩ v) := by
    simp [storeVar, sizeOf, typeInfo, hs, h1, hcells, storeCells, Addr.add_zero', run_store _ _ _ _ _ hv, hc, hf]
  simp [execOp, hop, hk.eval hx, hk.eval hy, Instr.storeAt, Instr.sureAddr, hst]
end

/-- The cells of a row whose first ones are some bytes, one of them turned. -/
theorem bytes_set {cs : Array Value} {l : List UInt8} (h : cs.toList.take l.length = bcells l) {j : Nat} (hj : j < l.length) (hl : l.length ≤ cs.size) (v : UInt8) :
    (cs.setIfInBounds j (.int .u8 (v.toNat : Int))).toList.take (l.set j v).length = bcells (l.set j v) := by
  rw [Array.toList_setIfInBounds, List.length_set, List.take_set, h]
  unfold bcells
  rw [List.map_set]
theorem bytes_at {cs : Array Value} {l : List UInt8} (h : cs.toList.take l.length = bcells l) {j : Nat} {v : UInt8} (hv : l[j]? = some v) : cs[j]? = some (.int .u8 (v.toNat : Int)) := by
  have hj : j < l.length := (List.getElem?_eq_some_iff.1 hv).1
  have h1 : (cs.toList.take l.length)[j]? = (bcells l)[j]? := by rw [h]
  rw [List.getElem?_take, if_pos hj] at h1
  have h2 : (bcells l)[j]? = some (.int .u8 (v.toNat : Int)) := by unfold bcells; rw [List.getElem?_map, hv]; rfl
  rw [h2] at h1
  simpa using h1
end Go.Proofs.Ytkekkalgebgokaa

/- The address of an array's element. No program in sight. -/
set_option linter.unusedSimpArgs false
set_option linter.unusedVariables false
namespace Go.Proofs.Ytkekkalgebgokaa
open Go Go.RowKit

section
variable {c : Cx} {n : Nat} {env : List (Nat × Value)} {L : List (Option Nat × Obj)} {o : Oper}
theorem V_aindexAddr {x y : Operand} {t e : TypeId} {m : Nat} {ti : TypeInfo} {q : IntKind} {b off s : Nat} {z : Int} (hop : o.op = .indexAddr t x y) (hu : c.P.underlying t = some (.array m e)) (hs : c.P.info? e = some ti) (hz : ti.size = s) (hx : fev env x = some (.pointer (some ⟨b, off, none⟩))) (hy : fev env y = some (.int q z)) (h0 : 0 ≤ z) (h1 : z < (m : Int)) :
    Val c n env L o (.pointer (some ⟨b, off + z.toNat * s, none⟩)) := fun a w hk _ => by
  subst hz
  simp [execOp, hop, hk.eval hx, hk.eval hy, Instr.indexAt, run_underlying hu, asIntOf, h0, h1, sizeOf, typeInfo, hs, Addr.add_lit, Instr.sureAddr]
end
end Go.Proofs.Ytkekkalgebgokaa

/- The walks of layer 40: which events may be, and each as bytes; the program's and the document's. -/
set_option linter.unusedSimpArgs false
set_option linter.unusedVariables false
namespace Go.Proofs.Ytkekkalgebgokaa
open Go Go.RowKit

section
theorem infScriptW_3 : Try.prog.info? 3 = some Try.t3 := by kernel_rfl
theorem infScriptW_9 : Try.prog.info? 9 = some Try.t9 := by kernel_rfl
theorem infScriptW_56 : Try.prog.info? 56 = some Try.t56 := by kernel_rfl
theorem infScriptW_151 : Try.prog.info? 151 = some Try.t151 := by kernel_rfl

set_option maxRecDepth 100000 in
set_option maxHeartbeats 1000000 in
theorem sc_fields (k : Int) :
    Ct Try.prog 75 [.int .i64 k] [] [] fun v post => v = .string (bs (fieldsE k)) ∧ post = [] := by
 refine ct_of Try.func75 rfl rfl (fun w0 => ?_)
 show G _ _ [(0, _)] _ _
 refine G_seq ?_
 refine G_region (l := [0]) rfl ?_
 refine G_val rfl rfl rfl rfl (V_assign rfl rfl) ?_
 refine G_done ?_
 refine G_seq ?_
 refine G_seq ?_
 refine G_region (l := [0]) rfl ?_
 refine G_val rfl rfl rfl rfl (V_move rfl rfl) ?_
 refine G_done ?_
 refine G_block ?_
 refine G_seq ?_
 refine G_region (l := [0, 1]) rfl ?_
 refine G_val rfl rfl rfl rfl (V_eql rfl rfl rfl) ?_
 refine G_val rfl rfl rfl rfl (V_assign rfl rfl) ?_
 refine G_done ?_
 refine G_ifD rfl (fun hc1 => ?_) (fun hc1 => ?_)
 · skip
   refine G_seq ?_
   refine G_region (l := [0]) rfl ?_
   refine G_val rfl rfl rfl rfl (V_assign rfl rfl) ?_
   refine G_done ?_
   refine G_ret (post := []) Try.func75 rfl (RVs_cons (RV_tmp rfl) RVs_nil) [] rfl ?_
   dsimp only [packed]
   refine ⟨str_eq ?_, rfl⟩; unfold fieldsE; simp [*]
 refine G_seq ?_
 refine G_region (l := [0, 1]) rfl ?_
 refine G_val rfl rfl rfl rfl (V_eql rfl rfl rfl) ?_
 refine G_val rfl rfl rfl rfl (V_assign rfl rfl) ?_
 refine G_done ?_
 refine G_ifD rfl (fun hc2 => ?_) (fun hc2 => ?_)
 · skip
   refine G_seq ?_
   refine G_region (l := [0]) rfl ?_
   refine G_val rfl rfl rfl rfl (V_assign rfl rfl) ?_
   refine G_done ?_
   refine G_ret (post := []) Try.func75 rfl (RVs_cons (RV_tmp rfl) RVs_nil) [] rfl ?_
   dsimp only [packed]
   refine ⟨str_eq ?_, rfl⟩; unfold fieldsE; simp [*]
 refine G_seq ?_
 refine G_region (l := [0, 1]) rfl ?_
 refine G_val rfl rfl rfl rfl (V_eql rfl rfl rfl) ?_
 refine G_val rfl rfl rfl rfl (V_assign rfl rfl) ?_
 refine G_done ?_
 refine G_ifD rfl (fun hc3 => ?_) (fun hc3 => ?_)
 · skip
   refine G_seq ?_
   refine G_region (l := [0]) rfl ?_
   refine G_val rfl rfl rfl rfl (V_assign rfl rfl) ?_
   refine G_done ?_
   refine G_ret (post := []) Try.func75 rfl (RVs_cons (RV_tmp rfl) RVs_nil) [] rfl ?_
   dsimp only [packed]
   refine ⟨str_eq ?_, rfl⟩; unfold fieldsE; simp [*]
 refine G_skip ?_
 refine G_inBlock ?_
 refine G_seq ?_
 refine G_region (l := [0]) rfl ?_
 refine G_val rfl rfl rfl rfl (V_assign rfl rfl) ?_
 refine G_done ?_
 refine G_ret (post := []) Try.func75 rfl (RVs_cons (RV_tmp rfl) RVs_nil) [] rfl ?_
 dsimp only [packed]
 refine ⟨str_eq ?_, rfl⟩; unfold fieldsE; simp [*]

set_option maxRecDepth 100000 in
set_option maxHeartbeats 1000000 in
theorem sl_indexByte (l : List UInt8) (x : UInt8) :
    Ct Try.prog 166 [.string (bs l), .int .u8 (x.toNat : Int)] [] [] fun v post => v = .int .i64 (Lib.indexByte l x) ∧ post = [] := by
 refine ct_of Try.func166 rfl rfl (fun w0 => ?_)
 show G _ _ [(0, _), (1, _)] _ _
 refine G_seq ?_
 refine G_region (l := [0]) rfl ?_
 refine G_val rfl rfl rfl rfl (V_assign rfl rfl) ?_
 refine G_done ?_
 refine G_seq ?_
 refine G_region (l := [0, 1, 2, 3]) rfl ?_
 refine G_val rfl rfl rfl rfl (V_move rfl rfl) ?_
 refine G_val rfl rfl rfl rfl (V_move rfl rfl) ?_
 refine G_val rfl rfl rfl rfl (V_extern (ev := Extern.BytealgIndexByte.indexByte) rfl rfl Try.func175 (by kernel_rfl) (by kernel_rfl) (by kernel_rfl) (by kernel_rfl) (fun w => ext_indexByte l x w)) ?_
 refine G_val rfl rfl rfl rfl (V_assign rfl rfl) ?_
 refine G_done ?_
 refine G_ret (post := []) Try.func166 rfl (RVs_cons (RV_tmp rfl) RVs_nil) [] rfl ?_
 dsimp only [packed]
 exact ⟨rfl, rfl⟩

set_option maxRecDepth 100000 in
set_option maxHeartbeats 1000000 in
theorem sl_index1 (l : List UInt8) (x : UInt8) :
    Ct Try.prog 150 [.string (bs l), .string (bs [x])] [] [] fun v post => v = .int .i64 (Lib.indexByte l x) ∧ post = [] := by
 refine ct_of Try.func150 rfl rfl (fun w0 => ?_)
 show G _ _ [(0, _), (1, _)] _ _
 refine G_seq ?_
 refine G_region (l := [0]) rfl ?_
 refine G_val rfl rfl rfl rfl (V_assign rfl rfl) ?_
 refine G_done ?_
 refine G_seq ?_
 refine G_region (l := [0, 1, 2]) rfl ?_
 refine G_val rfl rfl rfl rfl (V_move rfl rfl) ?_
 refine G_val rfl rfl rfl rfl (V_slen rfl rfl Try.underlying9 rfl) ?_
 refine G_val rfl rfl rfl rfl (V_assign rfl rfl) ?_
 refine G_done ?_
 refine G_seq ?_
 refine G_block ?_
 refine G_seq ?_
 refine G_region (l := [0, 1, 2, 3, 4, 5, 6, 7]) rfl ?_
 refine G_val rfl rfl rfl rfl (V_move rfl rfl) ?_
 refine G_val rfl rfl rfl rfl (V_eql rfl rfl rfl) ?_
 refine G_val rfl rfl rfl rfl (V_move rfl rfl) ?_
 refine G_splitD 19 rfl (fun hc1 => ?_) (fun hc1 => ?_)
 · (first | contradiction | (exact absurd rfl hc1) | (exfalso; omega) | (simp at hc1; done) | (exact absurd hc1 (by decide)) | (exact absurd (by decide) hc1))
 refine G_val rfl rfl rfl rfl (V_move rfl rfl) ?_
 refine G_val rfl rfl rfl rfl (V_move rfl rfl) ?_
 refine G_val rfl rfl rfl rfl (V_seql rfl rfl rfl) ?_
 refine G_val rfl rfl rfl rfl (V_pickF rfl rfl rfl) ?_
 refine G_val rfl rfl rfl rfl (V_assign rfl rfl) ?_
 refine G_done ?_
 refine G_ifD rfl (fun hc2 => ?_) (fun hc2 => ?_)
 · skip
   refine G_seq ?_
   refine G_region (l := [0]) rfl ?_
   refine G_val rfl rfl rfl rfl (V_assign rfl rfl) ?_
   refine G_done ?_
   refine G_ret (post := []) Try.func150 rfl (RVs_cons (RV_tmp rfl) RVs_nil) [] rfl ?_
   dsimp only [packed]
   first
     | exact ⟨rfl, rfl⟩
     | (obtain rfl : l = [x] := by first | assumption | exact (by assumption : [x] = l).symm
        exact ⟨int_eq (by simp [Lib.indexByte]), rfl⟩)
 refine G_seq ?_
 refine G_region (l := [0, 1, 2]) rfl ?_
 refine G_val rfl rfl rfl rfl (V_move rfl rfl) ?_
 refine G_val rfl rfl rfl rfl (V_eql rfl rfl rfl) ?_
 refine G_val rfl rfl rfl rfl (V_assign rfl rfl) ?_
 refine G_done ?_
 refine G_ifD rfl (fun hc3 => ?_) (fun hc3 => ?_)
 rotate_left
 · (first | contradiction | (exact absurd rfl hc3) | (exfalso; omega) | (simp at hc3; done) | (exact absurd hc3 (by decide)) | (exact absurd (by decide) hc3))
 refine G_seq ?_
 refine G_region (l := [0, 1, 2, 3, 4]) rfl ?_
 refine G_val rfl rfl rfl rfl (V_move rfl rfl) ?_
 refine G_val rfl rfl rfl rfl (V_move rfl rfl) ?_
 first
   | refine G_val rfl rfl rfl rfl (V_sindexN rfl Try.underlying9 rfl rfl rfl (by omega)) ?_
   | refine G_val rfl rfl rfl rfl (V_sindexD rfl Try.underlying9 rfl rfl (by omega) (by first | omega | (simp [evC, evV, kC]; done) | (simp [evC, evV, kC]; omega) | (simp [evC, evV, kC] at *; omega))) ?_
 refine G_call (L2 := []) rfl rfl rfl rfl rfl rfl Try.call166 (sl_indexByte _ _) [] [] rfl rfl ?_
 rintro v post ⟨rfl, rfl⟩
 refine G_val rfl rfl rfl rfl (V_assign rfl rfl) ?_
 refine G_done ?_
 refine G_ret (post := []) Try.func150 rfl (RVs_cons (RV_tmp rfl) RVs_nil) [] rfl ?_
 dsimp only [packed]
 first
   | exact ⟨rfl, rfl⟩
   | (obtain rfl : l = [x] := by first | assumption | exact (by assumption : [x] = l).symm
      exact ⟨int_eq (by simp [Lib.indexByte]), rfl⟩)

set_option maxRecDepth 100000 in
set_option maxHeartbeats 1000000 in
theorem st_index1 (l : List UInt8) (x : UInt8) :
    Ct Try.prog 127 [.string (bs l), .string (bs [x])] [] [] fun v post => v = .int .i64 (Lib.indexByte l x) ∧ post = [] := by
 refine ct_of Try.func127 rfl rfl (fun w0 => ?_)
 show G _ _ [(0, _), (1, _)] _ _
 refine G_seq ?_
 refine G_region (l := [0]) rfl ?_
 refine G_val rfl rfl rfl rfl (V_assign rfl rfl) ?_
 refine G_done ?_
 refine G_seq ?_
 refine G_region (l := [0, 1, 2, 3]) rfl ?_
 refine G_val rfl rfl rfl rfl (V_move rfl rfl) ?_
 refine G_val rfl rfl rfl rfl (V_move rfl rfl) ?_
 refine G_call (L2 := []) rfl rfl rfl rfl rfl rfl Try.call150 (sl_index1 _ _) [] [] rfl rfl ?_
 rintro v post ⟨rfl, rfl⟩
 refine G_val rfl rfl rfl rfl (V_assign rfl rfl) ?_
 refine G_done ?_
 refine G_ret (post := []) Try.func127 rfl (RVs_cons (RV_tmp rfl) RVs_nil) [] rfl ?_
 dsimp only [packed]
 exact ⟨rfl, rfl⟩

set_option maxRecDepth 100000 in
set_option maxHeartbeats 1000000 in
theorem st_contains1 (l : List UInt8) (x : UInt8) :
    Ct Try.prog 74 [.string (bs l), .string (bs [x])] [] [] fun v post => v = .bool (decide (0 ≤ Lib.indexByte l x)) ∧ post = [] := by
 refine ct_of Try.func74 rfl rfl (fun w0 => ?_)
 show G _ _ [(0, _), (1, _)] _ _
 refine G_seq ?_
 refine G_region (l := [0]) rfl ?_
 refine G_val rfl rfl rfl rfl (V_assign rfl rfl) ?_
 refine G_done ?_
 refine G_seq ?_
 refine G_region (l := [0, 1, 2, 3, 4]) rfl ?_
 refine G_val rfl rfl rfl rfl (V_move rfl rfl) ?_
 refine G_val rfl rfl rfl rfl (V_move rfl rfl) ?_
 refine G_call (L2 := []) rfl rfl rfl rfl rfl rfl Try.call127 (st_index1 _ _) [] [] rfl rfl ?_
 rintro v post ⟨rfl, rfl⟩
 refine G_val rfl rfl rfl rfl (V_geq rfl rfl rfl) ?_
 refine G_val rfl rfl rfl rfl (V_assign rfl rfl) ?_
 refine G_done ?_
 refine G_ret (post := []) Try.func74 rfl (RVs_cons (RV_tmp rfl) RVs_nil) [] rfl ?_
 dsimp only [packed]
 exact ⟨rfl, rfl⟩

set_option maxRecDepth 100000 in
set_option maxHeartbeats 1000000 in
theorem sc_wrong (x : Int × Int) :
    Ct Try.prog 77 [.agg (kC x).toArray] [] [] fun v post => v = .bool (badK x) ∧ post = [] := by
 refine ct_of Try.func77 rfl rfl (fun w0 => ?_)
 show G _ _ [(0, _)] _ _
 refine G_seq ?_
 refine G_region (l := [0, 1]) rfl ?_
 refine G_new rfl rfl rfl rfl (N_boxA rfl rfl) (fun b1 => ?_)
 refine G_val rfl rfl rfl rfl (V_assign rfl rfl) ?_
 refine G_done ?_
 refine G_seq ?_
 refine G_region (l := [0, 1, 2, 3, 4, 5, 6, 7, 8, 9, 10, 11, 12, 13, 14, 15, 16, 17, 18]) rfl ?_
 refine G_val rfl rfl rfl rfl (V_fieldAddr (fo := 0) rfl Try.underlying151 rfl infScriptW_3 rfl rfl rfl) ?_
 refine G_val rfl rfl rfl rfl (V_load1 rfl rfl (mem_at 0 rfl) rfl Try.underlying3 rfl) ?_
 refine G_val rfl rfl rfl rfl (V_lss rfl rfl rfl) ?_
 refine G_val rfl rfl rfl rfl (V_move rfl rfl) ?_
 refine G_splitD 6 rfl (fun hc1 => ?_) (fun hc1 => ?_)
 · skip
   refine G_off rfl rfl rfl rfl ?_
   refine G_off rfl rfl rfl rfl ?_
   refine G_off rfl rfl rfl rfl ?_
   refine G_val rfl rfl rfl rfl (V_pickT rfl rfl rfl) ?_
   refine G_val rfl rfl rfl rfl (V_move rfl rfl) ?_
   refine G_off rfl rfl rfl rfl ?_
   refine G_off rfl rfl rfl rfl ?_
   refine G_off rfl rfl rfl rfl ?_
   refine G_val rfl rfl rfl rfl (V_pickT rfl rfl rfl) ?_
   refine G_val rfl rfl rfl rfl (V_move rfl rfl) ?_
   refine G_off rfl rfl rfl rfl ?_
   refine G_off rfl rfl rfl rfl ?_
   refine G_off rfl rfl rfl rfl ?_
   refine G_val rfl rfl rfl rfl (V_pickT rfl rfl rfl) ?_
   refine G_val rfl rfl rfl rfl (V_assign rfl rfl) ?_
   refine G_done ?_
   refine G_ret (post := []) Try.func77 rfl (RVs_cons (RV_tmp rfl) RVs_nil) [] rfl ?_
   dsimp only [packed]
   refine ⟨bool_eq ?_, rfl⟩; unfold badK; first | exact (decide_eq_true (by omega)).symm | exact (decide_eq_false (by omega)).symm | exact decide_eq_decide.2 (by omega)
 refine G_val rfl rfl rfl rfl (V_fieldAddr (fo := 0) rfl Try.underlying151 rfl infScriptW_3 rfl rfl rfl) ?_
 refine G_val rfl rfl rfl rfl (V_load1 rfl rfl (mem_at 0 rfl) rfl Try.underlying3 rfl) ?_
 refine G_val rfl rfl rfl rfl (V_gtr rfl rfl rfl) ?_
 refine G_val rfl rfl rfl rfl (V_pickF rfl rfl rfl) ?_
 refine G_val rfl rfl rfl rfl (V_move rfl rfl) ?_
 refine G_splitD 11 rfl (fun hc2 => ?_) (fun hc2 => ?_)
 · skip
   refine G_off rfl rfl rfl rfl ?_
   refine G_off rfl rfl rfl rfl ?_
   refine G_off rfl rfl rfl rfl ?_
   refine G_val rfl rfl rfl rfl (V_pickT rfl rfl rfl) ?_
   refine G_val rfl rfl rfl rfl (V_move rfl rfl) ?_
   refine G_off rfl rfl rfl rfl ?_
   refine G_off rfl rfl rfl rfl ?_
   refine G_off rfl rfl rfl rfl ?_
   refine G_val rfl rfl rfl rfl (V_pickT rfl rfl rfl) ?_
   refine G_val rfl rfl rfl rfl (V_assign rfl rfl) ?_
   refine G_done ?_
   refine G_ret (post := []) Try.func77 rfl (RVs_cons (RV_tmp rfl) RVs_nil) [] rfl ?_
   dsimp only [packed]
   refine ⟨bool_eq ?_, rfl⟩; unfold badK; first | exact (decide_eq_true (by omega)).symm | exact (decide_eq_false (by omega)).symm | exact decide_eq_decide.2 (by omega)
 refine G_val rfl rfl rfl rfl (V_fieldAddr (fo := 1) rfl Try.underlying151 rfl infScriptW_3 rfl rfl rfl) ?_
 refine G_val rfl rfl rfl rfl (V_load1 rfl rfl (mem_at 0 rfl) rfl Try.underlying3 rfl) ?_
 refine G_val rfl rfl rfl rfl (V_lss rfl rfl rfl) ?_
 refine G_val rfl rfl rfl rfl (V_pickF rfl rfl rfl) ?_
 refine G_val rfl rfl rfl rfl (V_move rfl rfl) ?_
 refine G_splitD 16 rfl (fun hc3 => ?_) (fun hc3 => ?_)
 · skip
   refine G_off rfl rfl rfl rfl ?_
   refine G_off rfl rfl rfl rfl ?_
   refine G_off rfl rfl rfl rfl ?_
   refine G_val rfl rfl rfl rfl (V_pickT rfl rfl rfl) ?_
   refine G_val rfl rfl rfl rfl (V_assign rfl rfl) ?_
   refine G_done ?_
   refine G_ret (post := []) Try.func77 rfl (RVs_cons (RV_tmp rfl) RVs_nil) [] rfl ?_
   dsimp only [packed]
   refine ⟨bool_eq ?_, rfl⟩; unfold badK; first | exact (decide_eq_true (by omega)).symm | exact (decide_eq_false (by omega)).symm | exact decide_eq_decide.2 (by omega)
 refine G_val rfl rfl rfl rfl (V_fieldAddr (fo := 1) rfl Try.underlying151 rfl infScriptW_3 rfl rfl rfl) ?_
 refine G_val rfl rfl rfl rfl (V_load1 rfl rfl (mem_at 0 rfl) rfl Try.underlying3 rfl) ?_
 refine G_val rfl rfl rfl rfl (V_gtr rfl rfl rfl) ?_
 refine G_val rfl rfl rfl rfl (V_pickF rfl rfl rfl) ?_
 refine G_val rfl rfl rfl rfl (V_assign rfl rfl) ?_
 refine G_done ?_
 refine G_ret (post := []) Try.func77 rfl (RVs_cons (RV_tmp rfl) RVs_nil) [] rfl ?_
 dsimp only [packed]
 refine ⟨bool_eq ?_, rfl⟩; unfold badK; first | exact (decide_eq_true (by omega)).symm | exact (decide_eq_false (by omega)).symm | exact decide_eq_decide.2 (by omega)

set_option maxRecDepth 100000 in
set_option maxHeartbeats 1000000 in
theorem sc_indexK (o1 : Option Nat) (p1 q1 : Nat) (c1 : Array Value) (T1 : TypeId) (f1 : Nat × Nat) (ks : List (Int × Int)) (h1 : Sees 2 o1 p1 q1 c1 (ks.flatMap kC) ks.length) :
    Ct Try.prog 128 [sv o1 p1 ks.length q1, .func (.func 77) #[] #[]] [(o1, .cells c1 T1 f1)] [] fun v post => (∃ z, v = .int .i64 z ∧ decide (0 ≤ z) = ks.any badK) ∧ post = [] := by
 have hl1 := h1.le
 have hl2 := h1.max
 refine ct_of Try.func128 rfl rfl (fun w0 => ?_)
 show G _ _ [(0, _), (1, _)] _ _
 refine G_seq ?_
 refine G_region (l := [0]) rfl ?_
 refine G_val rfl rfl rfl rfl (V_assign rfl rfl) ?_
 refine G_done ?_
 refine G_seq ?_
 refine G_seq ?_
 refine G_region (l := [0, 1, 2]) rfl ?_
 refine G_val rfl rfl rfl rfl (V_move rfl rfl) ?_
 refine G_val rfl rfl rfl rfl (V_len rfl rfl Try.underlying56 rfl) ?_
 refine G_val rfl rfl rfl rfl (V_move rfl rfl) ?_
 refine G_done ?_
 refine G_block ?_
 refine G_sub ?he2 [] ?hl2 (G_loop (X := Nat) (fun i => i ≤ ks.length ∧ (ks.take i).any badK = false) (fun i => ks.length - i) (fun i => [(0, sv o1 p1 ks.length q1), (1, .func (.func 77) #[] #[]), (7, .int .i64 (ks.length : Int)), (8, .int .i64 (i : Int))]) (fun i => []) ?round2 0 ?h02)
 case he2 => exact (And.intro rfl (And.intro rfl (And.intro rfl (And.intro rfl trivial))))
 case hl2 => exact ⟨_, rfl⟩
 case h02 => exact ⟨Nat.zero_le _, rfl⟩
 case round2 =>
  intro i hJ ih
  try dsimp only at hJ ih
  obtain ⟨hi, ht⟩ := hJ
  refine G_seq ?_
  refine G_region (l := [0]) rfl ?_
  refine G_val rfl rfl rfl rfl (V_lss rfl rfl rfl) ?_
  refine G_done ?_
  refine G_seq ?_
  refine G_ifD rfl (fun hc1 => ?_) (fun hc1 => ?_)
  · skip
    refine G_skip ?_
    refine G_seq ?_
    refine G_block ?_
    refine G_seq ?_
    refine G_region (l := [0, 1]) rfl ?_
    refine G_val rfl rfl rfl rfl (V_move rfl rfl) ?_
    refine G_val rfl rfl rfl rfl (V_assign rfl rfl) ?_
    refine G_done ?_
    refine G_seq ?_
    obtain ⟨x, hx⟩ := getI (show i < ks.length by omega)
    obtain ⟨b1, rfl⟩ := h1.isSome (by omega)
    refine G_region (l := [0, 1, 2, 3, 4, 5]) rfl ?_
    refine G_val rfl rfl rfl rfl (V_move rfl rfl) ?_
    refine G_val rfl rfl rfl rfl (V_move rfl rfl) ?_
    refine G_val rfl rfl rfl rfl (V_move rfl rfl) ?_
    first
      | refine G_val rfl rfl rfl rfl (V_indexAddrN (s := 2) rfl Try.underlying56 infScriptW_151 rfl rfl rfl rfl (by omega)) ?_
      | refine G_val rfl rfl rfl rfl (V_indexAddr (s := 2) rfl Try.underlying56 infScriptW_151 rfl rfl rfl (by omega) (by first | omega | (simp [evC, evV, kC]; done) | (simp [evC, evV, kC]; omega) | (simp [evC, evV, kC] at *; omega))) ?_
    refine G_val rfl rfl rfl rfl (V_loadA (s := 2) (vs := (kC x).toArray) rfl rfl (mem_at 0 rfl) Try.underlying151 rfl infScriptW_151 rfl (h1.elem kC_len hx) (by first | rfl | (simp [bcells_length, evC, evV, kC]; done) | (simp [bcells_length, evC, evV, kC]; omega) | (simp [bcells_length, *, evC, evV, kC]; done))) ?_
    refine G_callC (L2 := []) rfl rfl rfl rfl rfl rfl Try.call77 rfl (sc_wrong _) [] [] rfl rfl ?_
    rintro v post ⟨rfl, rfl⟩
    refine G_done ?_
    refine G_if rfl (fun hc2 => ?_) (fun hc2 => ?_)
    · skip
      refine G_seq ?_
      refine G_region (l := [0, 1]) rfl ?_
      refine G_val rfl rfl rfl rfl (V_move rfl rfl) ?_
      refine G_val rfl rfl rfl rfl (V_assign rfl rfl) ?_
      refine G_done ?_
      refine G_ret (post := []) Try.func128 rfl (RVs_cons (RV_tmp rfl) RVs_nil) [] rfl ?_
      dsimp only [packed]
      first
        | exact ⟨⟨_, rfl, by rw [any_yes hx (by assumption)]; simp⟩, rfl⟩
        | exact ⟨⟨_, rfl, by rw [any_end ht (by omega)]; rfl⟩, rfl⟩
    refine G_skip ?_
    refine G_inBlock ?_
    refine G_region (l := [0, 1]) rfl ?_
    first
      | refine G_val rfl rfl rfl rfl ((V_add rfl rfl rfl).int (wrap_i64 (by omega))) ?_
      | refine G_val rfl rfl rfl rfl (V_add rfl rfl rfl) ?_
    refine G_val rfl rfl rfl rfl (V_move rfl rfl) ?_
    refine G_done ?_
    refine G_sub ?_ [] ?_ (ih (i + 1) ?_ ?_)
    · (refine (And.intro ?_ (And.intro ?_ (And.intro ?_ (And.intro ?_ trivial)))) <;> first | rfl | exact slot_int (by omega) | exact slot_int (by simp))
    · exact ⟨_, rfl⟩
    · exact ⟨by omega, any_next ht hx (by simpa using ‹badK x = false›)⟩
    · (first | omega | (dsimp only; omega))
  refine G_exit rfl ?_
  refine G_seq ?_
  refine G_region (l := [0]) rfl ?_
  refine G_val rfl rfl rfl rfl (V_assign rfl rfl) ?_
  refine G_done ?_
  refine G_ret (post := []) Try.func128 rfl (RVs_cons (RV_tmp rfl) RVs_nil) [] rfl ?_
  dsimp only [packed]
  first
    | exact ⟨⟨_, rfl, by rw [any_yes hx (by assumption)]; simp⟩, rfl⟩
    | exact ⟨⟨_, rfl, by rw [any_end ht (by omega)]; rfl⟩, rfl⟩

set_option maxRecDepth 100000 in
set_option maxHeartbeats 1000000 in
theorem sc_indexK0 (p : Option Addr) :
    Ct Try.prog 128 [.slice p 0 0, .func (.func 77) #[] #[]] [] [] fun v post => (∃ z, v = .int .i64 z ∧ decide (0 ≤ z) = false) ∧ post = [] := by
 refine ct_of Try.func128 rfl rfl (fun w0 => ?_)
 show G _ _ [(0, _), (1, _)] _ _
 refine G_seq ?_
 refine G_region (l := [0]) rfl ?_
 refine G_val rfl rfl rfl rfl (V_assign rfl rfl) ?_
 refine G_done ?_
 refine G_seq ?_
 refine G_seq ?_
 refine G_region (l := [0, 1, 2]) rfl ?_
 refine G_val rfl rfl rfl rfl (V_move rfl rfl) ?_
 refine G_val rfl rfl rfl rfl (V_len rfl rfl Try.underlying56 rfl) ?_
 refine G_val rfl rfl rfl rfl (V_move rfl rfl) ?_
 refine G_done ?_
 refine G_block ?_
 refine G_sub ?he2 [] ?hl2 (G_loop (X := Nat) (fun i => i = 0) (fun i => 0) (fun i => [(0, .slice p 0 0), (1, .func (.func 77) #[] #[]), (7, .int .i64 0), (8, .int .i64 (i : Int))]) (fun i => []) ?round2 0 ?h02)
 case he2 => exact (And.intro rfl (And.intro rfl (And.intro rfl (And.intro rfl trivial))))
 case hl2 => exact ⟨_, rfl⟩
 case h02 => rfl
 case round2 =>
  intro i hJ ih
  try dsimp only at hJ ih
  obtain hi := hJ
  refine G_seq ?_
  refine G_region (l := [0]) rfl ?_
  refine G_val rfl rfl rfl rfl (V_lss rfl rfl rfl) ?_
  refine G_done ?_
  refine G_seq ?_
  refine G_ifD rfl (fun hc1 => ?_) (fun hc1 => ?_)
  · (first | contradiction | (exact absurd rfl hc1) | (exfalso; omega) | (simp at hc1; done) | (exact absurd hc1 (by decide)) | (exact absurd (by decide) hc1))
  refine G_exit rfl ?_
  refine G_seq ?_
  refine G_region (l := [0]) rfl ?_
  refine G_val rfl rfl rfl rfl (V_assign rfl rfl) ?_
  refine G_done ?_
  refine G_ret (post := []) Try.func128 rfl (RVs_cons (RV_tmp rfl) RVs_nil) [] rfl ?_
  dsimp only [packed]
  exact ⟨⟨_, rfl, rfl⟩, rfl⟩

set_option maxRecDepth 100000 in
set_option maxHeartbeats 1000000 in
theorem sc_containsK1 (o1 : Option Nat) (p1 q1 : Nat) (c1 : Array Value) (T1 : TypeId) (f1 : Nat × Nat) (ks : List (Int × Int)) (h1 : Sees 2 o1 p1 q1 c1 (ks.flatMap kC) ks.length) :
    Ct Try.prog 76 [sv o1 p1 ks.length q1, .func (.func 77) #[] #[]] [(o1, .cells c1 T1 f1)] [] fun v post => v = .bool (ks.any badK) ∧ post = [] := by
 have hl1 := h1.le
 have hl2 := h1.max
 refine ct_of Try.func76 rfl rfl (fun w0 => ?_)
 show G _ _ [(0, _), (1, _)] _ _
 refine G_seq ?_
 refine G_region (l := [0]) rfl ?_
 refine G_val rfl rfl rfl rfl (V_assign rfl rfl) ?_
 refine G_done ?_
 refine G_seq ?_
 refine G_region (l := [0, 1, 2, 3, 4]) rfl ?_
 refine G_val rfl rfl rfl rfl (V_move rfl rfl) ?_
 refine G_val rfl rfl rfl rfl (V_move rfl rfl) ?_
 refine G_call (L2 := []) rfl rfl rfl rfl rfl rfl Try.call128 (sc_indexK _ _ _ _ _ _ ks h1) [] [0] rfl rfl ?_
 rintro v post ⟨⟨z, rfl, hz⟩, rfl⟩
 refine G_val rfl rfl rfl rfl (V_geq rfl rfl rfl) ?_
 refine G_val rfl rfl rfl rfl (V_assign rfl rfl) ?_
 refine G_done ?_
 refine G_ret (post := []) Try.func76 rfl (RVs_cons (RV_tmp rfl) RVs_nil) [] rfl ?_
 dsimp only [packed]
 exact ⟨bool_eq (by rw [← hz]), rfl⟩

set_option maxRecDepth 100000 in
set_option maxHeartbeats 1000000 in
theorem sc_containsK0 (p : Option Addr) :
    Ct Try.prog 76 [.slice p 0 0, .func (.func 77) #[] #[]] [] [] fun v post => v = .bool false ∧ post = [] := by
 refine ct_of Try.func76 rfl rfl (fun w0 => ?_)
 show G _ _ [(0, _), (1, _)] _ _
 refine G_seq ?_
 refine G_region (l := [0]) rfl ?_
 refine G_val rfl rfl rfl rfl (V_assign rfl rfl) ?_
 refine G_done ?_
 refine G_seq ?_
 refine G_region (l := [0, 1, 2, 3, 4]) rfl ?_
 refine G_val rfl rfl rfl rfl (V_move rfl rfl) ?_
 refine G_val rfl rfl rfl rfl (V_move rfl rfl) ?_
 refine G_call (L2 := []) rfl rfl rfl rfl rfl rfl Try.call128 (sc_indexK0 p) [] [] rfl rfl ?_
 rintro v post ⟨⟨z, rfl, hz⟩, rfl⟩
 refine G_val rfl rfl rfl rfl (V_geq rfl rfl rfl) ?_
 refine G_val rfl rfl rfl rfl (V_assign rfl rfl) ?_
 refine G_done ?_
 refine G_ret (post := []) Try.func76 rfl (RVs_cons (RV_tmp rfl) RVs_nil) [] rfl ?_
 dsimp only [packed]
 exact ⟨bool_eq (by rw [← hz]), rfl⟩


theorem ct_more {P : Program} {f : FuncId} {args : List Value} {A L : List (Option Nat × Obj)} {R : Value → List (Option Nat × Obj) → Prop} (h : Ct P f args [] L R) : Ct P f args A L R := fun w0 hh => h w0 hh.dropA
theorem sc_containsK (m : Em) (hm : EmOk m) : Ct Try.prog 76 [evS m, .func (.func 77) #[] #[]] [evK m] [] (fun v post => v = .bool (m.v.ks.any badK) ∧ post = []) := by
  rcases hm.sees with ⟨e, hs⟩ | ⟨e1, e2⟩
  · unfold evS; rw [e]; exact sc_containsK1 _ _ _ _ _ _ _ hs
  · unfold evS; rw [e1, e2]; exact ct_more (sc_containsK0 m.p)
theorem has_1 {k : Int} (h : k = 1) : hasE' k 116 = true ∧ hasE' k 98 = true ∧ hasE' k 102 = false ∧ hasE' k 107 = false := by subst h; decide
theorem has_2 {k : Int} (h : k = 2) : hasE' k 116 = true ∧ hasE' k 98 = false ∧ hasE' k 102 = false ∧ hasE' k 107 = false := by subst h; decide
theorem has_3 {k : Int} (h : k = 3) : hasE' k 116 = true ∧ hasE' k 98 = true ∧ hasE' k 102 = true ∧ hasE' k 107 = true := by subst h; decide
theorem has_0 {k : Int} (h : ¬ (1 ≤ k ∧ k ≤ 3)) : hasE' k 116 = false ∧ hasE' k 98 = false ∧ hasE' k 102 = false ∧ hasE' k 107 = false := by unfold hasE'; rw [fields_none h]; decide


theorem may_ff {e : Ev} (h : ¬ (1 ≤ e.kd ∧ e.kd ≤ 3) ∨ 600 < (e.b.length : Int) ∨ (e.kd = 2 ∧ ¬ e.b = []) ∨ (e.kd ≠ 3 ∧ ¬ e.f = 0) ∨ (e.kd ≠ 3 ∧ 0 < (e.ks.length : Int)) ∨ e.f < -1 ∨ 1099511627776 ≤ e.f ∨ 64 < (e.ks.length : Int) ∨ e.ks.any badK = true) : decide (MayE e) = false := by
  rw [decide_eq_false_iff_not]
  rintro ⟨h1, h2, h3, h4, h5, h6, h7⟩
  rcases h with h | h | h | h | h | h | h | h | h
  · exact h h1
  · omega
  · exact h.2 (h3 h.1)
  · exact h.2 (h4 h.1).1
  · have := (h4 h.1).2; rw [this] at h; simp at h
  · omega
  · omega
  · omega
  · rw [List.any_eq_true] at h
    obtain ⟨x, hx, hb⟩ := h
    rw [h7 x hx] at hb; cases hb
theorem may_tt {e : Ev} (h1 : 1 ≤ e.kd ∧ e.kd ≤ 3) (h2 : (e.b.length : Int) ≤ 600) (h3 : e.kd = 2 → e.b = []) (h4 : e.kd ≠ 3 → e.f = 0 ∧ e.ks = []) (h5 : -1 ≤ e.f ∧ e.f < 1099511627776) (h6 : (e.ks.length : Int) ≤ 64) (h7 : e.ks.any badK = false) : decide (MayE e) = true := by
  rw [decide_eq_true_eq]
  refine ⟨h1, by omega, h3, h4, h5, by omega, fun x hx => ?_⟩
  rw [List.any_eq_false] at h7
  simpa using h7 x hx

set_option maxRecDepth 100000 in
set_option maxHeartbeats 1000000 in
theorem sc_has (b : Nat) (m : Em) (x : UInt8) :
    Ct Try.prog 73 [.string (bs [x]), .pointer (some ⟨b, 0, none⟩)] [(some b, .cells (evC m).toArray 58 (0, 0))] [] fun v post => v = .bool (hasE' m.v.kd x) ∧ post = [] := by
 refine ct_of Try.func73 rfl rfl (fun w0 => ?_)
 show G _ _ [(0, _), (1, _)] _ _
 refine G_seq ?_
 refine G_region (l := [0]) rfl ?_
 refine G_val rfl rfl rfl rfl (V_assign rfl rfl) ?_
 refine G_done ?_
 refine G_seq ?_
 refine G_region (l := [0, 1, 2, 3, 4, 5]) rfl ?_
 refine G_val rfl rfl rfl rfl (V_fieldAddr (fo := 0) rfl Try.underlying58 rfl infScriptW_3 rfl rfl rfl) ?_
 refine G_val rfl rfl rfl rfl (V_load1 rfl rfl (mem_at 0 rfl) rfl Try.underlying3 rfl) ?_
 refine G_call (L2 := []) rfl rfl rfl rfl rfl rfl Try.call75 (sc_fields _) [] [] rfl rfl ?_
 rintro v post ⟨rfl, rfl⟩
 refine G_val rfl rfl rfl rfl (V_move rfl rfl) ?_
 refine G_call (L2 := []) rfl rfl rfl rfl rfl rfl Try.call74 (st_contains1 _ _) [] [] rfl rfl ?_
 rintro v post ⟨rfl, rfl⟩
 refine G_val rfl rfl rfl rfl (V_assign rfl rfl) ?_
 refine G_done ?_
 refine G_ret (post := []) Try.func73 rfl (RVs_cons (RV_tmp rfl) RVs_nil) [] rfl ?_
 dsimp only [packed]
 exact ⟨bool_eq (by unfold hasE'; rfl), rfl⟩

set_option maxRecDepth 100000 in
set_option maxHeartbeats 1000000 in
theorem sc_may (m : Em) (hm : EmOk m) :
    Ct Try.prog 21 [.agg (evC m).toArray] [evK m] [] fun v post => v = .bool (decide (MayE m.v)) ∧ post = [] := by
 have hle := hm.le
 have hmax := hm.max
 obtain ⟨hk0, hk1⟩ := hm.k
 obtain ⟨hf0, hf1⟩ := hm.f
 have hb1 := hm.b
 have ht1 := hm.t
 refine ct_of Try.func21 rfl rfl (fun w0 => ?_)
 show G _ _ [(0, _)] _ _
 refine G_seq ?_
 refine G_region (l := [0, 1]) rfl ?_
 refine G_new rfl rfl rfl rfl (N_boxA rfl rfl) (fun b1 => ?_)
 refine G_val rfl rfl rfl rfl (V_assign rfl rfl) ?_
 refine G_done ?_
 refine G_seq ?_
 rcases kinds m.v.kd with hkd | hkd | hkd | hkd
 · skip
   refine G_region (l := [0, 1]) rfl ?_
   refine G_val rfl rfl rfl rfl (V_func rfl rfl rfl) ?_
   refine G_val rfl rfl rfl rfl (V_assign rfl rfl) ?_
   refine G_done ?_
   refine G_seq ?_
   refine G_block ?_
   refine G_seq ?_
   refine G_seq ?_
   refine G_region (l := [0, 1, 2, 3]) rfl ?_
   refine G_val rfl rfl rfl rfl (V_move rfl rfl) ?_
   refine G_callC (L2 := [_]) rfl rfl rfl rfl rfl rfl Try.call73 rfl ((sc_has b1 m 116).weaken (fun v post h => by rw [(has_1 hkd).1] at h; exact h)) [] [1] rfl rfl ?_
   rintro v post ⟨rfl, rfl⟩
   show G _ _ _ [_] _
   refine G_val rfl rfl rfl rfl (V_not rfl rfl) ?_
   refine G_val rfl rfl rfl rfl (V_assign rfl rfl) ?_
   refine G_done ?_
   refine G_else rfl ?_
   refine G_seq ?_
   refine G_region (l := [0, 1, 2, 3, 4, 5, 6, 7, 8]) rfl ?_
   refine G_val rfl rfl rfl rfl (V_move rfl rfl) ?_
   refine G_callC (L2 := [_]) rfl rfl rfl rfl rfl rfl Try.call73 rfl ((sc_has b1 m 98).weaken (fun v post h => by rw [(has_1 hkd).2.1] at h; exact h)) [] [1] rfl rfl ?_
   rintro v post ⟨rfl, rfl⟩
   show G _ _ _ [_] _
   refine G_val rfl rfl rfl rfl (V_not rfl rfl) ?_
   refine G_val rfl rfl rfl rfl (V_move rfl rfl) ?_
   refine G_off rfl rfl rfl rfl ?_
   refine G_off rfl rfl rfl rfl ?_
   refine G_off rfl rfl rfl rfl ?_
   refine G_val rfl rfl rfl rfl (V_pickF rfl rfl rfl) ?_
   refine G_val rfl rfl rfl rfl (V_assign rfl rfl) ?_
   refine G_done ?_
   refine G_else rfl ?_
   refine G_seq ?_
   refine G_region (l := [0, 1, 2, 3, 4, 5, 6, 7, 8]) rfl ?_
   refine G_val rfl rfl rfl rfl (V_move rfl rfl) ?_
   refine G_callC (L2 := [_]) rfl rfl rfl rfl rfl rfl Try.call73 rfl ((sc_has b1 m 102).weaken (fun v post h => by rw [(has_1 hkd).2.2.1] at h; exact h)) [] [1] rfl rfl ?_
   rintro v post ⟨rfl, rfl⟩
   show G _ _ _ [_] _
   refine G_val rfl rfl rfl rfl (V_not rfl rfl) ?_
   refine G_val rfl rfl rfl rfl (V_move rfl rfl) ?_
   refine G_val rfl rfl rfl rfl (V_fieldAddr (fo := 3) rfl Try.underlying58 rfl infScriptW_3 rfl rfl rfl) ?_
   refine G_val rfl rfl rfl rfl (V_load1 rfl rfl (mem_at 1 rfl) rfl Try.underlying3 rfl) ?_
   refine G_val rfl rfl rfl rfl (V_neq rfl rfl rfl) ?_
   refine G_val rfl rfl rfl rfl (V_pickT rfl rfl rfl) ?_
   refine G_val rfl rfl rfl rfl (V_assign rfl rfl) ?_
   refine G_done ?_
   refine G_ifD rfl (fun hc1 => ?_) (fun hc1 => ?_)
   · skip
     refine G_skip ?_
     refine G_ifD rfl (fun hc2 => ?_) (fun hc2 => ?_)
     rotate_left
     · (first | contradiction | (exact absurd rfl hc2) | (exfalso; omega) | (simp at hc2; done) | (exact absurd hc2 (by decide)) | (exact absurd (by decide) hc2))
     refine G_seq ?_
     refine G_region (l := [0]) rfl ?_
     refine G_val rfl rfl rfl rfl (V_assign rfl rfl) ?_
     refine G_done ?_
     refine G_ret (post := []) Try.func21 rfl (RVs_cons (RV_tmp rfl) RVs_nil) [] rfl ?_
     dsimp only [packed]
     first
       | (refine ⟨bool_eq (may_ff (by first | exact .inl (by omega) | exact .inr (.inl (by omega)) | exact .inr (.inr (.inl ⟨by omega, by assumption⟩)) | exact .inr (.inr (.inr (.inl ⟨by omega, by omega⟩))) | exact .inr (.inr (.inr (.inr (.inl ⟨by omega, by omega⟩)))) | exact .inr (.inr (.inr (.inr (.inr (.inl (by omega)))))) | exact .inr (.inr (.inr (.inr (.inr (.inr (.inl (by omega))))))) | exact .inr (.inr (.inr (.inr (.inr (.inr (.inr (.inl (by omega)))))))) | exact .inr (.inr (.inr (.inr (.inr (.inr (.inr (.inr (by assumption)))))))))).symm, rfl⟩; done)
       | (rcases hany : m.v.ks.any badK with _ | _
          · exact ⟨bool_eq (may_tt (by omega) (by omega) (by first | (intro hh; exfalso; omega) | (intro _; exact Classical.not_not.1 (by assumption)) | (intro _; assumption)) (by first | (intro hh; exfalso; omega) | (intro _; exact ⟨by omega, List.length_eq_zero_iff.1 (by omega)⟩)) (by omega) (by omega) hany).symm, rfl⟩
          · exact ⟨bool_eq (may_ff (by first | exact .inl (by omega) | exact .inr (.inl (by omega)) | exact .inr (.inr (.inl ⟨by omega, by assumption⟩)) | exact .inr (.inr (.inr (.inl ⟨by omega, by omega⟩))) | exact .inr (.inr (.inr (.inr (.inl ⟨by omega, by omega⟩)))) | exact .inr (.inr (.inr (.inr (.inr (.inl (by omega)))))) | exact .inr (.inr (.inr (.inr (.inr (.inr (.inl (by omega))))))) | exact .inr (.inr (.inr (.inr (.inr (.inr (.inr (.inl (by omega)))))))) | exact .inr (.inr (.inr (.inr (.inr (.inr (.inr (.inr (by assumption)))))))))).symm, rfl⟩)
   refine G_region (l := [0, 1, 2, 3, 4, 5, 6, 7, 8, 9]) rfl ?_
   refine G_val rfl rfl rfl rfl (V_move rfl rfl) ?_
   refine G_callC (L2 := [_]) rfl rfl rfl rfl rfl rfl Try.call73 rfl ((sc_has b1 m 107).weaken (fun v post h => by rw [(has_1 hkd).2.2.2] at h; exact h)) [] [1] rfl rfl ?_
   rintro v post ⟨rfl, rfl⟩
   show G _ _ _ [_] _
   refine G_val rfl rfl rfl rfl (V_not rfl rfl) ?_
   refine G_val rfl rfl rfl rfl (V_move rfl rfl) ?_
   refine G_val rfl rfl rfl rfl (V_fieldAddr (fo := 4) rfl Try.underlying58 rfl infScriptW_56 rfl rfl rfl) ?_
   refine G_val rfl rfl rfl rfl (V_load1 rfl rfl (mem_at 1 rfl) rfl Try.underlying56 rfl) ?_
   refine G_val rfl rfl rfl rfl (V_len rfl rfl Try.underlying56 rfl) ?_
   refine G_val rfl rfl rfl rfl (V_gtr rfl rfl rfl) ?_
   refine G_val rfl rfl rfl rfl (V_pickT rfl rfl rfl) ?_
   refine G_val rfl rfl rfl rfl (V_assign rfl rfl) ?_
   refine G_done ?_
   refine G_ifD rfl (fun hc2 => ?_) (fun hc2 => ?_)
   · skip
     refine G_seq ?_
     refine G_region (l := [0]) rfl ?_
     refine G_val rfl rfl rfl rfl (V_assign rfl rfl) ?_
     refine G_done ?_
     refine G_ret (post := []) Try.func21 rfl (RVs_cons (RV_tmp rfl) RVs_nil) [] rfl ?_
     dsimp only [packed]
     first
       | (refine ⟨bool_eq (may_ff (by first | exact .inl (by omega) | exact .inr (.inl (by omega)) | exact .inr (.inr (.inl ⟨by omega, by assumption⟩)) | exact .inr (.inr (.inr (.inl ⟨by omega, by omega⟩))) | exact .inr (.inr (.inr (.inr (.inl ⟨by omega, by omega⟩)))) | exact .inr (.inr (.inr (.inr (.inr (.inl (by omega)))))) | exact .inr (.inr (.inr (.inr (.inr (.inr (.inl (by omega))))))) | exact .inr (.inr (.inr (.inr (.inr (.inr (.inr (.inl (by omega)))))))) | exact .inr (.inr (.inr (.inr (.inr (.inr (.inr (.inr (by assumption)))))))))).symm, rfl⟩; done)
       | (rcases hany : m.v.ks.any badK with _ | _
          · exact ⟨bool_eq (may_tt (by omega) (by omega) (by first | (intro hh; exfalso; omega) | (intro _; exact Classical.not_not.1 (by assumption)) | (intro _; assumption)) (by first | (intro hh; exfalso; omega) | (intro _; exact ⟨by omega, List.length_eq_zero_iff.1 (by omega)⟩)) (by omega) (by omega) hany).symm, rfl⟩
          · exact ⟨bool_eq (may_ff (by first | exact .inl (by omega) | exact .inr (.inl (by omega)) | exact .inr (.inr (.inl ⟨by omega, by assumption⟩)) | exact .inr (.inr (.inr (.inl ⟨by omega, by omega⟩))) | exact .inr (.inr (.inr (.inr (.inl ⟨by omega, by omega⟩)))) | exact .inr (.inr (.inr (.inr (.inr (.inl (by omega)))))) | exact .inr (.inr (.inr (.inr (.inr (.inr (.inl (by omega))))))) | exact .inr (.inr (.inr (.inr (.inr (.inr (.inr (.inl (by omega)))))))) | exact .inr (.inr (.inr (.inr (.inr (.inr (.inr (.inr (by assumption)))))))))).symm, rfl⟩)
   refine G_skip ?_
   refine G_inBlock ?_
   refine G_seq ?_
   refine G_region (l := [0, 1, 2, 3, 4, 5, 6, 7, 8, 9, 10, 11, 12, 13, 14, 15, 16, 17, 18, 19, 20, 21, 22, 23, 24, 25, 26]) rfl ?_
   refine G_val rfl rfl rfl rfl (V_fieldAddr (fo := 1) rfl Try.underlying58 rfl infScriptW_9 rfl rfl rfl) ?_
   refine G_val rfl rfl rfl rfl (V_load1 rfl rfl (mem_at 1 rfl) rfl Try.underlying9 rfl) ?_
   refine G_val rfl rfl rfl rfl (V_slen rfl rfl Try.underlying9 rfl) ?_
   refine G_val rfl rfl rfl rfl (V_leq rfl rfl rfl) ?_
   refine G_val rfl rfl rfl rfl (V_move rfl rfl) ?_
   refine G_splitD 38 rfl (fun hc3 => ?_) (fun hc3 => ?_)
   · skip
     refine G_val rfl rfl rfl rfl (V_fieldAddr (fo := 3) rfl Try.underlying58 rfl infScriptW_3 rfl rfl rfl) ?_
     refine G_val rfl rfl rfl rfl (V_load1 rfl rfl (mem_at 1 rfl) rfl Try.underlying3 rfl) ?_
     refine G_val rfl rfl rfl rfl (V_geq rfl rfl rfl) ?_
     refine G_val rfl rfl rfl rfl (V_pickT rfl rfl rfl) ?_
     refine G_val rfl rfl rfl rfl (V_move rfl rfl) ?_
     refine G_splitD 43 rfl (fun hc4 => ?_) (fun hc4 => ?_)
     rotate_left
     · (first | contradiction | (exact absurd rfl hc4) | (exfalso; omega) | (simp at hc4; done) | (exact absurd hc4 (by decide)) | (exact absurd (by decide) hc4))
     refine G_val rfl rfl rfl rfl (V_fieldAddr (fo := 3) rfl Try.underlying58 rfl infScriptW_3 rfl rfl rfl) ?_
     refine G_val rfl rfl rfl rfl (V_load1 rfl rfl (mem_at 1 rfl) rfl Try.underlying3 rfl) ?_
     refine G_val rfl rfl rfl rfl (V_lss rfl rfl rfl) ?_
     refine G_val rfl rfl rfl rfl (V_pickT rfl rfl rfl) ?_
     refine G_val rfl rfl rfl rfl (V_move rfl rfl) ?_
     refine G_splitD 48 rfl (fun hc5 => ?_) (fun hc5 => ?_)
     rotate_left
     · (first | contradiction | (exact absurd rfl hc5) | (exfalso; omega) | (simp at hc5; done) | (exact absurd hc5 (by decide)) | (exact absurd (by decide) hc5))
     refine G_val rfl rfl rfl rfl (V_fieldAddr (fo := 4) rfl Try.underlying58 rfl infScriptW_56 rfl rfl rfl) ?_
     refine G_val rfl rfl rfl rfl (V_load1 rfl rfl (mem_at 1 rfl) rfl Try.underlying56 rfl) ?_
     refine G_val rfl rfl rfl rfl (V_len rfl rfl Try.underlying56 rfl) ?_
     refine G_val rfl rfl rfl rfl (V_leq rfl rfl rfl) ?_
     refine G_val rfl rfl rfl rfl (V_pickT rfl rfl rfl) ?_
     refine G_val rfl rfl rfl rfl (V_move rfl rfl) ?_
     refine G_splitD 54 rfl (fun hc6 => ?_) (fun hc6 => ?_)
     rotate_left
     · (first | contradiction | (exact absurd rfl hc6) | (exfalso; omega) | (simp at hc6; done) | (exact absurd hc6 (by decide)) | (exact absurd (by decide) hc6))
     refine G_val rfl rfl rfl rfl (V_fieldAddr (fo := 4) rfl Try.underlying58 rfl infScriptW_56 rfl rfl rfl) ?_
     refine G_val rfl rfl rfl rfl (V_load1 rfl rfl (mem_at 1 rfl) rfl Try.underlying56 rfl) ?_
     refine G_call (L2 := [_]) rfl rfl rfl rfl rfl rfl Try.call76 (sc_containsK m hm) [] [0] rfl rfl ?_
     rintro v post ⟨rfl, rfl⟩
     show G _ _ _ [_] _
     refine G_val rfl rfl rfl rfl (V_not rfl rfl) ?_
     refine G_val rfl rfl rfl rfl (V_pickT rfl rfl rfl) ?_
     refine G_val rfl rfl rfl rfl (V_assign rfl rfl) ?_
     refine G_done ?_
     refine G_ret (post := []) Try.func21 rfl (RVs_cons (RV_tmp rfl) RVs_nil) [] rfl ?_
     dsimp only [packed]
     first
       | (refine ⟨bool_eq (may_ff (by first | exact .inl (by omega) | exact .inr (.inl (by omega)) | exact .inr (.inr (.inl ⟨by omega, by assumption⟩)) | exact .inr (.inr (.inr (.inl ⟨by omega, by omega⟩))) | exact .inr (.inr (.inr (.inr (.inl ⟨by omega, by omega⟩)))) | exact .inr (.inr (.inr (.inr (.inr (.inl (by omega)))))) | exact .inr (.inr (.inr (.inr (.inr (.inr (.inl (by omega))))))) | exact .inr (.inr (.inr (.inr (.inr (.inr (.inr (.inl (by omega)))))))) | exact .inr (.inr (.inr (.inr (.inr (.inr (.inr (.inr (by assumption)))))))))).symm, rfl⟩; done)
       | (rcases hany : m.v.ks.any badK with _ | _
          · exact ⟨bool_eq (may_tt (by omega) (by omega) (by first | (intro hh; exfalso; omega) | (intro _; exact Classical.not_not.1 (by assumption)) | (intro _; assumption)) (by first | (intro hh; exfalso; omega) | (intro _; exact ⟨by omega, List.length_eq_zero_iff.1 (by omega)⟩)) (by omega) (by omega) hany).symm, rfl⟩
          · exact ⟨bool_eq (may_ff (by first | exact .inl (by omega) | exact .inr (.inl (by omega)) | exact .inr (.inr (.inl ⟨by omega, by assumption⟩)) | exact .inr (.inr (.inr (.inl ⟨by omega, by omega⟩))) | exact .inr (.inr (.inr (.inr (.inl ⟨by omega, by omega⟩)))) | exact .inr (.inr (.inr (.inr (.inr (.inl (by omega)))))) | exact .inr (.inr (.inr (.inr (.inr (.inr (.inl (by omega))))))) | exact .inr (.inr (.inr (.inr (.inr (.inr (.inr (.inl (by omega)))))))) | exact .inr (.inr (.inr (.inr (.inr (.inr (.inr (.inr (by assumption)))))))))).symm, rfl⟩)
   refine G_off rfl rfl rfl rfl ?_
   refine G_off rfl rfl rfl rfl ?_
   refine G_off rfl rfl rfl rfl ?_
   refine G_val rfl rfl rfl rfl (V_pickF rfl rfl rfl) ?_
   refine G_val rfl rfl rfl rfl (V_move rfl rfl) ?_
   refine G_off rfl rfl rfl rfl ?_
   refine G_off rfl rfl rfl rfl ?_
   refine G_off rfl rfl rfl rfl ?_
   refine G_val rfl rfl rfl rfl (V_pickF rfl rfl rfl) ?_
   refine G_val rfl rfl rfl rfl (V_move rfl rfl) ?_
   refine G_off rfl rfl rfl rfl ?_
   refine G_off rfl rfl rfl rfl ?_
   refine G_off rfl rfl rfl rfl ?_
   refine G_off rfl rfl rfl rfl ?_
   refine G_val rfl rfl rfl rfl (V_pickF rfl rfl rfl) ?_
   refine G_val rfl rfl rfl rfl (V_move rfl rfl) ?_
   refine G_off rfl rfl rfl rfl ?_
   refine G_off rfl rfl rfl rfl ?_
   refine G_off rfl rfl rfl rfl ?_
   refine G_off rfl rfl rfl rfl ?_
   refine G_val rfl rfl rfl rfl (V_pickF rfl rfl rfl) ?_
   refine G_val rfl rfl rfl rfl (V_assign rfl rfl) ?_
   refine G_done ?_
   refine G_ret (post := []) Try.func21 rfl (RVs_cons (RV_tmp rfl) RVs_nil) [] rfl ?_
   dsimp only [packed]
   first
     | (refine ⟨bool_eq (may_ff (by first | exact .inl (by omega) | exact .inr (.inl (by omega)) | exact .inr (.inr (.inl ⟨by omega, by assumption⟩)) | exact .inr (.inr (.inr (.inl ⟨by omega, by omega⟩))) | exact .inr (.inr (.inr (.inr (.inl ⟨by omega, by omega⟩)))) | exact .inr (.inr (.inr (.inr (.inr (.inl (by omega)))))) | exact .inr (.inr (.inr (.inr (.inr (.inr (.inl (by omega))))))) | exact .inr (.inr (.inr (.inr (.inr (.inr (.inr (.inl (by omega)))))))) | exact .inr (.inr (.inr (.inr (.inr (.inr (.inr (.inr (by assumption)))))))))).symm, rfl⟩; done)
     | (rcases hany : m.v.ks.any badK with _ | _
        · exact ⟨bool_eq (may_tt (by omega) (by omega) (by first | (intro hh; exfalso; omega) | (intro _; exact Classical.not_not.1 (by assumption)) | (intro _; assumption)) (by first | (intro hh; exfalso; omega) | (intro _; exact ⟨by omega, List.length_eq_zero_iff.1 (by omega)⟩)) (by omega) (by omega) hany).symm, rfl⟩
        · exact ⟨bool_eq (may_ff (by first | exact .inl (by omega) | exact .inr (.inl (by omega)) | exact .inr (.inr (.inl ⟨by omega, by assumption⟩)) | exact .inr (.inr (.inr (.inl ⟨by omega, by omega⟩))) | exact .inr (.inr (.inr (.inr (.inl ⟨by omega, by omega⟩)))) | exact .inr (.inr (.inr (.inr (.inr (.inl (by omega)))))) | exact .inr (.inr (.inr (.inr (.inr (.inr (.inl (by omega))))))) | exact .inr (.inr (.inr (.inr (.inr (.inr (.inr (.inl (by omega)))))))) | exact .inr (.inr (.inr (.inr (.inr (.inr (.inr (.inr (by assumption)))))))))).symm, rfl⟩)
 · skip
   refine G_region (l := [0, 1]) rfl ?_
   refine G_val rfl rfl rfl rfl (V_func rfl rfl rfl) ?_
   refine G_val rfl rfl rfl rfl (V_assign rfl rfl) ?_
   refine G_done ?_
   refine G_seq ?_
   refine G_block ?_
   refine G_seq ?_
   refine G_seq ?_
   refine G_region (l := [0, 1, 2, 3]) rfl ?_
   refine G_val rfl rfl rfl rfl (V_move rfl rfl) ?_
   refine G_callC (L2 := [_]) rfl rfl rfl rfl rfl rfl Try.call73 rfl ((sc_has b1 m 116).weaken (fun v post h => by rw [(has_2 hkd).1] at h; exact h)) [] [1] rfl rfl ?_
   rintro v post ⟨rfl, rfl⟩
   show G _ _ _ [_] _
   refine G_val rfl rfl rfl rfl (V_not rfl rfl) ?_
   refine G_val rfl rfl rfl rfl (V_assign rfl rfl) ?_
   refine G_done ?_
   refine G_else rfl ?_
   refine G_seq ?_
   refine G_region (l := [0, 1, 2, 3, 4, 5, 6, 7, 8]) rfl ?_
   refine G_val rfl rfl rfl rfl (V_move rfl rfl) ?_
   refine G_callC (L2 := [_]) rfl rfl rfl rfl rfl rfl Try.call73 rfl ((sc_has b1 m 98).weaken (fun v post h => by rw [(has_2 hkd).2.1] at h; exact h)) [] [1] rfl rfl ?_
   rintro v post ⟨rfl, rfl⟩
   show G _ _ _ [_] _
   refine G_val rfl rfl rfl rfl (V_not rfl rfl) ?_
   refine G_val rfl rfl rfl rfl (V_move rfl rfl) ?_
   refine G_val rfl rfl rfl rfl (V_fieldAddr (fo := 1) rfl Try.underlying58 rfl infScriptW_9 rfl rfl rfl) ?_
   refine G_val rfl rfl rfl rfl (V_load1 rfl rfl (mem_at 1 rfl) rfl Try.underlying9 rfl) ?_
   refine G_val rfl rfl rfl rfl (V_sneq rfl rfl rfl) ?_
   refine G_val rfl rfl rfl rfl (V_pickT rfl rfl rfl) ?_
   refine G_val rfl rfl rfl rfl (V_assign rfl rfl) ?_
   refine G_done ?_
   refine G_ifD rfl (fun hc1 => ?_) (fun hc1 => ?_)
   · skip
     refine G_skip ?_
     refine G_ifD rfl (fun hc2 => ?_) (fun hc2 => ?_)
     rotate_left
     · (first | contradiction | (exact absurd rfl hc2) | (exfalso; omega) | (simp at hc2; done) | (exact absurd hc2 (by decide)) | (exact absurd (by decide) hc2))
     refine G_seq ?_
     refine G_region (l := [0]) rfl ?_
     refine G_val rfl rfl rfl rfl (V_assign rfl rfl) ?_
     refine G_done ?_
     refine G_ret (post := []) Try.func21 rfl (RVs_cons (RV_tmp rfl) RVs_nil) [] rfl ?_
     dsimp only [packed]
     first
       | (refine ⟨bool_eq (may_ff (by first | exact .inl (by omega) | exact .inr (.inl (by omega)) | exact .inr (.inr (.inl ⟨by omega, by assumption⟩)) | exact .inr (.inr (.inr (.inl ⟨by omega, by omega⟩))) | exact .inr (.inr (.inr (.inr (.inl ⟨by omega, by omega⟩)))) | exact .inr (.inr (.inr (.inr (.inr (.inl (by omega)))))) | exact .inr (.inr (.inr (.inr (.inr (.inr (.inl (by omega))))))) | exact .inr (.inr (.inr (.inr (.inr (.inr (.inr (.inl (by omega)))))))) | exact .inr (.inr (.inr (.inr (.inr (.inr (.inr (.inr (by assumption)))))))))).symm, rfl⟩; done)
       | (rcases hany : m.v.ks.any badK with _ | _
          · exact ⟨bool_eq (may_tt (by omega) (by omega) (by first | (intro hh; exfalso; omega) | (intro _; exact Classical.not_not.1 (by assumption)) | (intro _; assumption)) (by first | (intro hh; exfalso; omega) | (intro _; exact ⟨by omega, List.length_eq_zero_iff.1 (by omega)⟩)) (by omega) (by omega) hany).symm, rfl⟩
          · exact ⟨bool_eq (may_ff (by first | exact .inl (by omega) | exact .inr (.inl (by omega)) | exact .inr (.inr (.inl ⟨by omega, by assumption⟩)) | exact .inr (.inr (.inr (.inl ⟨by omega, by omega⟩))) | exact .inr (.inr (.inr (.inr (.inl ⟨by omega, by omega⟩)))) | exact .inr (.inr (.inr (.inr (.inr (.inl (by omega)))))) | exact .inr (.inr (.inr (.inr (.inr (.inr (.inl (by omega))))))) | exact .inr (.inr (.inr (.inr (.inr (.inr (.inr (.inl (by omega)))))))) | exact .inr (.inr (.inr (.inr (.inr (.inr (.inr (.inr (by assumption)))))))))).symm, rfl⟩)
   refine G_seq ?_
   refine G_region (l := [0, 1, 2, 3, 4, 5, 6, 7, 8]) rfl ?_
   refine G_val rfl rfl rfl rfl (V_move rfl rfl) ?_
   refine G_callC (L2 := [_]) rfl rfl rfl rfl rfl rfl Try.call73 rfl ((sc_has b1 m 102).weaken (fun v post h => by rw [(has_2 hkd).2.2.1] at h; exact h)) [] [1] rfl rfl ?_
   rintro v post ⟨rfl, rfl⟩
   show G _ _ _ [_] _
   refine G_val rfl rfl rfl rfl (V_not rfl rfl) ?_
   refine G_val rfl rfl rfl rfl (V_move rfl rfl) ?_
   refine G_val rfl rfl rfl rfl (V_fieldAddr (fo := 3) rfl Try.underlying58 rfl infScriptW_3 rfl rfl rfl) ?_
   refine G_val rfl rfl rfl rfl (V_load1 rfl rfl (mem_at 1 rfl) rfl Try.underlying3 rfl) ?_
   refine G_val rfl rfl rfl rfl (V_neq rfl rfl rfl) ?_
   refine G_val rfl rfl rfl rfl (V_pickT rfl rfl rfl) ?_
   refine G_val rfl rfl rfl rfl (V_assign rfl rfl) ?_
   refine G_done ?_
   refine G_ifD rfl (fun hc2 => ?_) (fun hc2 => ?_)
   · skip
     refine G_skip ?_
     refine G_ifD rfl (fun hc3 => ?_) (fun hc3 => ?_)
     rotate_left
     · (first | contradiction | (exact absurd rfl hc3) | (exfalso; omega) | (simp at hc3; done) | (exact absurd hc3 (by decide)) | (exact absurd (by decide) hc3))
     refine G_seq ?_
     refine G_region (l := [0]) rfl ?_
     refine G_val rfl rfl rfl rfl (V_assign rfl rfl) ?_
     refine G_done ?_
     refine G_ret (post := []) Try.func21 rfl (RVs_cons (RV_tmp rfl) RVs_nil) [] rfl ?_
     dsimp only [packed]
     first
       | (refine ⟨bool_eq (may_ff (by first | exact .inl (by omega) | exact .inr (.inl (by omega)) | exact .inr (.inr (.inl ⟨by omega, by assumption⟩)) | exact .inr (.inr (.inr (.inl ⟨by omega, by omega⟩))) | exact .inr (.inr (.inr (.inr (.inl ⟨by omega, by omega⟩)))) | exact .inr (.inr (.inr (.inr (.inr (.inl (by omega)))))) | exact .inr (.inr (.inr (.inr (.inr (.inr (.inl (by omega))))))) | exact .inr (.inr (.inr (.inr (.inr (.inr (.inr (.inl (by omega)))))))) | exact .inr (.inr (.inr (.inr (.inr (.inr (.inr (.inr (by assumption)))))))))).symm, rfl⟩; done)
       | (rcases hany : m.v.ks.any badK with _ | _
          · exact ⟨bool_eq (may_tt (by omega) (by omega) (by first | (intro hh; exfalso; omega) | (intro _; exact Classical.not_not.1 (by assumption)) | (intro _; assumption)) (by first | (intro hh; exfalso; omega) | (intro _; exact ⟨by omega, List.length_eq_zero_iff.1 (by omega)⟩)) (by omega) (by omega) hany).symm, rfl⟩
          · exact ⟨bool_eq (may_ff (by first | exact .inl (by omega) | exact .inr (.inl (by omega)) | exact .inr (.inr (.inl ⟨by omega, by assumption⟩)) | exact .inr (.inr (.inr (.inl ⟨by omega, by omega⟩))) | exact .inr (.inr (.inr (.inr (.inl ⟨by omega, by omega⟩)))) | exact .inr (.inr (.inr (.inr (.inr (.inl (by omega)))))) | exact .inr (.inr (.inr (.inr (.inr (.inr (.inl (by omega))))))) | exact .inr (.inr (.inr (.inr (.inr (.inr (.inr (.inl (by omega)))))))) | exact .inr (.inr (.inr (.inr (.inr (.inr (.inr (.inr (by assumption)))))))))).symm, rfl⟩)
   refine G_region (l := [0, 1, 2, 3, 4, 5, 6, 7, 8, 9]) rfl ?_
   refine G_val rfl rfl rfl rfl (V_move rfl rfl) ?_
   refine G_callC (L2 := [_]) rfl rfl rfl rfl rfl rfl Try.call73 rfl ((sc_has b1 m 107).weaken (fun v post h => by rw [(has_2 hkd).2.2.2] at h; exact h)) [] [1] rfl rfl ?_
   rintro v post ⟨rfl, rfl⟩
   show G _ _ _ [_] _
   refine G_val rfl rfl rfl rfl (V_not rfl rfl) ?_
   refine G_val rfl rfl rfl rfl (V_move rfl rfl) ?_
   refine G_val rfl rfl rfl rfl (V_fieldAddr (fo := 4) rfl Try.underlying58 rfl infScriptW_56 rfl rfl rfl) ?_
   refine G_val rfl rfl rfl rfl (V_load1 rfl rfl (mem_at 1 rfl) rfl Try.underlying56 rfl) ?_
   refine G_val rfl rfl rfl rfl (V_len rfl rfl Try.underlying56 rfl) ?_
   refine G_val rfl rfl rfl rfl (V_gtr rfl rfl rfl) ?_
   refine G_val rfl rfl rfl rfl (V_pickT rfl rfl rfl) ?_
   refine G_val rfl rfl rfl rfl (V_assign rfl rfl) ?_
   refine G_done ?_
   refine G_ifD rfl (fun hc3 => ?_) (fun hc3 => ?_)
   · skip
     refine G_seq ?_
     refine G_region (l := [0]) rfl ?_
     refine G_val rfl rfl rfl rfl (V_assign rfl rfl) ?_
     refine G_done ?_
     refine G_ret (post := []) Try.func21 rfl (RVs_cons (RV_tmp rfl) RVs_nil) [] rfl ?_
     dsimp only [packed]
     first
       | (refine ⟨bool_eq (may_ff (by first | exact .inl (by omega) | exact .inr (.inl (by omega)) | exact .inr (.inr (.inl ⟨by omega, by assumption⟩)) | exact .inr (.inr (.inr (.inl ⟨by omega, by omega⟩))) | exact .inr (.inr (.inr (.inr (.inl ⟨by omega, by omega⟩)))) | exact .inr (.inr (.inr (.inr (.inr (.inl (by omega)))))) | exact .inr (.inr (.inr (.inr (.inr (.inr (.inl (by omega))))))) | exact .inr (.inr (.inr (.inr (.inr (.inr (.inr (.inl (by omega)))))))) | exact .inr (.inr (.inr (.inr (.inr (.inr (.inr (.inr (by assumption)))))))))).symm, rfl⟩; done)
       | (rcases hany : m.v.ks.any badK with _ | _
          · exact ⟨bool_eq (may_tt (by omega) (by omega) (by first | (intro hh; exfalso; omega) | (intro _; exact Classical.not_not.1 (by assumption)) | (intro _; assumption)) (by first | (intro hh; exfalso; omega) | (intro _; exact ⟨by omega, List.length_eq_zero_iff.1 (by omega)⟩)) (by omega) (by omega) hany).symm, rfl⟩
          · exact ⟨bool_eq (may_ff (by first | exact .inl (by omega) | exact .inr (.inl (by omega)) | exact .inr (.inr (.inl ⟨by omega, by assumption⟩)) | exact .inr (.inr (.inr (.inl ⟨by omega, by omega⟩))) | exact .inr (.inr (.inr (.inr (.inl ⟨by omega, by omega⟩)))) | exact .inr (.inr (.inr (.inr (.inr (.inl (by omega)))))) | exact .inr (.inr (.inr (.inr (.inr (.inr (.inl (by omega))))))) | exact .inr (.inr (.inr (.inr (.inr (.inr (.inr (.inl (by omega)))))))) | exact .inr (.inr (.inr (.inr (.inr (.inr (.inr (.inr (by assumption)))))))))).symm, rfl⟩)
   refine G_skip ?_
   refine G_inBlock ?_
   refine G_seq ?_
   refine G_region (l := [0, 1, 2, 3, 4, 5, 6, 7, 8, 9, 10, 11, 12, 13, 14, 15, 16, 17, 18, 19, 20, 21, 22, 23, 24, 25, 26]) rfl ?_
   refine G_val rfl rfl rfl rfl (V_fieldAddr (fo := 1) rfl Try.underlying58 rfl infScriptW_9 rfl rfl rfl) ?_
   refine G_val rfl rfl rfl rfl (V_load1 rfl rfl (mem_at 1 rfl) rfl Try.underlying9 rfl) ?_
   refine G_val rfl rfl rfl rfl (V_slen rfl rfl Try.underlying9 rfl) ?_
   refine G_val rfl rfl rfl rfl (V_leq rfl rfl rfl) ?_
   refine G_val rfl rfl rfl rfl (V_move rfl rfl) ?_
   refine G_splitD 38 rfl (fun hc4 => ?_) (fun hc4 => ?_)
   · skip
     refine G_val rfl rfl rfl rfl (V_fieldAddr (fo := 3) rfl Try.underlying58 rfl infScriptW_3 rfl rfl rfl) ?_
     refine G_val rfl rfl rfl rfl (V_load1 rfl rfl (mem_at 1 rfl) rfl Try.underlying3 rfl) ?_
     refine G_val rfl rfl rfl rfl (V_geq rfl rfl rfl) ?_
     refine G_val rfl rfl rfl rfl (V_pickT rfl rfl rfl) ?_
     refine G_val rfl rfl rfl rfl (V_move rfl rfl) ?_
     refine G_splitD 43 rfl (fun hc5 => ?_) (fun hc5 => ?_)
     rotate_left
     · (first | contradiction | (exact absurd rfl hc5) | (exfalso; omega) | (simp at hc5; done) | (exact absurd hc5 (by decide)) | (exact absurd (by decide) hc5))
     refine G_val rfl rfl rfl rfl (V_fieldAddr (fo := 3) rfl Try.underlying58 rfl infScriptW_3 rfl rfl rfl) ?_
     refine G_val rfl rfl rfl rfl (V_load1 rfl rfl (mem_at 1 rfl) rfl Try.underlying3 rfl) ?_
     refine G_val rfl rfl rfl rfl (V_lss rfl rfl rfl) ?_
     refine G_val rfl rfl rfl rfl (V_pickT rfl rfl rfl) ?_
     refine G_val rfl rfl rfl rfl (V_move rfl rfl) ?_
     refine G_splitD 48 rfl (fun hc6 => ?_) (fun hc6 => ?_)
     rotate_left
     · (first | contradiction | (exact absurd rfl hc6) | (exfalso; omega) | (simp at hc6; done) | (exact absurd hc6 (by decide)) | (exact absurd (by decide) hc6))
     refine G_val rfl rfl rfl rfl (V_fieldAddr (fo := 4) rfl Try.underlying58 rfl infScriptW_56 rfl rfl rfl) ?_
     refine G_val rfl rfl rfl rfl (V_load1 rfl rfl (mem_at 1 rfl) rfl Try.underlying56 rfl) ?_
     refine G_val rfl rfl rfl rfl (V_len rfl rfl Try.underlying56 rfl) ?_
     refine G_val rfl rfl rfl rfl (V_leq rfl rfl rfl) ?_
     refine G_val rfl rfl rfl rfl (V_pickT rfl rfl rfl) ?_
     refine G_val rfl rfl rfl rfl (V_move rfl rfl) ?_
     refine G_splitD 54 rfl (fun hc7 => ?_) (fun hc7 => ?_)
     rotate_left
     · (first | contradiction | (exact absurd rfl hc7) | (exfalso; omega) | (simp at hc7; done) | (exact absurd hc7 (by decide)) | (exact absurd (by decide) hc7))
     refine G_val rfl rfl rfl rfl (V_fieldAddr (fo := 4) rfl Try.underlying58 rfl infScriptW_56 rfl rfl rfl) ?_
     refine G_val rfl rfl rfl rfl (V_load1 rfl rfl (mem_at 1 rfl) rfl Try.underlying56 rfl) ?_
     refine G_call (L2 := [_]) rfl rfl rfl rfl rfl rfl Try.call76 (sc_containsK m hm) [] [0] rfl rfl ?_
     rintro v post ⟨rfl, rfl⟩
     show G _ _ _ [_] _
     refine G_val rfl rfl rfl rfl (V_not rfl rfl) ?_
     refine G_val rfl rfl rfl rfl (V_pickT rfl rfl rfl) ?_
     refine G_val rfl rfl rfl rfl (V_assign rfl rfl) ?_
     refine G_done ?_
     refine G_ret (post := []) Try.func21 rfl (RVs_cons (RV_tmp rfl) RVs_nil) [] rfl ?_
     dsimp only [packed]
     first
       | (refine ⟨bool_eq (may_ff (by first | exact .inl (by omega) | exact .inr (.inl (by omega)) | exact .inr (.inr (.inl ⟨by omega, by assumption⟩)) | exact .inr (.inr (.inr (.inl ⟨by omega, by omega⟩))) | exact .inr (.inr (.inr (.inr (.inl ⟨by omega, by omega⟩)))) | exact .inr (.inr (.inr (.inr (.inr (.inl (by omega)))))) | exact .inr (.inr (.inr (.inr (.inr (.inr (.inl (by omega))))))) | exact .inr (.inr (.inr (.inr (.inr (.inr (.inr (.inl (by omega)))))))) | exact .inr (.inr (.inr (.inr (.inr (.inr (.inr (.inr (by assumption)))))))))).symm, rfl⟩; done)
       | (rcases hany : m.v.ks.any badK with _ | _
          · exact ⟨bool_eq (may_tt (by omega) (by omega) (by first | (intro hh; exfalso; omega) | (intro _; exact Classical.not_not.1 (by assumption)) | (intro _; assumption)) (by first | (intro hh; exfalso; omega) | (intro _; exact ⟨by omega, List.length_eq_zero_iff.1 (by omega)⟩)) (by omega) (by omega) hany).symm, rfl⟩
          · exact ⟨bool_eq (may_ff (by first | exact .inl (by omega) | exact .inr (.inl (by omega)) | exact .inr (.inr (.inl ⟨by omega, by assumption⟩)) | exact .inr (.inr (.inr (.inl ⟨by omega, by omega⟩))) | exact .inr (.inr (.inr (.inr (.inl ⟨by omega, by omega⟩)))) | exact .inr (.inr (.inr (.inr (.inr (.inl (by omega)))))) | exact .inr (.inr (.inr (.inr (.inr (.inr (.inl (by omega))))))) | exact .inr (.inr (.inr (.inr (.inr (.inr (.inr (.inl (by omega)))))))) | exact .inr (.inr (.inr (.inr (.inr (.inr (.inr (.inr (by assumption)))))))))).symm, rfl⟩)
   refine G_off rfl rfl rfl rfl ?_
   refine G_off rfl rfl rfl rfl ?_
   refine G_off rfl rfl rfl rfl ?_
   refine G_val rfl rfl rfl rfl (V_pickF rfl rfl rfl) ?_
   refine G_val rfl rfl rfl rfl (V_move rfl rfl) ?_
   refine G_off rfl rfl rfl rfl ?_
   refine G_off rfl rfl rfl rfl ?_
   refine G_off rfl rfl rfl rfl ?_
   refine G_val rfl rfl rfl rfl (V_pickF rfl rfl rfl) ?_
   refine G_val rfl rfl rfl rfl (V_move rfl rfl) ?_
   refine G_off rfl rfl rfl rfl ?_
   refine G_off rfl rfl rfl rfl ?_
   refine G_off rfl rfl rfl rfl ?_
   refine G_off rfl rfl rfl rfl ?_
   refine G_val rfl rfl rfl rfl (V_pickF rfl rfl rfl) ?_
   refine G_val rfl rfl rfl rfl (V_move rfl rfl) ?_
   refine G_off rfl rfl rfl rfl ?_
   refine G_off rfl rfl rfl rfl ?_
   refine G_off rfl rfl rfl rfl ?_
   refine G_off rfl rfl rfl rfl ?_
   refine G_val rfl rfl rfl rfl (V_pickF rfl rfl rfl) ?_
   refine G_val rfl rfl rfl rfl (V_assign rfl rfl) ?_
   refine G_done ?_
   refine G_ret (post := []) Try.func21 rfl (RVs_cons (RV_tmp rfl) RVs_nil) [] rfl ?_
   dsimp only [packed]
   first
     | (refine ⟨bool_eq (may_ff (by first | exact .inl (by omega) | exact .inr (.inl (by omega)) | exact .inr (.inr (.inl ⟨by omega, by assumption⟩)) | exact .inr (.inr (.inr (.inl ⟨by omega, by omega⟩))) | exact .inr (.inr (.inr (.inr (.inl ⟨by omega, by omega⟩)))) | exact .inr (.inr (.inr (.inr (.inr (.inl (by omega)))))) | exact .inr (.inr (.inr (.inr (.inr (.inr (.inl (by omega))))))) | exact .inr (.inr (.inr (.inr (.inr (.inr (.inr (.inl (by omega)))))))) | exact .inr (.inr (.inr (.inr (.inr (.inr (.inr (.inr (by assumption)))))))))).symm, rfl⟩; done)
     | (rcases hany : m.v.ks.any badK with _ | _
        · exact ⟨bool_eq (may_tt (by omega) (by omega) (by first | (intro hh; exfalso; omega) | (intro _; exact Classical.not_not.1 (by assumption)) | (intro _; assumption)) (by first | (intro hh; exfalso; omega) | (intro _; exact ⟨by omega, List.length_eq_zero_iff.1 (by omega)⟩)) (by omega) (by omega) hany).symm, rfl⟩
        · exact ⟨bool_eq (may_ff (by first | exact .inl (by omega) | exact .inr (.inl (by omega)) | exact .inr (.inr (.inl ⟨by omega, by assumption⟩)) | exact .inr (.inr (.inr (.inl ⟨by omega, by omega⟩))) | exact .inr (.inr (.inr (.inr (.inl ⟨by omega, by omega⟩)))) | exact .inr (.inr (.inr (.inr (.inr (.inl (by omega)))))) | exact .inr (.inr (.inr (.inr (.inr (.inr (.inl (by omega))))))) | exact .inr (.inr (.inr (.inr (.inr (.inr (.inr (.inl (by omega)))))))) | exact .inr (.inr (.inr (.inr (.inr (.inr (.inr (.inr (by assumption)))))))))).symm, rfl⟩)
 · skip
   refine G_region (l := [0, 1]) rfl ?_
   refine G_val rfl rfl rfl rfl (V_func rfl rfl rfl) ?_
   refine G_val rfl rfl rfl rfl (V_assign rfl rfl) ?_
   refine G_done ?_
   refine G_seq ?_
   refine G_block ?_
   refine G_seq ?_
   refine G_seq ?_
   refine G_region (l := [0, 1, 2, 3]) rfl ?_
   refine G_val rfl rfl rfl rfl (V_move rfl rfl) ?_
   refine G_callC (L2 := [_]) rfl rfl rfl rfl rfl rfl Try.call73 rfl ((sc_has b1 m 116).weaken (fun v post h => by rw [(has_3 hkd).1] at h; exact h)) [] [1] rfl rfl ?_
   rintro v post ⟨rfl, rfl⟩
   show G _ _ _ [_] _
   refine G_val rfl rfl rfl rfl (V_not rfl rfl) ?_
   refine G_val rfl rfl rfl rfl (V_assign rfl rfl) ?_
   refine G_done ?_
   refine G_else rfl ?_
   refine G_seq ?_
   refine G_region (l := [0, 1, 2, 3, 4, 5, 6, 7, 8]) rfl ?_
   refine G_val rfl rfl rfl rfl (V_move rfl rfl) ?_
   refine G_callC (L2 := [_]) rfl rfl rfl rfl rfl rfl Try.call73 rfl ((sc_has b1 m 98).weaken (fun v post h => by rw [(has_3 hkd).2.1] at h; exact h)) [] [1] rfl rfl ?_
   rintro v post ⟨rfl, rfl⟩
   show G _ _ _ [_] _
   refine G_val rfl rfl rfl rfl (V_not rfl rfl) ?_
   refine G_val rfl rfl rfl rfl (V_move rfl rfl) ?_
   refine G_off rfl rfl rfl rfl ?_
   refine G_off rfl rfl rfl rfl ?_
   refine G_off rfl rfl rfl rfl ?_
   refine G_val rfl rfl rfl rfl (V_pickF rfl rfl rfl) ?_
   refine G_val rfl rfl rfl rfl (V_assign rfl rfl) ?_
   refine G_done ?_
   refine G_else rfl ?_
   refine G_seq ?_
   refine G_region (l := [0, 1, 2, 3, 4, 5, 6, 7, 8]) rfl ?_
   refine G_val rfl rfl rfl rfl (V_move rfl rfl) ?_
   refine G_callC (L2 := [_]) rfl rfl rfl rfl rfl rfl Try.call73 rfl ((sc_has b1 m 102).weaken (fun v post h => by rw [(has_3 hkd).2.2.1] at h; exact h)) [] [1] rfl rfl ?_
   rintro v post ⟨rfl, rfl⟩
   show G _ _ _ [_] _
   refine G_val rfl rfl rfl rfl (V_not rfl rfl) ?_
   refine G_val rfl rfl rfl rfl (V_move rfl rfl) ?_
   refine G_off rfl rfl rfl rfl ?_
   refine G_off rfl rfl rfl rfl ?_
   refine G_off rfl rfl rfl rfl ?_
   refine G_val rfl rfl rfl rfl (V_pickF rfl rfl rfl) ?_
   refine G_val rfl rfl rfl rfl (V_assign rfl rfl) ?_
   refine G_done ?_
   refine G_else rfl ?_
   refine G_region (l := [0, 1, 2, 3, 4, 5, 6, 7, 8, 9]) rfl ?_
   refine G_val rfl rfl rfl rfl (V_move rfl rfl) ?_
   refine G_callC (L2 := [_]) rfl rfl rfl rfl rfl rfl Try.call73 rfl ((sc_has b1 m 107).weaken (fun v post h => by rw [(has_3 hkd).2.2.2] at h; exact h)) [] [1] rfl rfl ?_
   rintro v post ⟨rfl, rfl⟩
   show G _ _ _ [_] _
   refine G_val rfl rfl rfl rfl (V_not rfl rfl) ?_
   refine G_val rfl rfl rfl rfl (V_move rfl rfl) ?_
   refine G_off rfl rfl rfl rfl ?_
   refine G_off rfl rfl rfl rfl ?_
   refine G_off rfl rfl rfl rfl ?_
   refine G_off rfl rfl rfl rfl ?_
   refine G_val rfl rfl rfl rfl (V_pickF rfl rfl rfl) ?_
   refine G_val rfl rfl rfl rfl (V_assign rfl rfl) ?_
   refine G_done ?_
   refine G_else rfl ?_
   refine G_skip ?_
   refine G_inBlock ?_
   refine G_seq ?_
   refine G_region (l := [0, 1, 2, 3, 4, 5, 6, 7, 8, 9, 10, 11, 12, 13, 14, 15, 16, 17, 18, 19, 20, 21, 22, 23, 24, 25, 26]) rfl ?_
   refine G_val rfl rfl rfl rfl (V_fieldAddr (fo := 1) rfl Try.underlying58 rfl infScriptW_9 rfl rfl rfl) ?_
   refine G_val rfl rfl rfl rfl (V_load1 rfl rfl (mem_at 1 rfl) rfl Try.underlying9 rfl) ?_
   refine G_val rfl rfl rfl rfl (V_slen rfl rfl Try.underlying9 rfl) ?_
   refine G_val rfl rfl rfl rfl (V_leq rfl rfl rfl) ?_
   refine G_val rfl rfl rfl rfl (V_move rfl rfl) ?_
   refine G_splitD 38 rfl (fun hc1 => ?_) (fun hc1 => ?_)
   · skip
     refine G_val rfl rfl rfl rfl (V_fieldAddr (fo := 3) rfl Try.underlying58 rfl infScriptW_3 rfl rfl rfl) ?_
     refine G_val rfl rfl rfl rfl (V_load1 rfl rfl (mem_at 1 rfl) rfl Try.underlying3 rfl) ?_
     refine G_val rfl rfl rfl rfl (V_geq rfl rfl rfl) ?_
     refine G_val rfl rfl rfl rfl (V_pickT rfl rfl rfl) ?_
     refine G_val rfl rfl rfl rfl (V_move rfl rfl) ?_
     refine G_splitD 43 rfl (fun hc2 => ?_) (fun hc2 => ?_)
     · skip
       refine G_val rfl rfl rfl rfl (V_fieldAddr (fo := 3) rfl Try.underlying58 rfl infScriptW_3 rfl rfl rfl) ?_
       refine G_val rfl rfl rfl rfl (V_load1 rfl rfl (mem_at 1 rfl) rfl Try.underlying3 rfl) ?_
       refine G_val rfl rfl rfl rfl (V_lss rfl rfl rfl) ?_
       refine G_val rfl rfl rfl rfl (V_pickT rfl rfl rfl) ?_
       refine G_val rfl rfl rfl rfl (V_move rfl rfl) ?_
       refine G_splitD 48 rfl (fun hc3 => ?_) (fun hc3 => ?_)
       · skip
         refine G_val rfl rfl rfl rfl (V_fieldAddr (fo := 4) rfl Try.underlying58 rfl infScriptW_56 rfl rfl rfl) ?_
         refine G_val rfl rfl rfl rfl (V_load1 rfl rfl (mem_at 1 rfl) rfl Try.underlying56 rfl) ?_
         refine G_val rfl rfl rfl rfl (V_len rfl rfl Try.underlying56 rfl) ?_
         refine G_val rfl rfl rfl rfl (V_leq rfl rfl rfl) ?_
         refine G_val rfl rfl rfl rfl (V_pickT rfl rfl rfl) ?_
         refine G_val rfl rfl rfl rfl (V_move rfl rfl) ?_
         refine G_splitD 54 rfl (fun hc4 => ?_) (fun hc4 => ?_)
         · skip
           refine G_val rfl rfl rfl rfl (V_fieldAddr (fo := 4) rfl Try.underlying58 rfl infScriptW_56 rfl rfl rfl) ?_
           refine G_val rfl rfl rfl rfl (V_load1 rfl rfl (mem_at 1 rfl) rfl Try.underlying56 rfl) ?_
           refine G_call (L2 := [_]) rfl rfl rfl rfl rfl rfl Try.call76 (sc_containsK m hm) [] [0] rfl rfl ?_
           rintro v post ⟨rfl, rfl⟩
           show G _ _ _ [_] _
           refine G_val rfl rfl rfl rfl (V_not rfl rfl) ?_
           refine G_val rfl rfl rfl rfl (V_pickT rfl rfl rfl) ?_
           refine G_val rfl rfl rfl rfl (V_assign rfl rfl) ?_
           refine G_done ?_
           refine G_ret (post := []) Try.func21 rfl (RVs_cons (RV_tmp rfl) RVs_nil) [] rfl ?_
           dsimp only [packed]
           first
             | (refine ⟨bool_eq (may_ff (by first | exact .inl (by omega) | exact .inr (.inl (by omega)) | exact .inr (.inr (.inl ⟨by omega, by assumption⟩)) | exact .inr (.inr (.inr (.inl ⟨by omega, by omega⟩))) | exact .inr (.inr (.inr (.inr (.inl ⟨by omega, by omega⟩)))) | exact .inr (.inr (.inr (.inr (.inr (.inl (by omega)))))) | exact .inr (.inr (.inr (.inr (.inr (.inr (.inl (by omega))))))) | exact .inr (.inr (.inr (.inr (.inr (.inr (.inr (.inl (by omega)))))))) | exact .inr (.inr (.inr (.inr (.inr (.inr (.inr (.inr (by assumption)))))))))).symm, rfl⟩; done)
             | (rcases hany : m.v.ks.any badK with _ | _
                · exact ⟨bool_eq (may_tt (by omega) (by omega) (by first | (intro hh; exfalso; omega) | (intro _; exact Classical.not_not.1 (by assumption)) | (intro _; assumption)) (by first | (intro hh; exfalso; omega) | (intro _; exact ⟨by omega, List.length_eq_zero_iff.1 (by omega)⟩)) (by omega) (by omega) hany).symm, rfl⟩
                · exact ⟨bool_eq (may_ff (by first | exact .inl (by omega) | exact .inr (.inl (by omega)) | exact .inr (.inr (.inl ⟨by omega, by assumption⟩)) | exact .inr (.inr (.inr (.inl ⟨by omega, by omega⟩))) | exact .inr (.inr (.inr (.inr (.inl ⟨by omega, by omega⟩)))) | exact .inr (.inr (.inr (.inr (.inr (.inl (by omega)))))) | exact .inr (.inr (.inr (.inr (.inr (.inr (.inl (by omega))))))) | exact .inr (.inr (.inr (.inr (.inr (.inr (.inr (.inl (by omega)))))))) | exact .inr (.inr (.inr (.inr (.inr (.inr (.inr (.inr (by assumption)))))))))).symm, rfl⟩)
         refine G_off rfl rfl rfl rfl ?_
         refine G_off rfl rfl rfl rfl ?_
         refine G_off rfl rfl rfl rfl ?_
         refine G_off rfl rfl rfl rfl ?_
         refine G_val rfl rfl rfl rfl (V_pickF rfl rfl rfl) ?_
         refine G_val rfl rfl rfl rfl (V_assign rfl rfl) ?_
         refine G_done ?_
         refine G_ret (post := []) Try.func21 rfl (RVs_cons (RV_tmp rfl) RVs_nil) [] rfl ?_
         dsimp only [packed]
         first
           | (refine ⟨bool_eq (may_ff (by first | exact .inl (by omega) | exact .inr (.inl (by omega)) | exact .inr (.inr (.inl ⟨by omega, by assumption⟩)) | exact .inr (.inr (.inr (.inl ⟨by omega, by omega⟩))) | exact .inr (.inr (.inr (.inr (.inl ⟨by omega, by omega⟩)))) | exact .inr (.inr (.inr (.inr (.inr (.inl (by omega)))))) | exact .inr (.inr (.inr (.inr (.inr (.inr (.inl (by omega))))))) | exact .inr (.inr (.inr (.inr (.inr (.inr (.inr (.inl (by omega)))))))) | exact .inr (.inr (.inr (.inr (.inr (.inr (.inr (.inr (by assumption)))))))))).symm, rfl⟩; done)
           | (rcases hany : m.v.ks.any badK with _ | _
              · exact ⟨bool_eq (may_tt (by omega) (by omega) (by first | (intro hh; exfalso; omega) | (intro _; exact Classical.not_not.1 (by assumption)) | (intro _; assumption)) (by first | (intro hh; exfalso; omega) | (intro _; exact ⟨by omega, List.length_eq_zero_iff.1 (by omega)⟩)) (by omega) (by omega) hany).symm, rfl⟩
              · exact ⟨bool_eq (may_ff (by first | exact .inl (by omega) | exact .inr (.inl (by omega)) | exact .inr (.inr (.inl ⟨by omega, by assumption⟩)) | exact .inr (.inr (.inr (.inl ⟨by omega, by omega⟩))) | exact .inr (.inr (.inr (.inr (.inl ⟨by omega, by omega⟩)))) | exact .inr (.inr (.inr (.inr (.inr (.inl (by omega)))))) | exact .inr (.inr (.inr (.inr (.inr (.inr (.inl (by omega))))))) | exact .inr (.inr (.inr (.inr (.inr (.inr (.inr (.inl (by omega)))))))) | exact .inr (.inr (.inr (.inr (.inr (.inr (.inr (.inr (by assumption)))))))))).symm, rfl⟩)
       refine G_off rfl rfl rfl rfl ?_
       refine G_off rfl rfl rfl rfl ?_
       refine G_off rfl rfl rfl rfl ?_
       refine G_off rfl rfl rfl rfl ?_
       refine G_val rfl rfl rfl rfl (V_pickF rfl rfl rfl) ?_
       refine G_val rfl rfl rfl rfl (V_move rfl rfl) ?_
       refine G_off rfl rfl rfl rfl ?_
       refine G_off rfl rfl rfl rfl ?_
       refine G_off rfl rfl rfl rfl ?_
       refine G_off rfl rfl rfl rfl ?_
       refine G_val rfl rfl rfl rfl (V_pickF rfl rfl rfl) ?_
       refine G_val rfl rfl rfl rfl (V_assign rfl rfl) ?_
       refine G_done ?_
       refine G_ret (post := []) Try.func21 rfl (RVs_cons (RV_tmp rfl) RVs_nil) [] rfl ?_
       dsimp only [packed]
       first
         | (refine ⟨bool_eq (may_ff (by first | exact .inl (by omega) | exact .inr (.inl (by omega)) | exact .inr (.inr (.inl ⟨by omega, by assumption⟩)) | exact .inr (.inr (.inr (.inl ⟨by omega, by omega⟩))) | exact .inr (.inr (.inr (.inr (.inl ⟨by omega, by omega⟩)))) | exact .inr (.inr (.inr (.inr (.inr (.inl (by omega)))))) | exact .inr (.inr (.inr (.inr (.inr (.inr (.inl (by omega))))))) | exact .inr (.inr (.inr (.inr (.inr (.inr (.inr (.inl (by omega)))))))) | exact .inr (.inr (.inr (.inr (.inr (.inr (.inr (.inr (by assumption)))))))))).symm, rfl⟩; done)
         | (rcases hany : m.v.ks.any badK with _ | _
            · exact ⟨bool_eq (may_tt (by omega) (by omega) (by first | (intro hh; exfalso; omega) | (intro _; exact Classical.not_not.1 (by assumption)) | (intro _; assumption)) (by first | (intro hh; exfalso; omega) | (intro _; exact ⟨by omega, List.length_eq_zero_iff.1 (by omega)⟩)) (by omega) (by omega) hany).symm, rfl⟩
            · exact ⟨bool_eq (may_ff (by first | exact .inl (by omega) | exact .inr (.inl (by omega)) | exact .inr (.inr (.inl ⟨by omega, by assumption⟩)) | exact .inr (.inr (.inr (.inl ⟨by omega, by omega⟩))) | exact .inr (.inr (.inr (.inr (.inl ⟨by omega, by omega⟩)))) | exact .inr (.inr (.inr (.inr (.inr (.inl (by omega)))))) | exact .inr (.inr (.inr (.inr (.inr (.inr (.inl (by omega))))))) | exact .inr (.inr (.inr (.inr (.inr (.inr (.inr (.inl (by omega)))))))) | exact .inr (.inr (.inr (.inr (.inr (.inr (.inr (.inr (by assumption)))))))))).symm, rfl⟩)
     refine G_off rfl rfl rfl rfl ?_
     refine G_off rfl rfl rfl rfl ?_
     refine G_off rfl rfl rfl rfl ?_
     refine G_val rfl rfl rfl rfl (V_pickF rfl rfl rfl) ?_
     refine G_val rfl rfl rfl rfl (V_move rfl rfl) ?_
     refine G_off rfl rfl rfl rfl ?_
     refine G_off rfl rfl rfl rfl ?_
     refine G_off rfl rfl rfl rfl ?_
     refine G_off rfl rfl rfl rfl ?_
     refine G_val rfl rfl rfl rfl (V_pickF rfl rfl rfl) ?_
     refine G_val rfl rfl rfl rfl (V_move rfl rfl) ?_
     refine G_off rfl rfl rfl rfl ?_
     refine G_off rfl rfl rfl rfl ?_
     refine G_off rfl rfl rfl rfl ?_
     refine G_off rfl rfl rfl rfl ?_
     refine G_val rfl rfl rfl rfl (V_pickF rfl rfl rfl) ?_
     refine G_val rfl rfl rfl rfl (V_assign rfl rfl) ?_
     refine G_done ?_
     refine G_ret (post := []) Try.func21 rfl (RVs_cons (RV_tmp rfl) RVs_nil) [] rfl ?_
     dsimp only [packed]
     first
       | (refine ⟨bool_eq (may_ff (by first | exact .inl (by omega) | exact .inr (.inl (by omega)) | exact .inr (.inr (.inl ⟨by omega, by assumption⟩)) | exact .inr (.inr (.inr (.inl ⟨by omega, by omega⟩))) | exact .inr (.inr (.inr (.inr (.inl ⟨by omega, by omega⟩)))) | exact .inr (.inr (.inr (.inr (.inr (.inl (by omega)))))) | exact .inr (.inr (.inr (.inr (.inr (.inr (.inl (by omega))))))) | exact .inr (.inr (.inr (.inr (.inr (.inr (.inr (.inl (by omega)))))))) | exact .inr (.inr (.inr (.inr (.inr (.inr (.inr (.inr (by assumption)))))))))).symm, rfl⟩; done)
       | (rcases hany : m.v.ks.any badK with _ | _
          · exact ⟨bool_eq (may_tt (by omega) (by omega) (by first | (intro hh; exfalso; omega) | (intro _; exact Classical.not_not.1 (by assumption)) | (intro _; assumption)) (by first | (intro hh; exfalso; omega) | (intro _; exact ⟨by omega, List.length_eq_zero_iff.1 (by omega)⟩)) (by omega) (by omega) hany).symm, rfl⟩
          · exact ⟨bool_eq (may_ff (by first | exact .inl (by omega) | exact .inr (.inl (by omega)) | exact .inr (.inr (.inl ⟨by omega, by assumption⟩)) | exact .inr (.inr (.inr (.inl ⟨by omega, by omega⟩))) | exact .inr (.inr (.inr (.inr (.inl ⟨by omega, by omega⟩)))) | exact .inr (.inr (.inr (.inr (.inr (.inl (by omega)))))) | exact .inr (.inr (.inr (.inr (.inr (.inr (.inl (by omega))))))) | exact .inr (.inr (.inr (.inr (.inr (.inr (.inr (.inl (by omega)))))))) | exact .inr (.inr (.inr (.inr (.inr (.inr (.inr (.inr (by assumption)))))))))).symm, rfl⟩)
   refine G_off rfl rfl rfl rfl ?_
   refine G_off rfl rfl rfl rfl ?_
   refine G_off rfl rfl rfl rfl ?_
   refine G_val rfl rfl rfl rfl (V_pickF rfl rfl rfl) ?_
   refine G_val rfl rfl rfl rfl (V_move rfl rfl) ?_
   refine G_off rfl rfl rfl rfl ?_
   refine G_off rfl rfl rfl rfl ?_
   refine G_off rfl rfl rfl rfl ?_
   refine G_val rfl rfl rfl rfl (V_pickF rfl rfl rfl) ?_
   refine G_val rfl rfl rfl rfl (V_move rfl rfl) ?_
   refine G_off rfl rfl rfl rfl ?_
   refine G_off rfl rfl rfl rfl ?_
   refine G_off rfl rfl rfl rfl ?_
   refine G_off rfl rfl rfl rfl ?_
   refine G_val rfl rfl rfl rfl (V_pickF rfl rfl rfl) ?_
   refine G_val rfl rfl rfl rfl (V_move rfl rfl) ?_
   refine G_off rfl rfl rfl rfl ?_
   refine G_off rfl rfl rfl rfl ?_
   refine G_off rfl rfl rfl rfl ?_
   refine G_off rfl rfl rfl rfl ?_
   refine G_val rfl rfl rfl rfl (V_pickF rfl rfl rfl) ?_
   refine G_val rfl rfl rfl rfl (V_assign rfl rfl) ?_
   refine G_done ?_
   refine G_ret (post := []) Try.func21 rfl (RVs_cons (RV_tmp rfl) RVs_nil) [] rfl ?_
   dsimp only [packed]
   first
     | (refine ⟨bool_eq (may_ff (by first | exact .inl (by omega) | exact .inr (.inl (by omega)) | exact .inr (.inr (.inl ⟨by omega, by assumption⟩)) | exact .inr (.inr (.inr (.inl ⟨by omega, by omega⟩))) | exact .inr (.inr (.inr (.inr (.inl ⟨by omega, by omega⟩)))) | exact .inr (.inr (.inr (.inr (.inr (.inl (by omega)))))) | exact .inr (.inr (.inr (.inr (.inr (.inr (.inl (by omega))))))) | exact .inr (.inr (.inr (.inr (.inr (.inr (.inr (.inl (by omega)))))))) | exact .inr (.inr (.inr (.inr (.inr (.inr (.inr (.inr (by assumption)))))))))).symm, rfl⟩; done)
     | (rcases hany : m.v.ks.any badK with _ | _
        · exact ⟨bool_eq (may_tt (by omega) (by omega) (by first | (intro hh; exfalso; omega) | (intro _; exact Classical.not_not.1 (by assumption)) | (intro _; assumption)) (by first | (intro hh; exfalso; omega) | (intro _; exact ⟨by omega, List.length_eq_zero_iff.1 (by omega)⟩)) (by omega) (by omega) hany).symm, rfl⟩
        · exact ⟨bool_eq (may_ff (by first | exact .inl (by omega) | exact .inr (.inl (by omega)) | exact .inr (.inr (.inl ⟨by omega, by assumption⟩)) | exact .inr (.inr (.inr (.inl ⟨by omega, by omega⟩))) | exact .inr (.inr (.inr (.inr (.inl ⟨by omega, by omega⟩)))) | exact .inr (.inr (.inr (.inr (.inr (.inl (by omega)))))) | exact .inr (.inr (.inr (.inr (.inr (.inr (.inl (by omega))))))) | exact .inr (.inr (.inr (.inr (.inr (.inr (.inr (.inl (by omega)))))))) | exact .inr (.inr (.inr (.inr (.inr (.inr (.inr (.inr (by assumption)))))))))).symm, rfl⟩)
 · skip
   refine G_region (l := [0, 1]) rfl ?_
   refine G_val rfl rfl rfl rfl (V_func rfl rfl rfl) ?_
   refine G_val rfl rfl rfl rfl (V_assign rfl rfl) ?_
   refine G_done ?_
   refine G_seq ?_
   refine G_block ?_
   refine G_seq ?_
   refine G_seq ?_
   refine G_region (l := [0, 1, 2, 3]) rfl ?_
   refine G_val rfl rfl rfl rfl (V_move rfl rfl) ?_
   refine G_callC (L2 := [_]) rfl rfl rfl rfl rfl rfl Try.call73 rfl ((sc_has b1 m 116).weaken (fun v post h => by rw [(has_0 hkd).1] at h; exact h)) [] [1] rfl rfl ?_
   rintro v post ⟨rfl, rfl⟩
   show G _ _ _ [_] _
   refine G_val rfl rfl rfl rfl (V_not rfl rfl) ?_
   refine G_val rfl rfl rfl rfl (V_assign rfl rfl) ?_
   refine G_done ?_
   refine G_then rfl ?_
   refine G_skip ?_
   refine G_then rfl ?_
   refine G_seq ?_
   refine G_region (l := [0]) rfl ?_
   refine G_val rfl rfl rfl rfl (V_assign rfl rfl) ?_
   refine G_done ?_
   refine G_ret (post := []) Try.func21 rfl (RVs_cons (RV_tmp rfl) RVs_nil) [] rfl ?_
   dsimp only [packed]
   first
     | (refine ⟨bool_eq (may_ff (by first | exact .inl (by omega) | exact .inr (.inl (by omega)) | exact .inr (.inr (.inl ⟨by omega, by assumption⟩)) | exact .inr (.inr (.inr (.inl ⟨by omega, by omega⟩))) | exact .inr (.inr (.inr (.inr (.inl ⟨by omega, by omega⟩)))) | exact .inr (.inr (.inr (.inr (.inr (.inl (by omega)))))) | exact .inr (.inr (.inr (.inr (.inr (.inr (.inl (by omega))))))) | exact .inr (.inr (.inr (.inr (.inr (.inr (.inr (.inl (by omega)))))))) | exact .inr (.inr (.inr (.inr (.inr (.inr (.inr (.inr (by assumption)))))))))).symm, rfl⟩; done)
     | (rcases hany : m.v.ks.any badK with _ | _
        · exact ⟨bool_eq (may_tt (by omega) (by omega) (by first | (intro hh; exfalso; omega) | (intro _; exact Classical.not_not.1 (by assumption)) | (intro _; assumption)) (by first | (intro hh; exfalso; omega) | (intro _; exact ⟨by omega, List.length_eq_zero_iff.1 (by omega)⟩)) (by omega) (by omega) hany).symm, rfl⟩
        · exact ⟨bool_eq (may_ff (by first | exact .inl (by omega) | exact .inr (.inl (by omega)) | exact .inr (.inr (.inl ⟨by omega, by assumption⟩)) | exact .inr (.inr (.inr (.inl ⟨by omega, by omega⟩))) | exact .inr (.inr (.inr (.inr (.inl ⟨by omega, by omega⟩)))) | exact .inr (.inr (.inr (.inr (.inr (.inl (by omega)))))) | exact .inr (.inr (.inr (.inr (.inr (.inr (.inl (by omega))))))) | exact .inr (.inr (.inr (.inr (.inr (.inr (.inr (.inl (by omega)))))))) | exact .inr (.inr (.inr (.inr (.inr (.inr (.inr (.inr (by assumption)))))))))).symm, rfl⟩)


theorem dec_both {P Q : Prop} {i1 : Decidable P} {i2 : Decidable Q} (h1 : P → decide Q = true) (h2 : ¬ P → decide Q = false) : decide P = decide Q := by
  by_cases h : P
  · rw [h1 h]; exact decide_eq_true h
  · rw [h2 h]; exact decide_eq_false h

set_option maxRecDepth 100000 in
set_option maxHeartbeats 1000000 in
theorem rsc_may (m : Em) (hm : EmOk m) :
    Ct Try.prog 22 [.agg (evC m).toArray] [evK m] [] fun v post => v = .bool (decide (MayE m.v)) ∧ post = [] := by
 have hle := hm.le
 have hmax := hm.max
 obtain ⟨hk0, hk1⟩ := hm.k
 obtain ⟨hf0, hf1⟩ := hm.f
 have hb1 := hm.b
 have ht1 := hm.t
 refine ct_of Try.func22 rfl rfl (fun w0 => ?_)
 show G _ _ [(0, _)] _ _
 refine G_seq ?_
 refine G_region (l := [0, 1]) rfl ?_
 refine G_new rfl rfl rfl rfl (N_boxA rfl rfl) (fun b1 => ?_)
 refine G_val rfl rfl rfl rfl (V_assign rfl rfl) ?_
 refine G_done ?_
 refine G_seq ?_
 refine G_seq ?_
 refine G_region (l := [0, 1, 2, 3, 4, 5, 6, 7, 8, 9, 10, 11, 12, 13, 14, 15, 16, 17, 18, 19, 20, 21, 22, 23]) rfl ?_
 refine G_val rfl rfl rfl rfl (V_fieldAddr (fo := 0) rfl Try.underlying58 rfl infScriptW_3 rfl rfl rfl) ?_
 refine G_val rfl rfl rfl rfl (V_load1 rfl rfl (mem_at 1 rfl) rfl Try.underlying3 rfl) ?_
 refine G_val rfl rfl rfl rfl (V_lss rfl rfl rfl) ?_
 refine G_val rfl rfl rfl rfl (V_move rfl rfl) ?_
 refine G_splitD 8 rfl (fun hc1 => ?_) (fun hc1 => ?_)
 · skip
   refine G_off rfl rfl rfl rfl ?_
   refine G_off rfl rfl rfl rfl ?_
   refine G_off rfl rfl rfl rfl ?_
   refine G_val rfl rfl rfl rfl (V_pickT rfl rfl rfl) ?_
   refine G_val rfl rfl rfl rfl (V_move rfl rfl) ?_
   refine G_off rfl rfl rfl rfl ?_
   refine G_off rfl rfl rfl rfl ?_
   refine G_off rfl rfl rfl rfl ?_
   refine G_off rfl rfl rfl rfl ?_
   refine G_val rfl rfl rfl rfl (V_pickT rfl rfl rfl) ?_
   refine G_val rfl rfl rfl rfl (V_move rfl rfl) ?_
   refine G_off rfl rfl rfl rfl ?_
   refine G_off rfl rfl rfl rfl ?_
   refine G_off rfl rfl rfl rfl ?_
   refine G_off rfl rfl rfl rfl ?_
   refine G_off rfl rfl rfl rfl ?_
   refine G_off rfl rfl rfl rfl ?_
   refine G_off rfl rfl rfl rfl ?_
   refine G_off rfl rfl rfl rfl ?_
   refine G_val rfl rfl rfl rfl (V_pickT rfl rfl rfl) ?_
   refine G_done ?_
   refine G_then rfl ?_
   refine G_seq ?_
   refine G_region (l := [0]) rfl ?_
   refine G_val rfl rfl rfl rfl (V_assign rfl rfl) ?_
   refine G_done ?_
   refine G_ret (post := []) Try.func22 rfl (RVs_cons (RV_tmp rfl) RVs_nil) [] rfl ?_
   dsimp only [packed]
   first
     | exact ⟨bool_eq (may_ff (by first | exact .inl (by omega) | exact .inr (.inl (by omega)) | exact .inr (.inr (.inl ⟨by omega, by assumption⟩)) | exact .inr (.inr (.inr (.inl ⟨by omega, by omega⟩))) | exact .inr (.inr (.inr (.inr (.inl ⟨by omega, by omega⟩)))) | exact .inr (.inr (.inr (.inr (.inr (.inl (by omega)))))) | exact .inr (.inr (.inr (.inr (.inr (.inr (.inl (by omega))))))) | exact .inr (.inr (.inr (.inr (.inr (.inr (.inr (.inl (by omega)))))))) | exact .inr (.inr (.inr (.inr (.inr (.inr (.inr (.inr (by assumption)))))))) | exact .inr (.inr (.inr (.inr (.inr (.inr (.inr (.inr (any_yes hx (by unfold badK; rw [decide_eq_true_eq]; omega))))))))))).symm, rfl⟩
     | exact ⟨bool_eq (dec_both (fun hz => (may_tt (by omega) (by omega) (by first | (intro hh; exfalso; omega) | (intro _; exact Classical.not_not.1 (by assumption)) | (intro _; assumption)) (by first | (intro hh; exfalso; omega) | (intro _; exact ⟨by omega, List.length_eq_zero_iff.1 (by omega)⟩)) (by omega) (by omega) (by first | exact any_end ht (by omega) | (rw [List.length_eq_zero_iff.1 (show m.v.ks.length = 0 by omega)]; rfl)))) (fun hz => may_ff (by first | exact .inl (by omega) | exact .inr (.inl (by omega)) | exact .inr (.inr (.inl ⟨by omega, by assumption⟩)) | exact .inr (.inr (.inr (.inl ⟨by omega, by omega⟩))) | exact .inr (.inr (.inr (.inr (.inl ⟨by omega, by omega⟩)))) | exact .inr (.inr (.inr (.inr (.inr (.inl (by omega)))))) | exact .inr (.inr (.inr (.inr (.inr (.inr (.inl (by omega))))))) | exact .inr (.inr (.inr (.inr (.inr (.inr (.inr (.inl (by omega)))))))) | exact .inr (.inr (.inr (.inr (.inr (.inr (.inr (.inr (by assumption)))))))) | exact .inr (.inr (.inr (.inr (.inr (.inr (.inr (.inr (any_yes hx (by unfold badK; rw [decide_eq_true_eq]; omega)))))))))))), rfl⟩
 refine G_val rfl rfl rfl rfl (V_fieldAddr (fo := 0) rfl Try.underlying58 rfl infScriptW_3 rfl rfl rfl) ?_
 refine G_val rfl rfl rfl rfl (V_load1 rfl rfl (mem_at 1 rfl) rfl Try.underlying3 rfl) ?_
 refine G_val rfl rfl rfl rfl (V_gtr rfl rfl rfl) ?_
 refine G_val rfl rfl rfl rfl (V_pickF rfl rfl rfl) ?_
 refine G_val rfl rfl rfl rfl (V_move rfl rfl) ?_
 refine G_splitD 13 rfl (fun hc2 => ?_) (fun hc2 => ?_)
 · skip
   refine G_off rfl rfl rfl rfl ?_
   refine G_off rfl rfl rfl rfl ?_
   refine G_off rfl rfl rfl rfl ?_
   refine G_off rfl rfl rfl rfl ?_
   refine G_val rfl rfl rfl rfl (V_pickT rfl rfl rfl) ?_
   refine G_val rfl rfl rfl rfl (V_move rfl rfl) ?_
   refine G_off rfl rfl rfl rfl ?_
   refine G_off rfl rfl rfl rfl ?_
   refine G_off rfl rfl rfl rfl ?_
   refine G_off rfl rfl rfl rfl ?_
   refine G_off rfl rfl rfl rfl ?_
   refine G_off rfl rfl rfl rfl ?_
   refine G_off rfl rfl rfl rfl ?_
   refine G_off rfl rfl rfl rfl ?_
   refine G_val rfl rfl rfl rfl (V_pickT rfl rfl rfl) ?_
   refine G_done ?_
   refine G_then rfl ?_
   refine G_seq ?_
   refine G_region (l := [0]) rfl ?_
   refine G_val rfl rfl rfl rfl (V_assign rfl rfl) ?_
   refine G_done ?_
   refine G_ret (post := []) Try.func22 rfl (RVs_cons (RV_tmp rfl) RVs_nil) [] rfl ?_
   dsimp only [packed]
   first
     | exact ⟨bool_eq (may_ff (by first | exact .inl (by omega) | exact .inr (.inl (by omega)) | exact .inr (.inr (.inl ⟨by omega, by assumption⟩)) | exact .inr (.inr (.inr (.inl ⟨by omega, by omega⟩))) | exact .inr (.inr (.inr (.inr (.inl ⟨by omega, by omega⟩)))) | exact .inr (.inr (.inr (.inr (.inr (.inl (by omega)))))) | exact .inr (.inr (.inr (.inr (.inr (.inr (.inl (by omega))))))) | exact .inr (.inr (.inr (.inr (.inr (.inr (.inr (.inl (by omega)))))))) | exact .inr (.inr (.inr (.inr (.inr (.inr (.inr (.inr (by assumption)))))))) | exact .inr (.inr (.inr (.inr (.inr (.inr (.inr (.inr (any_yes hx (by unfold badK; rw [decide_eq_true_eq]; omega))))))))))).symm, rfl⟩
     | exact ⟨bool_eq (dec_both (fun hz => (may_tt (by omega) (by omega) (by first | (intro hh; exfalso; omega) | (intro _; exact Classical.not_not.1 (by assumption)) | (intro _; assumption)) (by first | (intro hh; exfalso; omega) | (intro _; exact ⟨by omega, List.length_eq_zero_iff.1 (by omega)⟩)) (by omega) (by omega) (by first | exact any_end ht (by omega) | (rw [List.length_eq_zero_iff.1 (show m.v.ks.length = 0 by omega)]; rfl)))) (fun hz => may_ff (by first | exact .inl (by omega) | exact .inr (.inl (by omega)) | exact .inr (.inr (.inl ⟨by omega, by assumption⟩)) | exact .inr (.inr (.inr (.inl ⟨by omega, by omega⟩))) | exact .inr (.inr (.inr (.inr (.inl ⟨by omega, by omega⟩)))) | exact .inr (.inr (.inr (.inr (.inr (.inl (by omega)))))) | exact .inr (.inr (.inr (.inr (.inr (.inr (.inl (by omega))))))) | exact .inr (.inr (.inr (.inr (.inr (.inr (.inr (.inl (by omega)))))))) | exact .inr (.inr (.inr (.inr (.inr (.inr (.inr (.inr (by assumption)))))))) | exact .inr (.inr (.inr (.inr (.inr (.inr (.inr (.inr (any_yes hx (by unfold badK; rw [decide_eq_true_eq]; omega)))))))))))), rfl⟩
 refine G_val rfl rfl rfl rfl (V_fieldAddr (fo := 1) rfl Try.underlying58 rfl infScriptW_9 rfl rfl rfl) ?_
 refine G_val rfl rfl rfl rfl (V_load1 rfl rfl (mem_at 1 rfl) rfl Try.underlying9 rfl) ?_
 refine G_val rfl rfl rfl rfl (V_slen rfl rfl Try.underlying9 rfl) ?_
 refine G_val rfl rfl rfl rfl (V_gtr rfl rfl rfl) ?_
 refine G_val rfl rfl rfl rfl (V_pickF rfl rfl rfl) ?_
 refine G_val rfl rfl rfl rfl (V_move rfl rfl) ?_
 refine G_splitD 19 rfl (fun hc3 => ?_) (fun hc3 => ?_)
 · skip
   refine G_off rfl rfl rfl rfl ?_
   refine G_off rfl rfl rfl rfl ?_
   refine G_off rfl rfl rfl rfl ?_
   refine G_off rfl rfl rfl rfl ?_
   refine G_off rfl rfl rfl rfl ?_
   refine G_off rfl rfl rfl rfl ?_
   refine G_off rfl rfl rfl rfl ?_
   refine G_off rfl rfl rfl rfl ?_
   refine G_val rfl rfl rfl rfl (V_pickT rfl rfl rfl) ?_
   refine G_done ?_
   refine G_then rfl ?_
   refine G_seq ?_
   refine G_region (l := [0]) rfl ?_
   refine G_val rfl rfl rfl rfl (V_assign rfl rfl) ?_
   refine G_done ?_
   refine G_ret (post := []) Try.func22 rfl (RVs_cons (RV_tmp rfl) RVs_nil) [] rfl ?_
   dsimp only [packed]
   first
     | exact ⟨bool_eq (may_ff (by first | exact .inl (by omega) | exact .inr (.inl (by omega)) | exact .inr (.inr (.inl ⟨by omega, by assumption⟩)) | exact .inr (.inr (.inr (.inl ⟨by omega, by omega⟩))) | exact .inr (.inr (.inr (.inr (.inl ⟨by omega, by omega⟩)))) | exact .inr (.inr (.inr (.inr (.inr (.inl (by omega)))))) | exact .inr (.inr (.inr (.inr (.inr (.inr (.inl (by omega))))))) | exact .inr (.inr (.inr (.inr (.inr (.inr (.inr (.inl (by omega)))))))) | exact .inr (.inr (.inr (.inr (.inr (.inr (.inr (.inr (by assumption)))))))) | exact .inr (.inr (.inr (.inr (.inr (.inr (.inr (.inr (any_yes hx (by unfold badK; rw [decide_eq_true_eq]; omega))))))))))).symm, rfl⟩
     | exact ⟨bool_eq (dec_both (fun hz => (may_tt (by omega) (by omega) (by first | (intro hh; exfalso; omega) | (intro _; exact Classical.not_not.1 (by assumption)) | (intro _; assumption)) (by first | (intro hh; exfalso; omega) | (intro _; exact ⟨by omega, List.length_eq_zero_iff.1 (by omega)⟩)) (by omega) (by omega) (by first | exact any_end ht (by omega) | (rw [List.length_eq_zero_iff.1 (show m.v.ks.length = 0 by omega)]; rfl)))) (fun hz => may_ff (by first | exact .inl (by omega) | exact .inr (.inl (by omega)) | exact .inr (.inr (.inl ⟨by omega, by assumption⟩)) | exact .inr (.inr (.inr (.inl ⟨by omega, by omega⟩))) | exact .inr (.inr (.inr (.inr (.inl ⟨by omega, by omega⟩)))) | exact .inr (.inr (.inr (.inr (.inr (.inl (by omega)))))) | exact .inr (.inr (.inr (.inr (.inr (.inr (.inl (by omega))))))) | exact .inr (.inr (.inr (.inr (.inr (.inr (.inr (.inl (by omega)))))))) | exact .inr (.inr (.inr (.inr (.inr (.inr (.inr (.inr (by assumption)))))))) | exact .inr (.inr (.inr (.inr (.inr (.inr (.inr (.inr (any_yes hx (by unfold badK; rw [decide_eq_true_eq]; omega)))))))))))), rfl⟩
 refine G_val rfl rfl rfl rfl (V_fieldAddr (fo := 0) rfl Try.underlying58 rfl infScriptW_3 rfl rfl rfl) ?_
 refine G_val rfl rfl rfl rfl (V_load1 rfl rfl (mem_at 1 rfl) rfl Try.underlying3 rfl) ?_
 refine G_val rfl rfl rfl rfl (V_eql rfl rfl rfl) ?_
 refine G_val rfl rfl rfl rfl (V_move rfl rfl) ?_
 refine G_splitD 23 rfl (fun hc4 => ?_) (fun hc4 => ?_)
 · skip
   refine G_val rfl rfl rfl rfl (V_fieldAddr (fo := 1) rfl Try.underlying58 rfl infScriptW_9 rfl rfl rfl) ?_
   refine G_val rfl rfl rfl rfl (V_load1 rfl rfl (mem_at 1 rfl) rfl Try.underlying9 rfl) ?_
   refine G_val rfl rfl rfl rfl (V_sneq rfl rfl rfl) ?_
   refine G_val rfl rfl rfl rfl (V_pickT rfl rfl rfl) ?_
   refine G_val rfl rfl rfl rfl (V_pickF rfl rfl rfl) ?_
   refine G_done ?_
   refine G_ifD rfl (fun hc5 => ?_) (fun hc5 => ?_)
   · skip
     refine G_seq ?_
     refine G_region (l := [0]) rfl ?_
     refine G_val rfl rfl rfl rfl (V_assign rfl rfl) ?_
     refine G_done ?_
     refine G_ret (post := []) Try.func22 rfl (RVs_cons (RV_tmp rfl) RVs_nil) [] rfl ?_
     dsimp only [packed]
     first
       | exact ⟨bool_eq (may_ff (by first | exact .inl (by omega) | exact .inr (.inl (by omega)) | exact .inr (.inr (.inl ⟨by omega, by assumption⟩)) | exact .inr (.inr (.inr (.inl ⟨by omega, by omega⟩))) | exact .inr (.inr (.inr (.inr (.inl ⟨by omega, by omega⟩)))) | exact .inr (.inr (.inr (.inr (.inr (.inl (by omega)))))) | exact .inr (.inr (.inr (.inr (.inr (.inr (.inl (by omega))))))) | exact .inr (.inr (.inr (.inr (.inr (.inr (.inr (.inl (by omega)))))))) | exact .inr (.inr (.inr (.inr (.inr (.inr (.inr (.inr (by assumption)))))))) | exact .inr (.inr (.inr (.inr (.inr (.inr (.inr (.inr (any_yes hx (by unfold badK; rw [decide_eq_true_eq]; omega))))))))))).symm, rfl⟩
       | exact ⟨bool_eq (dec_both (fun hz => (may_tt (by omega) (by omega) (by first | (intro hh; exfalso; omega) | (intro _; exact Classical.not_not.1 (by assumption)) | (intro _; assumption)) (by first | (intro hh; exfalso; omega) | (intro _; exact ⟨by omega, List.length_eq_zero_iff.1 (by omega)⟩)) (by omega) (by omega) (by first | exact any_end ht (by omega) | (rw [List.length_eq_zero_iff.1 (show m.v.ks.length = 0 by omega)]; rfl)))) (fun hz => may_ff (by first | exact .inl (by omega) | exact .inr (.inl (by omega)) | exact .inr (.inr (.inl ⟨by omega, by assumption⟩)) | exact .inr (.inr (.inr (.inl ⟨by omega, by omega⟩))) | exact .inr (.inr (.inr (.inr (.inl ⟨by omega, by omega⟩)))) | exact .inr (.inr (.inr (.inr (.inr (.inl (by omega)))))) | exact .inr (.inr (.inr (.inr (.inr (.inr (.inl (by omega))))))) | exact .inr (.inr (.inr (.inr (.inr (.inr (.inr (.inl (by omega)))))))) | exact .inr (.inr (.inr (.inr (.inr (.inr (.inr (.inr (by assumption)))))))) | exact .inr (.inr (.inr (.inr (.inr (.inr (.inr (.inr (any_yes hx (by unfold badK; rw [decide_eq_true_eq]; omega)))))))))))), rfl⟩
   refine G_skip ?_
   refine G_seq ?_
   refine G_seq ?_
   refine G_region (l := [0, 1, 2]) rfl ?_
   refine G_val rfl rfl rfl rfl (V_fieldAddr (fo := 0) rfl Try.underlying58 rfl infScriptW_3 rfl rfl rfl) ?_
   refine G_val rfl rfl rfl rfl (V_load1 rfl rfl (mem_at 1 rfl) rfl Try.underlying3 rfl) ?_
   refine G_val rfl rfl rfl rfl (V_neq rfl rfl rfl) ?_
   refine G_done ?_
   refine G_ifD rfl (fun hc6 => ?_) (fun hc6 => ?_)
   rotate_left
   · (first | contradiction | (exact absurd rfl hc6) | (exfalso; omega) | (simp at hc6; done) | (exact absurd hc6 (by decide)) | (exact absurd (by decide) hc6))
   refine G_seq ?_
   refine G_region (l := [0, 1, 2, 3, 4, 5, 6, 7, 8, 9]) rfl ?_
   refine G_val rfl rfl rfl rfl (V_fieldAddr (fo := 3) rfl Try.underlying58 rfl infScriptW_3 rfl rfl rfl) ?_
   refine G_val rfl rfl rfl rfl (V_load1 rfl rfl (mem_at 1 rfl) rfl Try.underlying3 rfl) ?_
   refine G_val rfl rfl rfl rfl (V_eql rfl rfl rfl) ?_
   refine G_val rfl rfl rfl rfl (V_move rfl rfl) ?_
   refine G_splitD 35 rfl (fun hc7 => ?_) (fun hc7 => ?_)
   · skip
     refine G_val rfl rfl rfl rfl (V_fieldAddr (fo := 4) rfl Try.underlying58 rfl infScriptW_56 rfl rfl rfl) ?_
     refine G_val rfl rfl rfl rfl (V_load1 rfl rfl (mem_at 1 rfl) rfl Try.underlying56 rfl) ?_
     refine G_val rfl rfl rfl rfl (V_len rfl rfl Try.underlying56 rfl) ?_
     refine G_val rfl rfl rfl rfl (V_eql rfl rfl rfl) ?_
     refine G_val rfl rfl rfl rfl (V_pickT rfl rfl rfl) ?_
     refine G_val rfl rfl rfl rfl (V_assign rfl rfl) ?_
     refine G_done ?_
     refine G_ret (post := []) Try.func22 rfl (RVs_cons (RV_tmp rfl) RVs_nil) [] rfl ?_
     dsimp only [packed]
     first
       | exact ⟨bool_eq (may_ff (by first | exact .inl (by omega) | exact .inr (.inl (by omega)) | exact .inr (.inr (.inl ⟨by omega, by assumption⟩)) | exact .inr (.inr (.inr (.inl ⟨by omega, by omega⟩))) | exact .inr (.inr (.inr (.inr (.inl ⟨by omega, by omega⟩)))) | exact .inr (.inr (.inr (.inr (.inr (.inl (by omega)))))) | exact .inr (.inr (.inr (.inr (.inr (.inr (.inl (by omega))))))) | exact .inr (.inr (.inr (.inr (.inr (.inr (.inr (.inl (by omega)))))))) | exact .inr (.inr (.inr (.inr (.inr (.inr (.inr (.inr (by assumption)))))))) | exact .inr (.inr (.inr (.inr (.inr (.inr (.inr (.inr (any_yes hx (by unfold badK; rw [decide_eq_true_eq]; omega))))))))))).symm, rfl⟩
       | exact ⟨bool_eq (dec_both (fun hz => (may_tt (by omega) (by omega) (by first | (intro hh; exfalso; omega) | (intro _; exact Classical.not_not.1 (by assumption)) | (intro _; assumption)) (by first | (intro hh; exfalso; omega) | (intro _; exact ⟨by omega, List.length_eq_zero_iff.1 (by omega)⟩)) (by omega) (by omega) (by first | exact any_end ht (by omega) | (rw [List.length_eq_zero_iff.1 (show m.v.ks.length = 0 by omega)]; rfl)))) (fun hz => may_ff (by first | exact .inl (by omega) | exact .inr (.inl (by omega)) | exact .inr (.inr (.inl ⟨by omega, by assumption⟩)) | exact .inr (.inr (.inr (.inl ⟨by omega, by omega⟩))) | exact .inr (.inr (.inr (.inr (.inl ⟨by omega, by omega⟩)))) | exact .inr (.inr (.inr (.inr (.inr (.inl (by omega)))))) | exact .inr (.inr (.inr (.inr (.inr (.inr (.inl (by omega))))))) | exact .inr (.inr (.inr (.inr (.inr (.inr (.inr (.inl (by omega)))))))) | exact .inr (.inr (.inr (.inr (.inr (.inr (.inr (.inr (by assumption)))))))) | exact .inr (.inr (.inr (.inr (.inr (.inr (.inr (.inr (any_yes hx (by unfold badK; rw [decide_eq_true_eq]; omega)))))))))))), rfl⟩
   refine G_off rfl rfl rfl rfl ?_
   refine G_off rfl rfl rfl rfl ?_
   refine G_off rfl rfl rfl rfl ?_
   refine G_off rfl rfl rfl rfl ?_
   refine G_val rfl rfl rfl rfl (V_pickF rfl rfl rfl) ?_
   refine G_val rfl rfl rfl rfl (V_assign rfl rfl) ?_
   refine G_done ?_
   refine G_ret (post := []) Try.func22 rfl (RVs_cons (RV_tmp rfl) RVs_nil) [] rfl ?_
   dsimp only [packed]
   first
     | exact ⟨bool_eq (may_ff (by first | exact .inl (by omega) | exact .inr (.inl (by omega)) | exact .inr (.inr (.inl ⟨by omega, by assumption⟩)) | exact .inr (.inr (.inr (.inl ⟨by omega, by omega⟩))) | exact .inr (.inr (.inr (.inr (.inl ⟨by omega, by omega⟩)))) | exact .inr (.inr (.inr (.inr (.inr (.inl (by omega)))))) | exact .inr (.inr (.inr (.inr (.inr (.inr (.inl (by omega))))))) | exact .inr (.inr (.inr (.inr (.inr (.inr (.inr (.inl (by omega)))))))) | exact .inr (.inr (.inr (.inr (.inr (.inr (.inr (.inr (by assumption)))))))) | exact .inr (.inr (.inr (.inr (.inr (.inr (.inr (.inr (any_yes hx (by unfold badK; rw [decide_eq_true_eq]; omega))))))))))).symm, rfl⟩
     | exact ⟨bool_eq (dec_both (fun hz => (may_tt (by omega) (by omega) (by first | (intro hh; exfalso; omega) | (intro _; exact Classical.not_not.1 (by assumption)) | (intro _; assumption)) (by first | (intro hh; exfalso; omega) | (intro _; exact ⟨by omega, List.length_eq_zero_iff.1 (by omega)⟩)) (by omega) (by omega) (by first | exact any_end ht (by omega) | (rw [List.length_eq_zero_iff.1 (show m.v.ks.length = 0 by omega)]; rfl)))) (fun hz => may_ff (by first | exact .inl (by omega) | exact .inr (.inl (by omega)) | exact .inr (.inr (.inl ⟨by omega, by assumption⟩)) | exact .inr (.inr (.inr (.inl ⟨by omega, by omega⟩))) | exact .inr (.inr (.inr (.inr (.inl ⟨by omega, by omega⟩)))) | exact .inr (.inr (.inr (.inr (.inr (.inl (by omega)))))) | exact .inr (.inr (.inr (.inr (.inr (.inr (.inl (by omega))))))) | exact .inr (.inr (.inr (.inr (.inr (.inr (.inr (.inl (by omega)))))))) | exact .inr (.inr (.inr (.inr (.inr (.inr (.inr (.inr (by assumption)))))))) | exact .inr (.inr (.inr (.inr (.inr (.inr (.inr (.inr (any_yes hx (by unfold badK; rw [decide_eq_true_eq]; omega)))))))))))), rfl⟩
 refine G_off rfl rfl rfl rfl ?_
 refine G_off rfl rfl rfl rfl ?_
 refine G_off rfl rfl rfl rfl ?_
 refine G_val rfl rfl rfl rfl (V_pickF rfl rfl rfl) ?_
 refine G_val rfl rfl rfl rfl (V_pickF rfl rfl rfl) ?_
 refine G_done ?_
 refine G_else rfl ?_
 refine G_skip ?_
 refine G_seq ?_
 refine G_seq ?_
 refine G_region (l := [0, 1, 2]) rfl ?_
 refine G_val rfl rfl rfl rfl (V_fieldAddr (fo := 0) rfl Try.underlying58 rfl infScriptW_3 rfl rfl rfl) ?_
 refine G_val rfl rfl rfl rfl (V_load1 rfl rfl (mem_at 1 rfl) rfl Try.underlying3 rfl) ?_
 refine G_val rfl rfl rfl rfl (V_neq rfl rfl rfl) ?_
 refine G_done ?_
 refine G_ifD rfl (fun hc5 => ?_) (fun hc5 => ?_)
 · skip
   refine G_seq ?_
   refine G_region (l := [0, 1, 2, 3, 4, 5, 6, 7, 8, 9]) rfl ?_
   refine G_val rfl rfl rfl rfl (V_fieldAddr (fo := 3) rfl Try.underlying58 rfl infScriptW_3 rfl rfl rfl) ?_
   refine G_val rfl rfl rfl rfl (V_load1 rfl rfl (mem_at 1 rfl) rfl Try.underlying3 rfl) ?_
   refine G_val rfl rfl rfl rfl (V_eql rfl rfl rfl) ?_
   refine G_val rfl rfl rfl rfl (V_move rfl rfl) ?_
   refine G_splitD 35 rfl (fun hc6 => ?_) (fun hc6 => ?_)
   · skip
     refine G_val rfl rfl rfl rfl (V_fieldAddr (fo := 4) rfl Try.underlying58 rfl infScriptW_56 rfl rfl rfl) ?_
     refine G_val rfl rfl rfl rfl (V_load1 rfl rfl (mem_at 1 rfl) rfl Try.underlying56 rfl) ?_
     refine G_val rfl rfl rfl rfl (V_len rfl rfl Try.underlying56 rfl) ?_
     refine G_val rfl rfl rfl rfl (V_eql rfl rfl rfl) ?_
     refine G_val rfl rfl rfl rfl (V_pickT rfl rfl rfl) ?_
     refine G_val rfl rfl rfl rfl (V_assign rfl rfl) ?_
     refine G_done ?_
     refine G_ret (post := []) Try.func22 rfl (RVs_cons (RV_tmp rfl) RVs_nil) [] rfl ?_
     dsimp only [packed]
     first
       | exact ⟨bool_eq (may_ff (by first | exact .inl (by omega) | exact .inr (.inl (by omega)) | exact .inr (.inr (.inl ⟨by omega, by assumption⟩)) | exact .inr (.inr (.inr (.inl ⟨by omega, by omega⟩))) | exact .inr (.inr (.inr (.inr (.inl ⟨by omega, by omega⟩)))) | exact .inr (.inr (.inr (.inr (.inr (.inl (by omega)))))) | exact .inr (.inr (.inr (.inr (.inr (.inr (.inl (by omega))))))) | exact .inr (.inr (.inr (.inr (.inr (.inr (.inr (.inl (by omega)))))))) | exact .inr (.inr (.inr (.inr (.inr (.inr (.inr (.inr (by assumption)))))))) | exact .inr (.inr (.inr (.inr (.inr (.inr (.inr (.inr (any_yes hx (by unfold badK; rw [decide_eq_true_eq]; omega))))))))))).symm, rfl⟩
       | exact ⟨bool_eq (dec_both (fun hz => (may_tt (by omega) (by omega) (by first | (intro hh; exfalso; omega) | (intro _; exact Classical.not_not.1 (by assumption)) | (intro _; assumption)) (by first | (intro hh; exfalso; omega) | (intro _; exact ⟨by omega, List.length_eq_zero_iff.1 (by omega)⟩)) (by omega) (by omega) (by first | exact any_end ht (by omega) | (rw [List.length_eq_zero_iff.1 (show m.v.ks.length = 0 by omega)]; rfl)))) (fun hz => may_ff (by first | exact .inl (by omega) | exact .inr (.inl (by omega)) | exact .inr (.inr (.inl ⟨by omega, by assumption⟩)) | exact .inr (.inr (.inr (.inl ⟨by omega, by omega⟩))) | exact .inr (.inr (.inr (.inr (.inl ⟨by omega, by omega⟩)))) | exact .inr (.inr (.inr (.inr (.inr (.inl (by omega)))))) | exact .inr (.inr (.inr (.inr (.inr (.inr (.inl (by omega))))))) | exact .inr (.inr (.inr (.inr (.inr (.inr (.inr (.inl (by omega)))))))) | exact .inr (.inr (.inr (.inr (.inr (.inr (.inr (.inr (by assumption)))))))) | exact .inr (.inr (.inr (.inr (.inr (.inr (.inr (.inr (any_yes hx (by unfold badK; rw [decide_eq_true_eq]; omega)))))))))))), rfl⟩
   refine G_off rfl rfl rfl rfl ?_
   refine G_off rfl rfl rfl rfl ?_
   refine G_off rfl rfl rfl rfl ?_
   refine G_off rfl rfl rfl rfl ?_
   refine G_val rfl rfl rfl rfl (V_pickF rfl rfl rfl) ?_
   refine G_val rfl rfl rfl rfl (V_assign rfl rfl) ?_
   refine G_done ?_
   refine G_ret (post := []) Try.func22 rfl (RVs_cons (RV_tmp rfl) RVs_nil) [] rfl ?_
   dsimp only [packed]
   first
     | exact ⟨bool_eq (may_ff (by first | exact .inl (by omega) | exact .inr (.inl (by omega)) | exact .inr (.inr (.inl ⟨by omega, by assumption⟩)) | exact .inr (.inr (.inr (.inl ⟨by omega, by omega⟩))) | exact .inr (.inr (.inr (.inr (.inl ⟨by omega, by omega⟩)))) | exact .inr (.inr (.inr (.inr (.inr (.inl (by omega)))))) | exact .inr (.inr (.inr (.inr (.inr (.inr (.inl (by omega))))))) | exact .inr (.inr (.inr (.inr (.inr (.inr (.inr (.inl (by omega)))))))) | exact .inr (.inr (.inr (.inr (.inr (.inr (.inr (.inr (by assumption)))))))) | exact .inr (.inr (.inr (.inr (.inr (.inr (.inr (.inr (any_yes hx (by unfold badK; rw [decide_eq_true_eq]; omega))))))))))).symm, rfl⟩
     | exact ⟨bool_eq (dec_both (fun hz => (may_tt (by omega) (by omega) (by first | (intro hh; exfalso; omega) | (intro _; exact Classical.not_not.1 (by assumption)) | (intro _; assumption)) (by first | (intro hh; exfalso; omega) | (intro _; exact ⟨by omega, List.length_eq_zero_iff.1 (by omega)⟩)) (by omega) (by omega) (by first | exact any_end ht (by omega) | (rw [List.length_eq_zero_iff.1 (show m.v.ks.length = 0 by omega)]; rfl)))) (fun hz => may_ff (by first | exact .inl (by omega) | exact .inr (.inl (by omega)) | exact .inr (.inr (.inl ⟨by omega, by assumption⟩)) | exact .inr (.inr (.inr (.inl ⟨by omega, by omega⟩))) | exact .inr (.inr (.inr (.inr (.inl ⟨by omega, by omega⟩)))) | exact .inr (.inr (.inr (.inr (.inr (.inl (by omega)))))) | exact .inr (.inr (.inr (.inr (.inr (.inr (.inl (by omega))))))) | exact .inr (.inr (.inr (.inr (.inr (.inr (.inr (.inl (by omega)))))))) | exact .inr (.inr (.inr (.inr (.inr (.inr (.inr (.inr (by assumption)))))))) | exact .inr (.inr (.inr (.inr (.inr (.inr (.inr (.inr (any_yes hx (by unfold badK; rw [decide_eq_true_eq]; omega)))))))))))), rfl⟩
 refine G_skip ?_
 refine G_seq ?_
 refine G_seq ?_
 refine G_region (l := [0]) rfl ?_
 refine G_val rfl rfl rfl rfl (V_assign rfl rfl) ?_
 refine G_done ?_
 refine G_block ?_
 refine G_sub ?he6 [0] ?hl6 (G_loop (X := Nat) (fun i => i ≤ m.v.ks.length ∧ (m.v.ks.take i).any badK = false) (fun i => m.v.ks.length - i) (fun i => [(1, .pointer (some ⟨b1, 0, none⟩)), (3, .int .i64 (i : Int))]) (fun i => [(some b1, .cells (evC m).toArray 58 (0, 0))]) ?round6 0 ?h06)
 case he6 => exact (And.intro rfl (And.intro rfl trivial))
 case hl6 => exact ⟨_, rfl⟩
 case h06 => exact ⟨Nat.zero_le _, rfl⟩
 case round6 =>
  intro i hJ ih
  try dsimp only at hJ ih
  obtain ⟨hi, ht⟩ := hJ
  refine G_seq ?_
  refine G_seq ?_
  refine G_region (l := [0, 1, 2, 3, 4]) rfl ?_
  refine G_val rfl rfl rfl rfl (V_move rfl rfl) ?_
  refine G_val rfl rfl rfl rfl (V_fieldAddr (fo := 4) rfl Try.underlying58 rfl infScriptW_56 rfl rfl rfl) ?_
  refine G_val rfl rfl rfl rfl (V_load1 rfl rfl (mem_at 1 rfl) rfl Try.underlying56 rfl) ?_
  refine G_val rfl rfl rfl rfl (V_len rfl rfl Try.underlying56 rfl) ?_
  refine G_val rfl rfl rfl rfl (V_lss rfl rfl rfl) ?_
  refine G_done ?_
  refine G_ifD rfl (fun hc6 => ?_) (fun hc6 => ?_)
  · skip
    refine G_skip ?_
    refine G_seq ?_
    refine G_block ?_
    refine G_seq ?_
    obtain ⟨x, hx⟩ := getI (show i < m.v.ks.length by omega)
    obtain ⟨kb, hse, hks, hkk⟩ := hm.at (show i < m.v.ks.length by omega)
    have hmem : (some kb, Obj.cells m.cs m.T m.fr) ∈ [evK m] := by rw [hkk]; exact List.mem_singleton.2 rfl
    refine G_region (l := [0, 1, 2, 3, 4, 5, 6]) rfl ?_
    refine G_val rfl rfl rfl rfl (V_fieldAddr (fo := 4) rfl Try.underlying58 rfl infScriptW_56 rfl rfl rfl) ?_
    refine G_val rfl rfl rfl rfl (V_load1 rfl rfl (mem_at 1 rfl) rfl Try.underlying56 rfl) ?_
    rw [hse]
    refine G_val rfl rfl rfl rfl (V_move rfl rfl) ?_
    first
      | refine G_val rfl rfl rfl rfl (V_indexAddrN (s := 2) rfl Try.underlying56 infScriptW_151 rfl rfl rfl rfl (by omega)) ?_
      | refine G_val rfl rfl rfl rfl (V_indexAddr (s := 2) rfl Try.underlying56 infScriptW_151 rfl rfl rfl (by omega) (by first | omega | (simp [evC, evV, kC]; done) | (simp [evC, evV, kC]; omega) | (simp [evC, evV, kC] at *; omega))) ?_
    refine G_val rfl rfl rfl rfl (V_loadA (s := 2) (vs := (kC x).toArray) rfl rfl (List.mem_append_left _ hmem) Try.underlying151 rfl infScriptW_151 rfl (hks.elem kC_len hx) (by first | rfl | (simp [bcells_length, evC, evV, kC]; done) | (simp [bcells_length, evC, evV, kC]; omega) | (simp [bcells_length, *, evC, evV, kC]; done))) ?_
    refine G_new rfl rfl rfl rfl (N_allocA rfl infScriptW_151 rfl) (fun b4 => ?_)
    refine G_put (l1 := []) (L' := [_, _]) rfl rfl rfl rfl (P_storeA (s := 2) rfl rfl rfl (mem_at 0 rfl) (by first | rfl | (simp [bcells_length, evC, evV, kC]; done) | (simp [bcells_length, evC, evV, kC]; omega) | (simp [bcells_length, *, evC, evV, kC]; done)) infScriptW_151 rfl (by first | rfl | (simp [bcells_length, evC, evV, kC]; done) | (simp [bcells_length, evC, evV, kC]; omega) | (simp [bcells_length, *, evC, evV, kC]; done)) (by first | rfl | exact bcells_all _ | (simp [Value.oneCell', evC, evV, kC]; done) | (simp [Value.oneCell', *, evC, evV, kC]; done))) rfl ?_
    refine G_done ?_
    refine G_seq ?_
    refine G_region (l := [0, 1, 2, 3, 4, 5, 6, 7, 8, 9, 10, 11, 12, 13, 14, 15, 16, 17]) rfl ?_
    refine G_val rfl rfl rfl rfl (V_fieldAddr (fo := 0) rfl Try.underlying151 rfl infScriptW_3 rfl rfl rfl) ?_
    refine G_val rfl rfl rfl rfl (V_load1 rfl rfl (mem_at 1 rfl) rfl Try.underlying3 rfl) ?_
    refine G_val rfl rfl rfl rfl (V_lss rfl rfl rfl) ?_
    refine G_val rfl rfl rfl rfl (V_move rfl rfl) ?_
    refine G_splitD 56 rfl (fun hc7 => ?_) (fun hc7 => ?_)
    · skip
      refine G_off rfl rfl rfl rfl ?_
      refine G_off rfl rfl rfl rfl ?_
      refine G_off rfl rfl rfl rfl ?_
      refine G_val rfl rfl rfl rfl (V_pickT rfl rfl rfl) ?_
      refine G_val rfl rfl rfl rfl (V_move rfl rfl) ?_
      refine G_off rfl rfl rfl rfl ?_
      refine G_off rfl rfl rfl rfl ?_
      refine G_off rfl rfl rfl rfl ?_
      refine G_val rfl rfl rfl rfl (V_pickT rfl rfl rfl) ?_
      refine G_val rfl rfl rfl rfl (V_move rfl rfl) ?_
      refine G_off rfl rfl rfl rfl ?_
      refine G_off rfl rfl rfl rfl ?_
      refine G_off rfl rfl rfl rfl ?_
      refine G_val rfl rfl rfl rfl (V_pickT rfl rfl rfl) ?_
      refine G_done ?_
      refine G_then rfl ?_
      refine G_seq ?_
      refine G_region (l := [0]) rfl ?_
      refine G_val rfl rfl rfl rfl (V_assign rfl rfl) ?_
      refine G_done ?_
      refine G_ret (post := []) Try.func22 rfl (RVs_cons (RV_tmp rfl) RVs_nil) [] rfl ?_
      dsimp only [packed]
      first
        | exact ⟨bool_eq (may_ff (by first | exact .inl (by omega) | exact .inr (.inl (by omega)) | exact .inr (.inr (.inl ⟨by omega, by assumption⟩)) | exact .inr (.inr (.inr (.inl ⟨by omega, by omega⟩))) | exact .inr (.inr (.inr (.inr (.inl ⟨by omega, by omega⟩)))) | exact .inr (.inr (.inr (.inr (.inr (.inl (by omega)))))) | exact .inr (.inr (.inr (.inr (.inr (.inr (.inl (by omega))))))) | exact .inr (.inr (.inr (.inr (.inr (.inr (.inr (.inl (by omega)))))))) | exact .inr (.inr (.inr (.inr (.inr (.inr (.inr (.inr (by assumption)))))))) | exact .inr (.inr (.inr (.inr (.inr (.inr (.inr (.inr (any_yes hx (by unfold badK; rw [decide_eq_true_eq]; omega))))))))))).symm, rfl⟩
        | exact ⟨bool_eq (dec_both (fun hz => (may_tt (by omega) (by omega) (by first | (intro hh; exfalso; omega) | (intro _; exact Classical.not_not.1 (by assumption)) | (intro _; assumption)) (by first | (intro hh; exfalso; omega) | (intro _; exact ⟨by omega, List.length_eq_zero_iff.1 (by omega)⟩)) (by omega) (by omega) (by first | exact any_end ht (by omega) | (rw [List.length_eq_zero_iff.1 (show m.v.ks.length = 0 by omega)]; rfl)))) (fun hz => may_ff (by first | exact .inl (by omega) | exact .inr (.inl (by omega)) | exact .inr (.inr (.inl ⟨by omega, by assumption⟩)) | exact .inr (.inr (.inr (.inl ⟨by omega, by omega⟩))) | exact .inr (.inr (.inr (.inr (.inl ⟨by omega, by omega⟩)))) | exact .inr (.inr (.inr (.inr (.inr (.inl (by omega)))))) | exact .inr (.inr (.inr (.inr (.inr (.inr (.inl (by omega))))))) | exact .inr (.inr (.inr (.inr (.inr (.inr (.inr (.inl (by omega)))))))) | exact .inr (.inr (.inr (.inr (.inr (.inr (.inr (.inr (by assumption)))))))) | exact .inr (.inr (.inr (.inr (.inr (.inr (.inr (.inr (any_yes hx (by unfold badK; rw [decide_eq_true_eq]; omega)))))))))))), rfl⟩
    refine G_val rfl rfl rfl rfl (V_fieldAddr (fo := 0) rfl Try.underlying151 rfl infScriptW_3 rfl rfl rfl) ?_
    refine G_val rfl rfl rfl rfl (V_load1 rfl rfl (mem_at 1 rfl) rfl Try.underlying3 rfl) ?_
    refine G_val rfl rfl rfl rfl (V_gtr rfl rfl rfl) ?_
    refine G_val rfl rfl rfl rfl (V_pickF rfl rfl rfl) ?_
    refine G_val rfl rfl rfl rfl (V_move rfl rfl) ?_
    refine G_splitD 61 rfl (fun hc8 => ?_) (fun hc8 => ?_)
    · skip
      refine G_off rfl rfl rfl rfl ?_
      refine G_off rfl rfl rfl rfl ?_
      refine G_off rfl rfl rfl rfl ?_
      refine G_val rfl rfl rfl rfl (V_pickT rfl rfl rfl) ?_
      refine G_val rfl rfl rfl rfl (V_move rfl rfl) ?_
      refine G_off rfl rfl rfl rfl ?_
      refine G_off rfl rfl rfl rfl ?_
      refine G_off rfl rfl rfl rfl ?_
      refine G_val rfl rfl rfl rfl (V_pickT rfl rfl rfl) ?_
      refine G_done ?_
      refine G_then rfl ?_
      refine G_seq ?_
      refine G_region (l := [0]) rfl ?_
      refine G_val rfl rfl rfl rfl (V_assign rfl rfl) ?_
      refine G_done ?_
      refine G_ret (post := []) Try.func22 rfl (RVs_cons (RV_tmp rfl) RVs_nil) [] rfl ?_
      dsimp only [packed]
      first
        | exact ⟨bool_eq (may_ff (by first | exact .inl (by omega) | exact .inr (.inl (by omega)) | exact .inr (.inr (.inl ⟨by omega, by assumption⟩)) | exact .inr (.inr (.inr (.inl ⟨by omega, by omega⟩))) | exact .inr (.inr (.inr (.inr (.inl ⟨by omega, by omega⟩)))) | exact .inr (.inr (.inr (.inr (.inr (.inl (by omega)))))) | exact .inr (.inr (.inr (.inr (.inr (.inr (.inl (by omega))))))) | exact .inr (.inr (.inr (.inr (.inr (.inr (.inr (.inl (by omega)))))))) | exact .inr (.inr (.inr (.inr (.inr (.inr (.inr (.inr (by assumption)))))))) | exact .inr (.inr (.inr (.inr (.inr (.inr (.inr (.inr (any_yes hx (by unfold badK; rw [decide_eq_true_eq]; omega))))))))))).symm, rfl⟩
        | exact ⟨bool_eq (dec_both (fun hz => (may_tt (by omega) (by omega) (by first | (intro hh; exfalso; omega) | (intro _; exact Classical.not_not.1 (by assumption)) | (intro _; assumption)) (by first | (intro hh; exfalso; omega) | (intro _; exact ⟨by omega, List.length_eq_zero_iff.1 (by omega)⟩)) (by omega) (by omega) (by first | exact any_end ht (by omega) | (rw [List.length_eq_zero_iff.1 (show m.v.ks.length = 0 by omega)]; rfl)))) (fun hz => may_ff (by first | exact .inl (by omega) | exact .inr (.inl (by omega)) | exact .inr (.inr (.inl ⟨by omega, by assumption⟩)) | exact .inr (.inr (.inr (.inl ⟨by omega, by omega⟩))) | exact .inr (.inr (.inr (.inr (.inl ⟨by omega, by omega⟩)))) | exact .inr (.inr (.inr (.inr (.inr (.inl (by omega)))))) | exact .inr (.inr (.inr (.inr (.inr (.inr (.inl (by omega))))))) | exact .inr (.inr (.inr (.inr (.inr (.inr (.inr (.inl (by omega)))))))) | exact .inr (.inr (.inr (.inr (.inr (.inr (.inr (.inr (by assumption)))))))) | exact .inr (.inr (.inr (.inr (.inr (.inr (.inr (.inr (any_yes hx (by unfold badK; rw [decide_eq_true_eq]; omega)))))))))))), rfl⟩
    refine G_val rfl rfl rfl rfl (V_fieldAddr (fo := 1) rfl Try.underlying151 rfl infScriptW_3 rfl rfl rfl) ?_
    refine G_val rfl rfl rfl rfl (V_load1 rfl rfl (mem_at 1 rfl) rfl Try.underlying3 rfl) ?_
    refine G_val rfl rfl rfl rfl (V_lss rfl rfl rfl) ?_
    refine G_val rfl rfl rfl rfl (V_pickF rfl rfl rfl) ?_
    refine G_val rfl rfl rfl rfl (V_move rfl rfl) ?_
    refine G_splitD 66 rfl (fun hc9 => ?_) (fun hc9 => ?_)
    · skip
      refine G_off rfl rfl rfl rfl ?_
      refine G_off rfl rfl rfl rfl ?_
      refine G_off rfl rfl rfl rfl ?_
      refine G_val rfl rfl rfl rfl (V_pickT rfl rfl rfl) ?_
      refine G_done ?_
      refine G_then rfl ?_
      refine G_seq ?_
      refine G_region (l := [0]) rfl ?_
      refine G_val rfl rfl rfl rfl (V_assign rfl rfl) ?_
      refine G_done ?_
      refine G_ret (post := []) Try.func22 rfl (RVs_cons (RV_tmp rfl) RVs_nil) [] rfl ?_
      dsimp only [packed]
      first
        | exact ⟨bool_eq (may_ff (by first | exact .inl (by omega) | exact .inr (.inl (by omega)) | exact .inr (.inr (.inl ⟨by omega, by assumption⟩)) | exact .inr (.inr (.inr (.inl ⟨by omega, by omega⟩))) | exact .inr (.inr (.inr (.inr (.inl ⟨by omega, by omega⟩)))) | exact .inr (.inr (.inr (.inr (.inr (.inl (by omega)))))) | exact .inr (.inr (.inr (.inr (.inr (.inr (.inl (by omega))))))) | exact .inr (.inr (.inr (.inr (.inr (.inr (.inr (.inl (by omega)))))))) | exact .inr (.inr (.inr (.inr (.inr (.inr (.inr (.inr (by assumption)))))))) | exact .inr (.inr (.inr (.inr (.inr (.inr (.inr (.inr (any_yes hx (by unfold badK; rw [decide_eq_true_eq]; omega))))))))))).symm, rfl⟩
        | exact ⟨bool_eq (dec_both (fun hz => (may_tt (by omega) (by omega) (by first | (intro hh; exfalso; omega) | (intro _; exact Classical.not_not.1 (by assumption)) | (intro _; assumption)) (by first | (intro hh; exfalso; omega) | (intro _; exact ⟨by omega, List.length_eq_zero_iff.1 (by omega)⟩)) (by omega) (by omega) (by first | exact any_end ht (by omega) | (rw [List.length_eq_zero_iff.1 (show m.v.ks.length = 0 by omega)]; rfl)))) (fun hz => may_ff (by first | exact .inl (by omega) | exact .inr (.inl (by omega)) | exact .inr (.inr (.inl ⟨by omega, by assumption⟩)) | exact .inr (.inr (.inr (.inl ⟨by omega, by omega⟩))) | exact .inr (.inr (.inr (.inr (.inl ⟨by omega, by omega⟩)))) | exact .inr (.inr (.inr (.inr (.inr (.inl (by omega)))))) | exact .inr (.inr (.inr (.inr (.inr (.inr (.inl (by omega))))))) | exact .inr (.inr (.inr (.inr (.inr (.inr (.inr (.inl (by omega)))))))) | exact .inr (.inr (.inr (.inr (.inr (.inr (.inr (.inr (by assumption)))))))) | exact .inr (.inr (.inr (.inr (.inr (.inr (.inr (.inr (any_yes hx (by unfold badK; rw [decide_eq_true_eq]; omega)))))))))))), rfl⟩
    refine G_val rfl rfl rfl rfl (V_fieldAddr (fo := 1) rfl Try.underlying151 rfl infScriptW_3 rfl rfl rfl) ?_
    refine G_val rfl rfl rfl rfl (V_load1 rfl rfl (mem_at 1 rfl) rfl Try.underlying3 rfl) ?_
    refine G_val rfl rfl rfl rfl (V_gtr rfl rfl rfl) ?_
    refine G_val rfl rfl rfl rfl (V_pickF rfl rfl rfl) ?_
    refine G_done ?_
    refine G_ifD rfl (fun hc10 => ?_) (fun hc10 => ?_)
    · skip
      refine G_seq ?_
      refine G_region (l := [0]) rfl ?_
      refine G_val rfl rfl rfl rfl (V_assign rfl rfl) ?_
      refine G_done ?_
      refine G_ret (post := []) Try.func22 rfl (RVs_cons (RV_tmp rfl) RVs_nil) [] rfl ?_
      dsimp only [packed]
      first
        | exact ⟨bool_eq (may_ff (by first | exact .inl (by omega) | exact .inr (.inl (by omega)) | exact .inr (.inr (.inl ⟨by omega, by assumption⟩)) | exact .inr (.inr (.inr (.inl ⟨by omega, by omega⟩))) | exact .inr (.inr (.inr (.inr (.inl ⟨by omega, by omega⟩)))) | exact .inr (.inr (.inr (.inr (.inr (.inl (by omega)))))) | exact .inr (.inr (.inr (.inr (.inr (.inr (.inl (by omega))))))) | exact .inr (.inr (.inr (.inr (.inr (.inr (.inr (.inl (by omega)))))))) | exact .inr (.inr (.inr (.inr (.inr (.inr (.inr (.inr (by assumption)))))))) | exact .inr (.inr (.inr (.inr (.inr (.inr (.inr (.inr (any_yes hx (by unfold badK; rw [decide_eq_true_eq]; omega))))))))))).symm, rfl⟩
        | exact ⟨bool_eq (dec_both (fun hz => (may_tt (by omega) (by omega) (by first | (intro hh; exfalso; omega) | (intro _; exact Classical.not_not.1 (by assumption)) | (intro _; assumption)) (by first | (intro hh; exfalso; omega) | (intro _; exact ⟨by omega, List.length_eq_zero_iff.1 (by omega)⟩)) (by omega) (by omega) (by first | exact any_end ht (by omega) | (rw [List.length_eq_zero_iff.1 (show m.v.ks.length = 0 by omega)]; rfl)))) (fun hz => may_ff (by first | exact .inl (by omega) | exact .inr (.inl (by omega)) | exact .inr (.inr (.inl ⟨by omega, by assumption⟩)) | exact .inr (.inr (.inr (.inl ⟨by omega, by omega⟩))) | exact .inr (.inr (.inr (.inr (.inl ⟨by omega, by omega⟩)))) | exact .inr (.inr (.inr (.inr (.inr (.inl (by omega)))))) | exact .inr (.inr (.inr (.inr (.inr (.inr (.inl (by omega))))))) | exact .inr (.inr (.inr (.inr (.inr (.inr (.inr (.inl (by omega)))))))) | exact .inr (.inr (.inr (.inr (.inr (.inr (.inr (.inr (by assumption)))))))) | exact .inr (.inr (.inr (.inr (.inr (.inr (.inr (.inr (any_yes hx (by unfold badK; rw [decide_eq_true_eq]; omega)))))))))))), rfl⟩
    refine G_skip ?_
    refine G_inBlock ?_
    refine G_region (l := [0, 1, 2]) rfl ?_
    refine G_val rfl rfl rfl rfl (V_move rfl rfl) ?_
    first
      | refine G_val rfl rfl rfl rfl ((V_add rfl rfl rfl).int (wrap_i64 (by omega))) ?_
      | refine G_val rfl rfl rfl rfl (V_add rfl rfl rfl) ?_
    refine G_val rfl rfl rfl rfl (V_assign rfl rfl) ?_
    refine G_done ?_
    refine G_sub ?_ [1] ?_ (ih (i + 1) ?_ ?_)
    · (refine (And.intro ?_ (And.intro ?_ trivial)) <;> first | rfl | exact slot_int (by omega) | exact slot_int (by simp))
    · exact ⟨_, rfl⟩
    · exact ⟨by omega, any_next ht hx (by unfold badK; rw [decide_eq_false_iff_not]; omega)⟩
    · (first | omega | (dsimp only; omega))
  refine G_exit rfl ?_
  refine G_seq ?_
  refine G_region (l := [0, 1, 2, 3, 4, 5, 6, 7, 8, 9, 10, 11, 12, 13, 14]) rfl ?_
  refine G_val rfl rfl rfl rfl (V_fieldAddr (fo := 3) rfl Try.underlying58 rfl infScriptW_3 rfl rfl rfl) ?_
  refine G_val rfl rfl rfl rfl (V_load1 rfl rfl (mem_at 1 rfl) rfl Try.underlying3 rfl) ?_
  refine G_val rfl rfl rfl rfl (V_geq rfl rfl rfl) ?_
  refine G_val rfl rfl rfl rfl (V_move rfl rfl) ?_
  refine G_splitD 74 rfl (fun hc7 => ?_) (fun hc7 => ?_)
  · skip
    refine G_val rfl rfl rfl rfl (V_fieldAddr (fo := 3) rfl Try.underlying58 rfl infScriptW_3 rfl rfl rfl) ?_
    refine G_val rfl rfl rfl rfl (V_load1 rfl rfl (mem_at 1 rfl) rfl Try.underlying3 rfl) ?_
    refine G_val rfl rfl rfl rfl (V_lss rfl rfl rfl) ?_
    refine G_val rfl rfl rfl rfl (V_pickT rfl rfl rfl) ?_
    refine G_val rfl rfl rfl rfl (V_move rfl rfl) ?_
    refine G_splitD 79 rfl (fun hc8 => ?_) (fun hc8 => ?_)
    · skip
      refine G_val rfl rfl rfl rfl (V_fieldAddr (fo := 4) rfl Try.underlying58 rfl infScriptW_56 rfl rfl rfl) ?_
      refine G_val rfl rfl rfl rfl (V_load1 rfl rfl (mem_at 1 rfl) rfl Try.underlying56 rfl) ?_
      refine G_val rfl rfl rfl rfl (V_len rfl rfl Try.underlying56 rfl) ?_
      refine G_val rfl rfl rfl rfl (V_leq rfl rfl rfl) ?_
      refine G_val rfl rfl rfl rfl (V_pickT rfl rfl rfl) ?_
      refine G_val rfl rfl rfl rfl (V_assign rfl rfl) ?_
      refine G_done ?_
      refine G_ret (post := []) Try.func22 rfl (RVs_cons (RV_tmp rfl) RVs_nil) [] rfl ?_
      dsimp only [packed]
      first
        | exact ⟨bool_eq (may_ff (by first | exact .inl (by omega) | exact .inr (.inl (by omega)) | exact .inr (.inr (.inl ⟨by omega, by assumption⟩)) | exact .inr (.inr (.inr (.inl ⟨by omega, by omega⟩))) | exact .inr (.inr (.inr (.inr (.inl ⟨by omega, by omega⟩)))) | exact .inr (.inr (.inr (.inr (.inr (.inl (by omega)))))) | exact .inr (.inr (.inr (.inr (.inr (.inr (.inl (by omega))))))) | exact .inr (.inr (.inr (.inr (.inr (.inr (.inr (.inl (by omega)))))))) | exact .inr (.inr (.inr (.inr (.inr (.inr (.inr (.inr (by assumption)))))))) | exact .inr (.inr (.inr (.inr (.inr (.inr (.inr (.inr (any_yes hx (by unfold badK; rw [decide_eq_true_eq]; omega))))))))))).symm, rfl⟩
        | exact ⟨bool_eq (dec_both (fun hz => (may_tt (by omega) (by omega) (by first | (intro hh; exfalso; omega) | (intro _; exact Classical.not_not.1 (by assumption)) | (intro _; assumption)) (by first | (intro hh; exfalso; omega) | (intro _; exact ⟨by omega, List.length_eq_zero_iff.1 (by omega)⟩)) (by omega) (by omega) (by first | exact any_end ht (by omega) | (rw [List.length_eq_zero_iff.1 (show m.v.ks.length = 0 by omega)]; rfl)))) (fun hz => may_ff (by first | exact .inl (by omega) | exact .inr (.inl (by omega)) | exact .inr (.inr (.inl ⟨by omega, by assumption⟩)) | exact .inr (.inr (.inr (.inl ⟨by omega, by omega⟩))) | exact .inr (.inr (.inr (.inr (.inl ⟨by omega, by omega⟩)))) | exact .inr (.inr (.inr (.inr (.inr (.inl (by omega)))))) | exact .inr (.inr (.inr (.inr (.inr (.inr (.inl (by omega))))))) | exact .inr (.inr (.inr (.inr (.inr (.inr (.inr (.inl (by omega)))))))) | exact .inr (.inr (.inr (.inr (.inr (.inr (.inr (.inr (by assumption)))))))) | exact .inr (.inr (.inr (.inr (.inr (.inr (.inr (.inr (any_yes hx (by unfold badK; rw [decide_eq_true_eq]; omega)))))))))))), rfl⟩
    refine G_off rfl rfl rfl rfl ?_
    refine G_off rfl rfl rfl rfl ?_
    refine G_off rfl rfl rfl rfl ?_
    refine G_off rfl rfl rfl rfl ?_
    refine G_val rfl rfl rfl rfl (V_pickF rfl rfl rfl) ?_
    refine G_val rfl rfl rfl rfl (V_assign rfl rfl) ?_
    refine G_done ?_
    refine G_ret (post := []) Try.func22 rfl (RVs_cons (RV_tmp rfl) RVs_nil) [] rfl ?_
    dsimp only [packed]
    first
      | exact ⟨bool_eq (may_ff (by first | exact .inl (by omega) | exact .inr (.inl (by omega)) | exact .inr (.inr (.inl ⟨by omega, by assumption⟩)) | exact .inr (.inr (.inr (.inl ⟨by omega, by omega⟩))) | exact .inr (.inr (.inr (.inr (.inl ⟨by omega, by omega⟩)))) | exact .inr (.inr (.inr (.inr (.inr (.inl (by omega)))))) | exact .inr (.inr (.inr (.inr (.inr (.inr (.inl (by omega))))))) | exact .inr (.inr (.inr (.inr (.inr (.inr (.inr (.inl (by omega)))))))) | exact .inr (.inr (.inr (.inr (.inr (.inr (.inr (.inr (by assumption)))))))) | exact .inr (.inr (.inr (.inr (.inr (.inr (.inr (.inr (any_yes hx (by unfold badK; rw [decide_eq_true_eq]; omega))))))))))).symm, rfl⟩
      | exact ⟨bool_eq (dec_both (fun hz => (may_tt (by omega) (by omega) (by first | (intro hh; exfalso; omega) | (intro _; exact Classical.not_not.1 (by assumption)) | (intro _; assumption)) (by first | (intro hh; exfalso; omega) | (intro _; exact ⟨by omega, List.length_eq_zero_iff.1 (by omega)⟩)) (by omega) (by omega) (by first | exact any_end ht (by omega) | (rw [List.length_eq_zero_iff.1 (show m.v.ks.length = 0 by omega)]; rfl)))) (fun hz => may_ff (by first | exact .inl (by omega) | exact .inr (.inl (by omega)) | exact .inr (.inr (.inl ⟨by omega, by assumption⟩)) | exact .inr (.inr (.inr (.inl ⟨by omega, by omega⟩))) | exact .inr (.inr (.inr (.inr (.inl ⟨by omega, by omega⟩)))) | exact .inr (.inr (.inr (.inr (.inr (.inl (by omega)))))) | exact .inr (.inr (.inr (.inr (.inr (.inr (.inl (by omega))))))) | exact .inr (.inr (.inr (.inr (.inr (.inr (.inr (.inl (by omega)))))))) | exact .inr (.inr (.inr (.inr (.inr (.inr (.inr (.inr (by assumption)))))))) | exact .inr (.inr (.inr (.inr (.inr (.inr (.inr (.inr (any_yes hx (by unfold badK; rw [decide_eq_true_eq]; omega)))))))))))), rfl⟩
  refine G_off rfl rfl rfl rfl ?_
  refine G_off rfl rfl rfl rfl ?_
  refine G_off rfl rfl rfl rfl ?_
  refine G_val rfl rfl rfl rfl (V_pickF rfl rfl rfl) ?_
  refine G_val rfl rfl rfl rfl (V_move rfl rfl) ?_
  refine G_off rfl rfl rfl rfl ?_
  refine G_off rfl rfl rfl rfl ?_
  refine G_off rfl rfl rfl rfl ?_
  refine G_off rfl rfl rfl rfl ?_
  refine G_val rfl rfl rfl rfl (V_pickF rfl rfl rfl) ?_
  refine G_val rfl rfl rfl rfl (V_assign rfl rfl) ?_
  refine G_done ?_
  refine G_ret (post := []) Try.func22 rfl (RVs_cons (RV_tmp rfl) RVs_nil) [] rfl ?_
  dsimp only [packed]
  first
    | exact ⟨bool_eq (may_ff (by first | exact .inl (by omega) | exact .inr (.inl (by omega)) | exact .inr (.inr (.inl ⟨by omega, by assumption⟩)) | exact .inr (.inr (.inr (.inl ⟨by omega, by omega⟩))) | exact .inr (.inr (.inr (.inr (.inl ⟨by omega, by omega⟩)))) | exact .inr (.inr (.inr (.inr (.inr (.inl (by omega)))))) | exact .inr (.inr (.inr (.inr (.inr (.inr (.inl (by omega))))))) | exact .inr (.inr (.inr (.inr (.inr (.inr (.inr (.inl (by omega)))))))) | exact .inr (.inr (.inr (.inr (.inr (.inr (.inr (.inr (by assumption)))))))) | exact .inr (.inr (.inr (.inr (.inr (.inr (.inr (.inr (any_yes hx (by unfold badK; rw [decide_eq_true_eq]; omega))))))))))).symm, rfl⟩
    | exact ⟨bool_eq (dec_both (fun hz => (may_tt (by omega) (by omega) (by first | (intro hh; exfalso; omega) | (intro _; exact Classical.not_not.1 (by assumption)) | (intro _; assumption)) (by first | (intro hh; exfalso; omega) | (intro _; exact ⟨by omega, List.length_eq_zero_iff.1 (by omega)⟩)) (by omega) (by omega) (by first | exact any_end ht (by omega) | (rw [List.length_eq_zero_iff.1 (show m.v.ks.length = 0 by omega)]; rfl)))) (fun hz => may_ff (by first | exact .inl (by omega) | exact .inr (.inl (by omega)) | exact .inr (.inr (.inl ⟨by omega, by assumption⟩)) | exact .inr (.inr (.inr (.inl ⟨by omega, by omega⟩))) | exact .inr (.inr (.inr (.inr (.inl ⟨by omega, by omega⟩)))) | exact .inr (.inr (.inr (.inr (.inr (.inl (by omega)))))) | exact .inr (.inr (.inr (.inr (.inr (.inr (.inl (by omega))))))) | exact .inr (.inr (.inr (.inr (.inr (.inr (.inr (.inl (by omega)))))))) | exact .inr (.inr (.inr (.inr (.inr (.inr (.inr (.inr (by assumption)))))))) | exact .inr (.inr (.inr (.inr (.inr (.inr (.inr (.inr (any_yes hx (by unfold badK; rw [decide_eq_true_eq]; omega)))))))))))), rfl⟩

end
end Go.Proofs.Ytkekkalgebgokaa

/- The walks of layer 40, on: events as bytes; the program's and the document's. -/
set_option linter.unusedSimpArgs false
set_option linter.unusedVariables false
namespace Go.Proofs.Ytkekkalgebgokaa
open Go Go.RowKit

section
theorem infScriptX_3 : Try.prog.info? 3 = some Try.t3 := by kernel_rfl
theorem infScriptX_9 : Try.prog.info? 9 = some Try.t9 := by kernel_rfl
theorem infScriptX_23 : Try.prog.info? 23 = some Try.t23 := by kernel_rfl
theorem infScriptX_56 : Try.prog.info? 56 = some Try.t56 := by kernel_rfl
theorem infScriptX_58 : Try.prog.info? 58 = some Try.t58 := by kernel_rfl
theorem infScriptX_78 : Try.prog.info? 78 = some Try.t78 := by kernel_rfl
theorem infScriptX_151 : Try.prog.info? 151 = some Try.t151 := by kernel_rfl


theorem txE_zero (ms : List Em) : [] ++ chainI (ms.length : Int) = txE ms 0 := by unfold txE evsOf; simp
theorem flds1 {k : Int} (h : k = 1) : fieldsE k = [116, 98] := by subst h; rfl
theorem flds2 {k : Int} (h : k = 2) : fieldsE k = [116] := by subst h; rfl
theorem flds3 {k : Int} (h : k = 3) : fieldsE k = [116, 98, 102, 107] := by subst h; rfl
theorem tx1 {ms : List Em} {i : Nat} {x : Em} (hx : ms[i]? = some x) (h : x.v.kd = 1) : txE ms i ++ chainI x.v.kd ++ chainI (x.v.t : Int) ++ text x.v.b = txE ms (i + 1) := by
  rw [← txE_next hx, enc1 h]; simp
theorem tx2 {ms : List Em} {i : Nat} {x : Em} (hx : ms[i]? = some x) (h : x.v.kd = 2) : txE ms i ++ chainI x.v.kd ++ chainI (x.v.t : Int) = txE ms (i + 1) := by
  rw [← txE_next hx, enc2 h]; simp
def kx (tx : List UInt8) (x : Ev) (j : Nat) : List UInt8 := tx ++ chainI x.kd ++ chainI (x.t : Int) ++ text x.b ++ chainI (x.f + 1) ++ ksT x j
theorem kx_zero (tx : List UInt8) (x : Ev) : tx ++ chainI x.kd ++ chainI (x.t : Int) ++ text x.b ++ chainI (x.f + 1) ++ chainI (x.ks.length : Int) = kx tx x 0 := by unfold kx; rw [ksT_zero]
theorem kx_next {tx : List UInt8} {x : Ev} {j : Nat} {y : Int × Int} (h : x.ks[j]? = some y) : kx tx x j ++ chainI y.1 ++ chainI y.2 = kx tx x (j + 1) := by unfold kx; rw [← ksT_next h]; simp
theorem kx_len {e : Ev} (h : MayE e) (ht : e.t < 18446744073709551616) (tx : List UInt8) (j : Nat) : (kx tx e j).length ≤ tx.length + 2000 := by
  obtain ⟨h1, h2, h3, h4, h5, h6, h7⟩ := h
  have a1 := chainI_len e.kd (by omega) (by omega)
  have a2 := chainI_len (e.t : Int) (by omega) (by omega)
  have a3 := text_len e.b (by omega)
  have a4 := chainI_len (e.f + 1) (by omega) (by omega)
  have b := ksT_len (x := e) ⟨h1, h2, h3, h4, h5, h6, h7⟩ j
  unfold kx; simp only [List.length_append]; omega
theorem tx3 {ms : List Em} {i j : Nat} {x : Em} (hx : ms[i]? = some x) (h : x.v.kd = 3) (hj : x.v.ks.length ≤ j) : kx (txE ms i) x.v j = txE ms (i + 1) := by
  rw [← txE_next hx, enc3 h]; unfold kx; rw [ksT_end hj]; simp
def oneT (e : Ev) (i : Nat) : List UInt8 := chainI e.kd ++ chainI (e.t : Int) ++ text e.b ++ chainI (e.f + 1) ++ ksT e i
theorem one1 {e : Ev} (h : e.kd ≠ 2) (h3 : e.kd ≠ 3) : chainI e.kd ++ chainI (e.t : Int) ++ text e.b = encE e := by unfold encE; rw [if_neg h, if_neg h3]; simp
theorem one2 {e : Ev} (h : e.kd = 2) : chainI e.kd ++ chainI (e.t : Int) = encE e := by rw [enc2 h]
theorem one3 {e : Ev} {i : Nat} (h : e.kd = 3) (hi : e.ks.length ≤ i) : oneT e i = encE e := by rw [enc3 h]; unfold oneT; rw [ksT_end hi]; simp
theorem one3_zero (e : Ev) : chainI e.kd ++ chainI (e.t : Int) ++ text e.b ++ chainI (e.f + 1) ++ chainI (e.ks.length : Int) = oneT e 0 := by unfold oneT; rw [ksT_zero]
theorem one3_next {e : Ev} {i : Nat} {y : Int × Int} (h : e.ks[i]? = some y) : oneT e i ++ chainI y.1 ++ chainI y.2 = oneT e (i + 1) := by unfold oneT; rw [← ksT_next h]; simp
theorem mayE_bd {e : Ev} (h : MayE e) : (1 ≤ e.kd ∧ e.kd ≤ 3) ∧ e.b.length ≤ 600 ∧ (-1 ≤ e.f ∧ e.f < 1099511627776) ∧ e.ks.length ≤ 64 ∧ ∀ x ∈ e.ks, 0 ≤ x.1 ∧ x.1 ≤ 1099511627776 ∧ 0 ≤ x.2 ∧ x.2 ≤ 64 := by
  obtain ⟨h1, h2, h3, h4, h5, h6, h7⟩ := h
  exact ⟨h1, h2, h5, h6, fun x hx => goodK (h7 x hx)⟩
theorem pre_len {e : Ev} (h : MayE e) (ht : e.t < 18446744073709551616) : (chainI e.kd).length ≤ 10 ∧ (chainI (e.t : Int)).length ≤ 10 ∧ (text e.b).length ≤ 610 ∧ (chainI (e.f + 1)).length ≤ 10 ∧ (chainI (e.ks.length : Int)).length ≤ 10 := by
  obtain ⟨h1, h2, h3, h4, h5, h6, h7⟩ := h
  have a1 := chainI_len e.kd (by omega) (by omega)
  have a2 := chainI_len (e.t : Int) (by omega) (by omega)
  have a3 := text_len e.b (by omega)
  have a4 := chainI_len (e.f + 1) (by omega) (by omega)
  have a5 := chainI_len (e.ks.length : Int) (by omega) (by omega)
  omega
theorem oneT_len {e : Ev} (h : MayE e) (ht : e.t < 18446744073709551616) (i : Nat) : (oneT e i).length ≤ 2000 := by
  have a := pre_len h ht
  have b := ksT_len h i
  unfold oneT; simp only [List.length_append]; omega
theorem kLen {y : Int × Int} (h : 0 ≤ y.1 ∧ y.1 ≤ 1099511627776 ∧ 0 ≤ y.2 ∧ y.2 ≤ 64) : (chainI y.1).length ≤ 10 ∧ (chainI y.2).length ≤ 10 := by
  have a1 := chainI_len y.1 (by omega) (by omega)
  have a2 := chainI_len y.2 (by omega) (by omega)
  omega

set_option maxRecDepth 100000 in
set_option maxHeartbeats 1000000 in
theorem sr_num (x : Int) (h0 : 0 ≤ x) (h1 : x ≤ 9223372036854775807) :
    Ct Try.prog 82 [.int .i64 x] [] [] fun v post => v = .string (bs (chainI x)) ∧ post = [] := by
 refine ct_of Try.func82 rfl rfl (fun w0 => ?_)
 show G _ _ [(0, _)] _ _
 refine G_seq ?_
 refine G_region (l := [0]) rfl ?_
 refine G_val rfl rfl rfl rfl (V_assign rfl rfl) ?_
 refine G_done ?_
 refine G_seq ?_
 refine G_region (l := [0, 1, 2, 3]) rfl ?_
 refine G_val rfl rfl rfl rfl (V_move rfl rfl) ?_
 first
   | refine G_val rfl rfl rfl rfl ((V_conv rfl rfl Try.underlying3 Try.underlying23).int (wrap_u64 (by omega))) ?_
   | refine G_val rfl rfl rfl rfl (V_conv rfl rfl Try.underlying3 Try.underlying23) ?_
 refine G_call (L2 := []) rfl rfl rfl rfl rfl rfl Try.call118 (ct_rchain _ (by omega) (by omega)) [] [] rfl rfl ?_
 rintro v post ⟨rfl, rfl⟩
 refine G_val rfl rfl rfl rfl (V_assign rfl rfl) ?_
 refine G_done ?_
 refine G_ret (post := []) Try.func82 rfl (RVs_cons (RV_tmp rfl) RVs_nil) [] rfl ?_
 dsimp only [packed]
 exact ⟨rfl, rfl⟩

set_option maxRecDepth 100000 in
set_option maxHeartbeats 1000000 in
theorem rsc_one (m : Em) (hm : EmOk m) (hq : MayE m.v) :
    Ct Try.prog 83 [.agg (evC m).toArray] [evK m] [] fun v post => v = .string (bs (encE m.v)) ∧ post = [] := by
 have hle := hm.le
 have hmax := hm.max
 obtain ⟨hk0, hk1⟩ := hm.k
 obtain ⟨hf0, hf1⟩ := hm.f
 have hb1 := hm.b
 have ht1 := hm.t
 obtain ⟨⟨g1, g2⟩, g3, ⟨g4, g5⟩, g6, g7⟩ := mayE_bd hq
 obtain ⟨p1, p2, p3, p4, p5⟩ := pre_len hq hm.t
 refine ct_of Try.func83 rfl rfl (fun w0 => ?_)
 show G _ _ [(0, _)] _ _
 refine G_seq ?_
 refine G_region (l := [0, 1]) rfl ?_
 refine G_new rfl rfl rfl rfl (N_boxA rfl rfl) (fun b1 => ?_)
 refine G_val rfl rfl rfl rfl (V_assign rfl rfl) ?_
 refine G_done ?_
 refine G_seq ?_
 refine GH_start (Lq := [_]) (isq := [0]) (m := 8) mixedK rfl rfl ?_
 refine GH_take 0 rfl rfl rfl rfl (by kernel_rfl) (by kernel_rfl) (by kernel_rfl) (fun _ _ => (V_fieldAddr (fo := 0) rfl Try.underlying58 rfl infScriptX_3 rfl rfl rfl)) ?_
 refine GH_take 1 rfl rfl rfl rfl (by kernel_rfl) (by kernel_rfl) (by kernel_rfl) (fun _ _ => (V_load1 rfl rfl (mem_at 1 rfl) rfl Try.underlying3 rfl)) ?_
 refine GH_take 3 rfl rfl rfl rfl (by kernel_rfl) (by kernel_rfl) (by kernel_rfl) (fun _ _ => (V_fieldAddr (fo := 2) rfl Try.underlying58 rfl infScriptX_23 rfl rfl rfl)) ?_
 refine GH_take 4 rfl rfl rfl rfl (by kernel_rfl) (by kernel_rfl) (by kernel_rfl) (fun _ _ => (V_load1 rfl rfl (mem_at 1 rfl) rfl Try.underlying23 rfl)) ?_
 refine GH_all [2] (by kernel_rfl) (by decide) ?_
 refine (And.intro ?_ trivial)
 · skip
   refine GHop_call (L2 := [_]) rfl rfl rfl rfl rfl rfl Try.call82 (sr_num _ (by omega) (by omega)) [] [] rfl rfl [0] (by rintro v post ⟨rfl, rfl⟩; exact ⟨_, rfl⟩) ?_
   rintro v post ⟨rfl, rfl⟩
   show GH _ _ _ _ _ _ _ [_] _
   refine GH_all [5] (by kernel_rfl) (by decide) ?_
   refine (And.intro ?_ trivial)
   · skip
     refine GHop_call (L2 := [_]) rfl rfl rfl rfl rfl rfl Try.call118 (ct_rchain _ (by omega) (by omega)) [] [] rfl rfl [0] (by rintro v post ⟨rfl, rfl⟩; exact ⟨_, rfl⟩) ?_
     rintro v post ⟨rfl, rfl⟩
     show GH _ _ _ _ _ _ _ [_] _
     refine GH_take 6 rfl rfl rfl rfl (by kernel_rfl) (by kernel_rfl) (by kernel_rfl) (fun _ _ => (V_sadd rfl rfl rfl (by first | omega | (simp [evC, evV, kC, evS]; done) | (simp [evC, evV, kC, evS]; omega) | (simp [evC, evV, kC, evS] at *; omega)))) ?_
     refine GH_take 7 rfl rfl rfl rfl (by kernel_rfl) (by kernel_rfl) (by kernel_rfl) (fun _ _ => (V_assign rfl rfl)) ?_
     refine GH_done (by kernel_rfl) ?_
     refine G_seq ?_
     refine G_seq ?_
     refine G_region (l := [0, 1, 2]) rfl ?_
     refine G_val rfl rfl rfl rfl (V_fieldAddr (fo := 0) rfl Try.underlying58 rfl infScriptX_3 rfl rfl rfl) ?_
     refine G_val rfl rfl rfl rfl (V_load1 rfl rfl (mem_at 1 rfl) rfl Try.underlying3 rfl) ?_
     refine G_val rfl rfl rfl rfl (V_neq rfl rfl rfl) ?_
     refine G_done ?_
     refine G_ifD rfl (fun hc1 => ?_) (fun hc1 => ?_)
     · skip
       refine G_region (l := [0, 1, 2, 3, 4, 5]) rfl ?_
       refine G_val rfl rfl rfl rfl (V_move rfl rfl) ?_
       refine G_val rfl rfl rfl rfl (V_fieldAddr (fo := 1) rfl Try.underlying58 rfl infScriptX_9 rfl rfl rfl) ?_
       refine G_val rfl rfl rfl rfl (V_load1 rfl rfl (mem_at 1 rfl) rfl Try.underlying9 rfl) ?_
       refine G_call (L2 := [_]) rfl rfl rfl rfl rfl rfl Try.call119 (ct_rtext _ (by first | omega | (simp; done) | (simp; omega) | (simp at *; omega))) [] [] rfl rfl ?_
       rintro v post ⟨rfl, rfl⟩
       show G _ _ _ [_] _
       refine G_val rfl rfl rfl rfl (V_sadd rfl rfl rfl (by first | omega | (simp [evC, evV, kC, evS]; done) | (simp [evC, evV, kC, evS]; omega) | (simp [evC, evV, kC, evS] at *; omega))) ?_
       refine G_val rfl rfl rfl rfl (V_assign rfl rfl) ?_
       refine G_done ?_
       refine G_seq ?_
       refine G_seq ?_
       refine G_region (l := [0, 1, 2]) rfl ?_
       refine G_val rfl rfl rfl rfl (V_fieldAddr (fo := 0) rfl Try.underlying58 rfl infScriptX_3 rfl rfl rfl) ?_
       refine G_val rfl rfl rfl rfl (V_load1 rfl rfl (mem_at 1 rfl) rfl Try.underlying3 rfl) ?_
       refine G_val rfl rfl rfl rfl (V_eql rfl rfl rfl) ?_
       refine G_done ?_
       refine G_ifD rfl (fun hc2 => ?_) (fun hc2 => ?_)
       · skip
         refine G_seq ?_
         refine GH_start (Lq := [_]) (isq := [0]) (m := 12) mixedK rfl rfl ?_
         refine GH_take 0 rfl rfl rfl rfl (by kernel_rfl) (by kernel_rfl) (by kernel_rfl) (fun _ _ => (V_move rfl rfl)) ?_
         refine GH_take 1 rfl rfl rfl rfl (by kernel_rfl) (by kernel_rfl) (by kernel_rfl) (fun _ _ => (V_fieldAddr (fo := 3) rfl Try.underlying58 rfl infScriptX_3 rfl rfl rfl)) ?_
         refine GH_take 2 rfl rfl rfl rfl (by kernel_rfl) (by kernel_rfl) (by kernel_rfl) (fun _ _ => (V_load1 rfl rfl (mem_at 1 rfl) rfl Try.underlying3 rfl)) ?_
         first
           | refine GH_take 3 rfl rfl rfl rfl (by kernel_rfl) (by kernel_rfl) (by kernel_rfl) (fun _ _ => ((V_add rfl rfl rfl).int (wrap_i64 (by omega)))) ?_
           | refine GH_take 3 rfl rfl rfl rfl (by kernel_rfl) (by kernel_rfl) (by kernel_rfl) (fun _ _ => (V_add rfl rfl rfl)) ?_
         refine GH_take 6 rfl rfl rfl rfl (by kernel_rfl) (by kernel_rfl) (by kernel_rfl) (fun _ _ => (V_fieldAddr (fo := 4) rfl Try.underlying58 rfl infScriptX_56 rfl rfl rfl)) ?_
         refine GH_take 7 rfl rfl rfl rfl (by kernel_rfl) (by kernel_rfl) (by kernel_rfl) (fun _ _ => (V_load1 rfl rfl (mem_at 1 rfl) rfl Try.underlying56 rfl)) ?_
         refine GH_take 8 rfl rfl rfl rfl (by kernel_rfl) (by kernel_rfl) (by kernel_rfl) (fun _ _ => (V_len rfl rfl Try.underlying56 rfl)) ?_
         refine GH_all [4] (by kernel_rfl) (by decide) ?_
         refine (And.intro ?_ trivial)
         · skip
           refine GHop_call (L2 := [_]) rfl rfl rfl rfl rfl rfl Try.call82 (sr_num _ (by omega) (by omega)) [] [] rfl rfl [0] (by rintro v post ⟨rfl, rfl⟩; exact ⟨_, rfl⟩) ?_
           rintro v post ⟨rfl, rfl⟩
           show GH _ _ _ _ _ _ _ [_] _
           refine GH_take 5 rfl rfl rfl rfl (by kernel_rfl) (by kernel_rfl) (by kernel_rfl) (fun _ _ => (V_sadd rfl rfl rfl (by first | omega | (simp [evC, evV, kC, evS]; done) | (simp [evC, evV, kC, evS]; omega) | (simp [evC, evV, kC, evS] at *; omega)))) ?_
           refine GH_all [9] (by kernel_rfl) (by decide) ?_
           refine (And.intro ?_ trivial)
           · skip
             refine GHop_call (L2 := [_]) rfl rfl rfl rfl rfl rfl Try.call82 (sr_num _ (by omega) (by omega)) [] [] rfl rfl [0] (by rintro v post ⟨rfl, rfl⟩; exact ⟨_, rfl⟩) ?_
             rintro v post ⟨rfl, rfl⟩
             show GH _ _ _ _ _ _ _ [_] _
             refine GH_take 10 rfl rfl rfl rfl (by kernel_rfl) (by kernel_rfl) (by kernel_rfl) (fun _ _ => (V_sadd rfl rfl rfl (by first | omega | (simp [evC, evV, kC, evS]; done) | (simp [evC, evV, kC, evS]; omega) | (simp [evC, evV, kC, evS] at *; omega)))) ?_
             refine GH_take 11 rfl rfl rfl rfl (by kernel_rfl) (by kernel_rfl) (by kernel_rfl) (fun _ _ => (V_assign rfl rfl)) ?_
             refine GH_done (by kernel_rfl) ?_
             refine G_seq ?_
             refine G_region (l := [0]) rfl ?_
             refine G_val rfl rfl rfl rfl (V_assign rfl rfl) ?_
             refine G_done ?_
             refine G_block ?_
             refine G_sub ?he7 [0] ?hl7 (G_loop (X := Nat) (fun i => i ≤ m.v.ks.length) (fun i => m.v.ks.length - i) (fun i => [(1, .pointer (some ⟨b1, 0, none⟩)), (3, .string (bs (oneT m.v i))), (4, .int .i64 (i : Int))]) (fun i => [(some b1, .cells (evC m).toArray 58 (0, 0))]) ?round7 0 ?h07)
             case he7 => refine (And.intro rfl (And.intro (by rw [one3_zero]; rfl) (And.intro rfl trivial)))
             case hl7 => exact ⟨_, rfl⟩
             case h07 => exact Nat.zero_le _
             case round7 =>
              intro i hJ ih
              try dsimp only at hJ ih
              refine G_seq ?_
              refine G_seq ?_
              refine G_region (l := [0, 1, 2, 3, 4]) rfl ?_
              refine G_val rfl rfl rfl rfl (V_move rfl rfl) ?_
              refine G_val rfl rfl rfl rfl (V_fieldAddr (fo := 4) rfl Try.underlying58 rfl infScriptX_56 rfl rfl rfl) ?_
              refine G_val rfl rfl rfl rfl (V_load1 rfl rfl (mem_at 1 rfl) rfl Try.underlying56 rfl) ?_
              refine G_val rfl rfl rfl rfl (V_len rfl rfl Try.underlying56 rfl) ?_
              refine G_val rfl rfl rfl rfl (V_lss rfl rfl rfl) ?_
              refine G_done ?_
              refine G_ifD rfl (fun hc3 => ?_) (fun hc3 => ?_)
              · skip
                refine G_skip ?_
                refine G_seq ?_
                refine G_block ?_
                obtain ⟨x, hx⟩ := getI (show i < m.v.ks.length by omega)
                obtain ⟨kb, hse, hks, hkk⟩ := hm.at (show i < m.v.ks.length by omega)
                have hmem : (some kb, Obj.cells m.cs m.T m.fr) ∈ [evK m] := by rw [hkk]; exact List.mem_singleton.2 rfl
                have gy := g7 x (List.mem_of_getElem? hx)
                have gl := kLen gy
                have ol := oneT_len hq hm.t i
                refine GH_start (Lq := [_]) (isq := [0]) (m := 18) mixedK rfl rfl ?_
                refine GH_take 0 rfl rfl rfl rfl (by kernel_rfl) (by kernel_rfl) (by kernel_rfl) (fun _ _ => (V_move rfl rfl)) ?_
                refine GH_take 1 rfl rfl rfl rfl (by kernel_rfl) (by kernel_rfl) (by kernel_rfl) (fun _ _ => (V_fieldAddr (fo := 4) rfl Try.underlying58 rfl infScriptX_56 rfl rfl rfl)) ?_
                refine GH_take 2 rfl rfl rfl rfl (by kernel_rfl) (by kernel_rfl) (by kernel_rfl) (fun _ _ => (V_load1 rfl rfl (mem_at 1 rfl) rfl Try.underlying56 rfl)) ?_
                rw [hse]
                refine GH_take 3 rfl rfl rfl rfl (by kernel_rfl) (by kernel_rfl) (by kernel_rfl) (fun _ _ => (V_move rfl rfl)) ?_
                first
                  | refine GH_take 4 rfl rfl rfl rfl (by kernel_rfl) (by kernel_rfl) (by kernel_rfl) (fun _ _ => (V_indexAddrN (s := 2) rfl Try.underlying56 infScriptX_151 rfl rfl rfl rfl (by omega))) ?_
                  | refine GH_take 4 rfl rfl rfl rfl (by kernel_rfl) (by kernel_rfl) (by kernel_rfl) (fun _ _ => (V_indexAddr (s := 2) rfl Try.underlying56 infScriptX_151 rfl rfl rfl (by omega) (by first | omega | (simp [evC, evV, kC, evS]; done) | (simp [evC, evV, kC, evS]; omega) | (simp [evC, evV, kC, evS] at *; omega)))) ?_
                refine GH_take 5 rfl rfl rfl rfl (by kernel_rfl) (by kernel_rfl) (by kernel_rfl) (fun _ _ => (V_fieldAddr (fo := _) rfl Try.underlying151 rfl infScriptX_3 rfl rfl rfl)) ?_
                refine GH_take 6 rfl rfl rfl rfl (by kernel_rfl) (by kernel_rfl) (by kernel_rfl) (fun _ _ => (V_load1 rfl rfl (List.mem_append_left _ hmem) (nth_of (sees_k hks hx 0 (by omega) rfl)) Try.underlying3 rfl)) ?_
                refine GH_take 9 rfl rfl rfl rfl (by kernel_rfl) (by kernel_rfl) (by kernel_rfl) (fun _ _ => (V_fieldAddr (fo := 4) rfl Try.underlying58 rfl infScriptX_56 rfl rfl rfl)) ?_
                refine GH_take 10 rfl rfl rfl rfl (by kernel_rfl) (by kernel_rfl) (by kernel_rfl) (fun _ _ => (V_load1 rfl rfl (mem_at 1 rfl) rfl Try.underlying56 rfl)) ?_
                rw [hse]
                refine GH_take 11 rfl rfl rfl rfl (by kernel_rfl) (by kernel_rfl) (by kernel_rfl) (fun _ _ => (V_move rfl rfl)) ?_
                first
                  | refine GH_take 12 rfl rfl rfl rfl (by kernel_rfl) (by kernel_rfl) (by kernel_rfl) (fun _ _ => (V_indexAddrN (s := 2) rfl Try.underlying56 infScriptX_151 rfl rfl rfl rfl (by omega))) ?_
                  | refine GH_take 12 rfl rfl rfl rfl (by kernel_rfl) (by kernel_rfl) (by kernel_rfl) (fun _ _ => (V_indexAddr (s := 2) rfl Try.underlying56 infScriptX_151 rfl rfl rfl (by omega) (by first | omega | (simp [evC, evV, kC, evS]; done) | (simp [evC, evV, kC, evS]; omega) | (simp [evC, evV, kC, evS] at *; omega)))) ?_
                refine GH_take 13 rfl rfl rfl rfl (by kernel_rfl) (by kernel_rfl) (by kernel_rfl) (fun _ _ => (V_fieldAddr (fo := _ + 1) rfl Try.underlying151 rfl infScriptX_3 rfl rfl rfl)) ?_
                refine GH_take 14 rfl rfl rfl rfl (by kernel_rfl) (by kernel_rfl) (by kernel_rfl) (fun _ _ => (V_load1 rfl rfl (List.mem_append_left _ hmem) (nth_of (sees_k hks hx 1 (by omega) rfl)) Try.underlying3 rfl)) ?_
                refine GH_all [7] (by kernel_rfl) (by decide) ?_
                refine (And.intro ?_ trivial)
                · skip
                  refine GHop_call (L2 := [_]) rfl rfl rfl rfl rfl rfl Try.call82 (sr_num _ (by omega) (by omega)) [] [] rfl rfl [0] (by rintro v post ⟨rfl, rfl⟩; exact ⟨_, rfl⟩) ?_
                  rintro v post ⟨rfl, rfl⟩
                  show GH _ _ _ _ _ _ _ [_] _
                  refine GH_take 8 rfl rfl rfl rfl (by kernel_rfl) (by kernel_rfl) (by kernel_rfl) (fun _ _ => (V_sadd rfl rfl rfl (by first | omega | (simp [evC, evV, kC, evS]; done) | (simp [evC, evV, kC, evS]; omega) | (simp [evC, evV, kC, evS] at *; omega)))) ?_
                  refine GH_all [15] (by kernel_rfl) (by decide) ?_
                  refine (And.intro ?_ trivial)
                  · skip
                    refine GHop_call (L2 := [_]) rfl rfl rfl rfl rfl rfl Try.call82 (sr_num _ (by omega) (by omega)) [] [] rfl rfl [0] (by rintro v post ⟨rfl, rfl⟩; exact ⟨_, rfl⟩) ?_
                    rintro v post ⟨rfl, rfl⟩
                    show GH _ _ _ _ _ _ _ [_] _
                    refine GH_take 16 rfl rfl rfl rfl (by kernel_rfl) (by kernel_rfl) (by kernel_rfl) (fun _ _ => (V_sadd rfl rfl rfl (by first | omega | (simp [evC, evV, kC, evS]; done) | (simp [evC, evV, kC, evS]; omega) | (simp [evC, evV, kC, evS] at *; omega)))) ?_
                    refine GH_take 17 rfl rfl rfl rfl (by kernel_rfl) (by kernel_rfl) (by kernel_rfl) (fun _ _ => (V_assign rfl rfl)) ?_
                    refine GH_done (by kernel_rfl) ?_
                    refine G_inBlock ?_
                    refine G_region (l := [0, 1, 2]) rfl ?_
                    refine G_val rfl rfl rfl rfl (V_move rfl rfl) ?_
                    first
                      | refine G_val rfl rfl rfl rfl ((V_add rfl rfl rfl).int (wrap_i64 (by omega))) ?_
                      | refine G_val rfl rfl rfl rfl (V_add rfl rfl rfl) ?_
                    refine G_val rfl rfl rfl rfl (V_assign rfl rfl) ?_
                    refine G_done ?_
                    refine G_sub ?_ [0] ?_ (ih (i + 1) ?_ ?_)
                    · refine (And.intro rfl (And.intro (slot_str (one3_next hx)) (And.intro rfl trivial)))
                    · exact ⟨_, rfl⟩
                    · omega
                    · (first | omega | (dsimp only; omega))
              refine G_exit rfl ?_
              refine G_seq ?_
              first | rw [one2 (by omega)] | rw [one1 (by omega) (by omega)] | rw [one3 (by omega) (by omega)]
              refine G_region (l := [0, 1]) rfl ?_
              refine G_val rfl rfl rfl rfl (V_move rfl rfl) ?_
              refine G_val rfl rfl rfl rfl (V_assign rfl rfl) ?_
              refine G_done ?_
              refine G_ret (post := []) Try.func83 rfl (RVs_cons (RV_tmp rfl) RVs_nil) [] rfl ?_
              dsimp only [packed]
              exact ⟨rfl, rfl⟩
       refine G_skip ?_
       refine G_seq ?_
       first | rw [one2 (by omega)] | rw [one1 (by omega) (by omega)] | rw [one3 (by omega) (by omega)]
       refine G_region (l := [0, 1]) rfl ?_
       refine G_val rfl rfl rfl rfl (V_move rfl rfl) ?_
       refine G_val rfl rfl rfl rfl (V_assign rfl rfl) ?_
       refine G_done ?_
       refine G_ret (post := []) Try.func83 rfl (RVs_cons (RV_tmp rfl) RVs_nil) [] rfl ?_
       dsimp only [packed]
       exact ⟨rfl, rfl⟩
     refine G_skip ?_
     refine G_seq ?_
     refine G_seq ?_
     refine G_region (l := [0, 1, 2]) rfl ?_
     refine G_val rfl rfl rfl rfl (V_fieldAddr (fo := 0) rfl Try.underlying58 rfl infScriptX_3 rfl rfl rfl) ?_
     refine G_val rfl rfl rfl rfl (V_load1 rfl rfl (mem_at 1 rfl) rfl Try.underlying3 rfl) ?_
     refine G_val rfl rfl rfl rfl (V_eql rfl rfl rfl) ?_
     refine G_done ?_
     refine G_ifD rfl (fun hc2 => ?_) (fun hc2 => ?_)
     · (first | contradiction | (exact absurd rfl hc2) | (exfalso; omega) | (simp at hc2; done) | (exact absurd hc2 (by decide)) | (exact absurd (by decide) hc2))
     refine G_skip ?_
     refine G_seq ?_
     first | rw [one2 (by omega)] | rw [one1 (by omega) (by omega)] | rw [one3 (by omega) (by omega)]
     refine G_region (l := [0, 1]) rfl ?_
     refine G_val rfl rfl rfl rfl (V_move rfl rfl) ?_
     refine G_val rfl rfl rfl rfl (V_assign rfl rfl) ?_
     refine G_done ?_
     refine G_ret (post := []) Try.func83 rfl (RVs_cons (RV_tmp rfl) RVs_nil) [] rfl ?_
     dsimp only [packed]
     exact ⟨rfl, rfl⟩

set_option maxRecDepth 100000 in
set_option maxHeartbeats 1000000 in
theorem rsc_encode (o1 : Option Nat) (p1 q1 : Nat) (c1 : Array Value) (T1 : TypeId) (f1 : Nat × Nat) (ms : List Em) (h1 : Sees 5 o1 p1 q1 c1 (ms.flatMap evC) ms.length) (hok : ∀ m ∈ ms, EmOk m) :
    Ct Try.prog 24 [sv o1 p1 ms.length q1] ((o1, .cells c1 T1 f1) :: ms.map evK) [] fun v post => v = scrT (evsOf ms) ∧ post = [] := by
 have hl1 := h1.le
 have hl2 := h1.max
 refine ct_of Try.func24 rfl rfl (fun w0 => ?_)
 show G _ _ [(0, _)] _ _
 refine G_seq ?_
 refine G_region (l := [0, 1]) rfl ?_
 refine G_val rfl rfl rfl rfl (V_assign rfl rfl) ?_
 refine G_val rfl rfl rfl rfl (V_assign rfl rfl) ?_
 refine G_done ?_
 refine G_seq ?_
 refine G_seq ?_
 refine G_region (l := [0, 1, 2]) rfl ?_
 refine G_val rfl rfl rfl rfl (V_move rfl rfl) ?_
 refine G_val rfl rfl rfl rfl (V_len rfl rfl Try.underlying53 rfl) ?_
 refine G_val rfl rfl rfl rfl (V_gtr rfl rfl rfl) ?_
 refine G_done ?_
 refine G_ifD rfl (fun hc1 => ?_) (fun hc1 => ?_)
 · skip
   refine G_seq ?_
   refine G_region (l := [0, 1]) rfl ?_
   refine G_val rfl rfl rfl rfl (V_assign rfl rfl) ?_
   refine G_val rfl rfl rfl rfl (V_assign rfl rfl) ?_
   refine G_done ?_
   refine G_ret (post := []) Try.func24 rfl (RVs_cons (RV_tmp rfl) (RVs_cons (RV_tmp rfl) RVs_nil)) [] rfl ?_
   dsimp only [packed]
   first
     | exact ⟨(scrT_many (by omega)).symm, rfl⟩
     | exact ⟨(scrT_no (by omega) hx (by simpa using ‹(!decide (MayE x.v)) = true›)).symm, rfl⟩
     | exact ⟨(scrT_yes (by omega) (by omega) hall).symm, rfl⟩
 refine G_skip ?_
 refine G_seq ?_
 have hcl := chainI_len (ms.length : Int) (by omega) (by omega)
 refine G_region (l := [0, 1, 2, 3]) rfl ?_
 refine G_val rfl rfl rfl rfl (V_move rfl rfl) ?_
 refine G_val rfl rfl rfl rfl (V_len rfl rfl Try.underlying53 rfl) ?_
 refine G_callM (L2 := []) rfl rfl rfl rfl rfl rfl Try.call82 (sr_num _ (by omega) (by omega)) [] rfl subA_nil ?_
 rintro v post ⟨rfl, rfl⟩
 refine G_val rfl rfl rfl rfl (V_assign rfl rfl) ?_
 refine G_done ?_
 refine G_seq ?_
 refine G_seq ?_
 refine G_region (l := [0]) rfl ?_
 refine G_val rfl rfl rfl rfl (V_assign rfl rfl) ?_
 refine G_done ?_
 refine G_block ?_
 refine G_sub ?he5 [] ?hl5 (G_loop (X := Nat) (fun i => i ≤ ms.length ∧ ∀ m ∈ ms.take i, MayE m.v) (fun i => ms.length - i) (fun i => [(0, sv o1 p1 ms.length q1), (4, .string (bs (txE ms i))), (5, .int .i64 (i : Int))]) (fun i => []) ?round5 0 ?h05)
 case he5 => refine (And.intro rfl (And.intro (by unfold txE evsOf; simp; rfl) (And.intro rfl trivial)))
 case hl5 => exact ⟨_, rfl⟩
 case h05 => exact ⟨Nat.zero_le _, by simp⟩
 case round5 =>
  intro i hJ ih
  try dsimp only at hJ ih
  obtain ⟨hi, hall⟩ := hJ
  refine G_seq ?_
  refine G_seq ?_
  refine G_region (l := [0, 1, 2, 3]) rfl ?_
  refine G_val rfl rfl rfl rfl (V_move rfl rfl) ?_
  refine G_val rfl rfl rfl rfl (V_move rfl rfl) ?_
  refine G_val rfl rfl rfl rfl (V_len rfl rfl Try.underlying53 rfl) ?_
  refine G_val rfl rfl rfl rfl (V_lss rfl rfl rfl) ?_
  refine G_done ?_
  refine G_ifD rfl (fun hc2 => ?_) (fun hc2 => ?_)
  · skip
    refine G_skip ?_
    refine G_seq ?_
    refine G_block ?_
    refine G_seq ?_
    refine G_seq ?_
    obtain ⟨x, hx⟩ := getI (show i < ms.length by omega)
    obtain ⟨b1, rfl⟩ := h1.isSome (by omega)
    have hxo := hok x (List.mem_of_getElem? hx)
    refine G_region (l := [0, 1, 2, 3, 4, 5]) rfl ?_
    refine G_val rfl rfl rfl rfl (V_move rfl rfl) ?_
    refine G_val rfl rfl rfl rfl (V_move rfl rfl) ?_
    first
      | refine G_val rfl rfl rfl rfl (V_indexAddrN (s := 5) rfl Try.underlying53 infScriptX_58 rfl rfl rfl rfl (by omega)) ?_
      | refine G_val rfl rfl rfl rfl (V_indexAddr (s := 5) rfl Try.underlying53 infScriptX_58 rfl rfl rfl (by omega) (by first | omega | (simp [evC, evV, kC, evS]; done) | (simp [evC, evV, kC, evS]; omega) | (simp [evC, evV, kC, evS] at *; omega))) ?_
    refine G_val rfl rfl rfl rfl (V_loadA (s := 5) (vs := (evC x).toArray) rfl rfl (List.mem_append_left _ (mem_at 0 rfl)) Try.underlying58 rfl infScriptX_58 rfl (h1.elem evC_len hx) (by first | rfl | (simp [bcells_length, evC, evV, kC, evS]; done) | (simp [bcells_length, evC, evV, kC, evS]; omega) | (simp [bcells_length, *, evC, evV, kC, evS]; done))) ?_
    refine G_callM (L2 := []) rfl rfl rfl rfl rfl rfl Try.call22 (rsc_may x hxo) [] rfl (subA_cons (List.mem_append_left _ (List.mem_cons_of_mem _ (List.mem_map.2 ⟨x, List.mem_of_getElem? hx, rfl⟩))) subA_nil) ?_
    rintro v post ⟨rfl, rfl⟩
    refine G_val rfl rfl rfl rfl (V_not rfl rfl) ?_
    refine G_done ?_
    refine G_if rfl (fun hc3 => ?_) (fun hc3 => ?_)
    · skip
      refine G_seq ?_
      refine G_region (l := [0, 1]) rfl ?_
      refine G_val rfl rfl rfl rfl (V_assign rfl rfl) ?_
      refine G_val rfl rfl rfl rfl (V_assign rfl rfl) ?_
      refine G_done ?_
      refine G_ret (post := []) Try.func24 rfl (RVs_cons (RV_tmp rfl) (RVs_cons (RV_tmp rfl) RVs_nil)) [] rfl ?_
      dsimp only [packed]
      first
        | exact ⟨(scrT_many (by omega)).symm, rfl⟩
        | exact ⟨(scrT_no (by omega) hx (by simpa using ‹(!decide (MayE x.v)) = true›)).symm, rfl⟩
        | exact ⟨(scrT_yes (by omega) (by omega) hall).symm, rfl⟩
    refine G_skip ?_
    have hmx : MayE x.v := by simpa using ‹(!decide (MayE x.v)) = false›
    have tl := txE_len (show ms.length ≤ 400 by omega) hok hall
    have el := encE_len hmx hxo.t
    refine G_region (l := [0, 1, 2, 3, 4, 5, 6, 7]) rfl ?_
    refine G_val rfl rfl rfl rfl (V_move rfl rfl) ?_
    refine G_val rfl rfl rfl rfl (V_move rfl rfl) ?_
    refine G_val rfl rfl rfl rfl (V_move rfl rfl) ?_
    first
      | refine G_val rfl rfl rfl rfl (V_indexAddrN (s := 5) rfl Try.underlying53 infScriptX_58 rfl rfl rfl rfl (by omega)) ?_
      | refine G_val rfl rfl rfl rfl (V_indexAddr (s := 5) rfl Try.underlying53 infScriptX_58 rfl rfl rfl (by omega) (by first | omega | (simp [evC, evV, kC, evS]; done) | (simp [evC, evV, kC, evS]; omega) | (simp [evC, evV, kC, evS] at *; omega))) ?_
    refine G_val rfl rfl rfl rfl (V_loadA (s := 5) (vs := (evC x).toArray) rfl rfl (List.mem_append_left _ (mem_at 0 rfl)) Try.underlying58 rfl infScriptX_58 rfl (h1.elem evC_len hx) (by first | rfl | (simp [bcells_length, evC, evV, kC, evS]; done) | (simp [bcells_length, evC, evV, kC, evS]; omega) | (simp [bcells_length, *, evC, evV, kC, evS]; done))) ?_
    refine G_callM (L2 := []) rfl rfl rfl rfl rfl rfl Try.call83 (rsc_one x hxo hmx) [] rfl (subA_cons (List.mem_append_left _ (List.mem_cons_of_mem _ (List.mem_map.2 ⟨x, List.mem_of_getElem? hx, rfl⟩))) subA_nil) ?_
    rintro v post ⟨rfl, rfl⟩
    refine G_val rfl rfl rfl rfl (V_sadd rfl rfl rfl (by first | omega | (simp [evC, evV, kC, evS]; done) | (simp [evC, evV, kC, evS]; omega) | (simp [evC, evV, kC, evS] at *; omega))) ?_
    refine G_val rfl rfl rfl rfl (V_assign rfl rfl) ?_
    refine G_done ?_
    refine G_inBlock ?_
    refine G_region (l := [0, 1, 2]) rfl ?_
    refine G_val rfl rfl rfl rfl (V_move rfl rfl) ?_
    first
      | refine G_val rfl rfl rfl rfl ((V_add rfl rfl rfl).int (wrap_i64 (by omega))) ?_
      | refine G_val rfl rfl rfl rfl (V_add rfl rfl rfl) ?_
    refine G_val rfl rfl rfl rfl (V_assign rfl rfl) ?_
    refine G_done ?_
    refine G_sub ?_ [] ?_ (ih (i + 1) ?_ ?_)
    · refine (And.intro rfl (And.intro (slot_str (txE_next hx)) (And.intro rfl trivial)))
    · exact ⟨_, rfl⟩
    · exact ⟨by omega, mayE_next hall hx hmx⟩
    · (first | omega | (dsimp only; omega))
  refine G_exit rfl ?_
  refine G_seq ?_
  refine G_region (l := [0, 1, 2]) rfl ?_
  refine G_val rfl rfl rfl rfl (V_move rfl rfl) ?_
  refine G_val rfl rfl rfl rfl (V_assign rfl rfl) ?_
  refine G_val rfl rfl rfl rfl (V_assign rfl rfl) ?_
  refine G_done ?_
  refine G_ret (post := []) Try.func24 rfl (RVs_cons (RV_tmp rfl) (RVs_cons (RV_tmp rfl) RVs_nil)) [] rfl ?_
  dsimp only [packed]
  first
    | exact ⟨(scrT_many (by omega)).symm, rfl⟩
    | exact ⟨(scrT_no (by omega) hx (by simpa using ‹(!decide (MayE x.v)) = true›)).symm, rfl⟩
    | exact ⟨(scrT_yes (by omega) (by omega) hall).symm, rfl⟩

set_option maxRecDepth 100000 in
set_option maxHeartbeats 1000000 in
theorem sc_put (b : Nat) (p : Value) (u : Sl) (tx : List UInt8) (hp : UsedOr b p) (hu : Txt u tx) (x : Int) (hx0 : 0 ≤ x) (hx1 : x < 18446744073709551616) (hs : tx.length ≤ 10000000) :
    Ct Try.prog 78 [.int .u64 x, .pointer (some ⟨b, 0, none⟩)] [] [(some b, .cells #[p, u.v tx.length] 78 (0, 0)), (u.ob, .cells u.cs 5 u.fz)] fun v post => v = .tuple #[] ∧ ∃ u1, Txt u1 (tx ++ chainI x) ∧ post = [(some b, .cells #[.pointer (some ⟨b, 0, none⟩), u1.v (tx ++ chainI x).length] 78 (0, 0)), (u1.ob, .cells u1.cs 5 u1.fz)] := by
 have hcl := chainI_len x hx0 hx1
 refine ct_of Try.func78 rfl rfl (fun w0 => ?_)
 show G _ _ [(0, _), (1, _)] _ _
 refine G_region (l := [0, 1, 2]) rfl ?_
 refine G_val rfl rfl rfl rfl (V_move rfl rfl) ?_
 refine G_call (L2 := [_, _]) rfl rfl rfl rfl rfl rfl Try.call80 (ct_chain _ (by omega) (by omega)) [] [] rfl rfl ?_
 rintro v post ⟨rfl, rfl⟩
 show G _ _ _ [_, _] _
 refine G_call (L2 := []) rfl rfl rfl rfl rfl rfl Try.call79 (bld_write _ _ _ _ _ hp hu (by omega)) [0, 0] [] rfl rfl ?_
 rintro v post ⟨rfl, u1, hu1, rfl⟩
 show G _ _ _ [_, _] _
 refine G_done ?_
 refine G_end (post := [_, _]) Try.func78 rfl RVs_nil [0, 0] rfl ?_
 dsimp only [packed]
 exact ⟨rfl, u1, hu1, rfl⟩

set_option maxRecDepth 100000 in
set_option maxHeartbeats 2000000 in
theorem sc_encode (o1 : Option Nat) (p1 q1 : Nat) (c1 : Array Value) (T1 : TypeId) (f1 : Nat × Nat) (ms : List Em) (h1 : Sees 5 o1 p1 q1 c1 (ms.flatMap evC) ms.length) (hok : ∀ m ∈ ms, EmOk m) :
    Ct Try.prog 23 [sv o1 p1 ms.length q1] ((o1, .cells c1 T1 f1) :: ms.map evK) [] fun v post => v = scrT (evsOf ms) ∧ post = [] := by
 have hl1 := h1.le
 have hl2 := h1.max
 refine ct_of Try.func23 rfl rfl (fun w0 => ?_)
 show G _ _ [(0, _)] _ _
 refine G_seq ?_
 refine G_region (l := [0, 1]) rfl ?_
 refine G_val rfl rfl rfl rfl (V_assign rfl rfl) ?_
 refine G_val rfl rfl rfl rfl (V_assign rfl rfl) ?_
 refine G_done ?_
 refine G_seq ?_
 refine G_seq ?_
 refine G_region (l := [0, 1, 2]) rfl ?_
 refine G_val rfl rfl rfl rfl (V_move rfl rfl) ?_
 refine G_val rfl rfl rfl rfl (V_len rfl rfl Try.underlying53 rfl) ?_
 refine G_val rfl rfl rfl rfl (V_gtr rfl rfl rfl) ?_
 refine G_done ?_
 refine G_ifD rfl (fun hc1 => ?_) (fun hc1 => ?_)
 · skip
   refine G_seq ?_
   refine G_region (l := [0, 1]) rfl ?_
   refine G_val rfl rfl rfl rfl (V_assign rfl rfl) ?_
   refine G_val rfl rfl rfl rfl (V_assign rfl rfl) ?_
   refine G_done ?_
   refine G_ret (post := []) Try.func23 rfl (RVs_cons (RV_tmp rfl) (RVs_cons (RV_tmp rfl) RVs_nil)) [] rfl ?_
   dsimp only [packed]
   first
     | exact ⟨(scrT_many (by omega)).symm, rfl⟩
     | exact ⟨(scrT_no (by omega) hx (by simpa using ‹(!decide (MayE x.v)) = true›)).symm, rfl⟩
     | exact ⟨(scrT_yes (by omega) (by omega) hall).symm, rfl⟩
 refine G_skip ?_
 refine G_seq ?_
 refine G_region (l := [0]) rfl ?_
 refine G_new rfl rfl rfl rfl (N_allocA rfl infScriptX_78 rfl) (fun b4 => ?_)
 refine G_done ?_
 refine G_seq ?_
 refine G_region (l := [0, 1]) rfl ?_
 refine G_val rfl rfl rfl rfl (V_func rfl rfl rfl) ?_
 refine G_val rfl rfl rfl rfl (V_assign rfl rfl) ?_
 refine G_done ?_
 refine G_seq ?_
 have hcl := chainI_len (ms.length : Int) (by omega) (by omega)
 have hux := txt_nil
 have hpx : UsedOr b4 (.pointer none) := .inl rfl
 refine G_addNone (.cells #[] 5 (0, 0)) ?_
 refine G_region (l := [0, 1, 2, 3, 4]) rfl ?_
 refine G_val rfl rfl rfl rfl (V_move rfl rfl) ?_
 refine G_val rfl rfl rfl rfl (V_move rfl rfl) ?_
 refine G_val rfl rfl rfl rfl (V_len rfl rfl Try.underlying53 rfl) ?_
 first
   | refine G_val rfl rfl rfl rfl ((V_conv rfl rfl Try.underlying3 Try.underlying23).int (wrap_u64 (by omega))) ?_
   | refine G_val rfl rfl rfl rfl (V_conv rfl rfl Try.underlying3 Try.underlying23) ?_
 refine G_callMC (L2 := []) rfl rfl rfl rfl rfl rfl Try.call78 rfl (sc_put b4 _ _ _ hpx hux (ms.length : Int) (by omega) (by omega) (by (try simp only [List.length_append, List.length_nil]); omega)) [1, 0] rfl subA_nil ?_
 rintro v post ⟨rfl, u1, hu1, rfl⟩
 show G _ _ _ [_, _] _
 have hux := hu1
 have hpx := UsedOr.self b4
 clear hu1
 rw [txE_zero ms] at hux ⊢
 refine G_done ?_
 refine G_seq ?_
 refine G_seq ?_
 refine G_region (l := [0, 1, 2]) rfl ?_
 refine G_val rfl rfl rfl rfl (V_move rfl rfl) ?_
 refine G_val rfl rfl rfl rfl (V_len rfl rfl Try.underlying53 rfl) ?_
 refine G_val rfl rfl rfl rfl (V_move rfl rfl) ?_
 refine G_done ?_
 refine G_block ?_
 refine G_sub ?he7 [0, 0] ?hl7 (G_loop (X := Nat × Value × Sl) (fun x => match x with | ⟨i, pv, u⟩ => i ≤ ms.length ∧ (∀ m ∈ ms.take i, MayE m.v) ∧ UsedOr b4 pv ∧ Txt u (txE ms i)) (fun x => match x with | ⟨i, pv, u⟩ => ms.length - i) (fun x => match x with | ⟨i, pv, u⟩ => [(4, .pointer (some ⟨b4, 0, none⟩)), (5, .func (.func 78) #[] #[.pointer (some ⟨b4, 0, none⟩)]), (21, sv o1 p1 ms.length q1), (22, .int .i64 (ms.length : Int)), (23, .int .i64 (i : Int))]) (fun x => match x with | ⟨i, pv, u⟩ => [(some b4, .cells #[pv, u.v (txE ms i).length] 78 (0, 0)), (u.ob, .cells u.cs 5 u.fz)]) ?round7 (0, .pointer (some ⟨b4, 0, none⟩), u1) ?h07)
 case he7 => exact (And.intro rfl (And.intro rfl (And.intro rfl (And.intro rfl (And.intro rfl trivial)))))
 case hl7 => exact ⟨_, rfl⟩
 case h07 => exact ⟨Nat.zero_le _, by simp, hpx, hux⟩
 case round7 =>
  intro x hJ ih
  try dsimp only at hJ ih
  obtain ⟨i, pv, u⟩ := x
  try dsimp only at hJ ih
  obtain ⟨hi, hall, hpx, hux⟩ := hJ
  show G _ _ [(4, .pointer (some ⟨b4, 0, none⟩)), (5, .func (.func 78) #[] #[.pointer (some ⟨b4, 0, none⟩)]), (21, sv o1 p1 ms.length q1), (22, .int .i64 (ms.length : Int)), (23, .int .i64 (i : Int))] [(some b4, .cells #[pv, u.v (txE ms i).length] 78 (0, 0)), (u.ob, .cells u.cs 5 u.fz)] _
  refine G_seq ?_
  refine G_region (l := [0]) rfl ?_
  refine G_val rfl rfl rfl rfl (V_lss rfl rfl rfl) ?_
  refine G_done ?_
  refine G_seq ?_
  refine G_ifD rfl (fun hc2 => ?_) (fun hc2 => ?_)
  · skip
    refine G_skip ?_
    refine G_seq ?_
    refine G_block ?_
    refine G_seq ?_
    obtain ⟨x, hx⟩ := getI (show i < ms.length by omega)
    obtain ⟨b1, rfl⟩ := h1.isSome (by omega)
    have hxo := hok x (List.mem_of_getElem? hx)
    refine G_region (l := [0, 1, 2, 3]) rfl ?_
    first
      | refine G_val rfl rfl rfl rfl (V_indexAddrN (s := 5) rfl Try.underlying53 infScriptX_58 rfl rfl rfl rfl (by omega)) ?_
      | refine G_val rfl rfl rfl rfl (V_indexAddr (s := 5) rfl Try.underlying53 infScriptX_58 rfl rfl rfl (by omega) (by first | omega | (simp [evC, evV, kC, evS]; done) | (simp [evC, evV, kC, evS]; omega) | (simp [evC, evV, kC, evS] at *; omega))) ?_
    refine G_val rfl rfl rfl rfl (V_loadA (s := 5) (vs := (evC x).toArray) rfl rfl (List.mem_append_left _ (mem_at 0 rfl)) Try.underlying58 rfl infScriptX_58 rfl (h1.elem evC_len hx) (by first | rfl | (simp [bcells_length, evC, evV, kC, evS]; done) | (simp [bcells_length, evC, evV, kC, evS]; omega) | (simp [bcells_length, *, evC, evV, kC, evS]; done))) ?_
    refine G_new rfl rfl rfl rfl (N_allocA rfl infScriptX_58 rfl) (fun b7 => ?_)
    refine G_put (l1 := []) (L' := [_, _, _]) rfl rfl rfl rfl (P_storeA (s := 5) rfl rfl rfl (mem_at 0 rfl) (by first | rfl | (simp [bcells_length, evC, evV, kC, evS]; done) | (simp [bcells_length, evC, evV, kC, evS]; omega) | (simp [bcells_length, *, evC, evV, kC, evS]; done)) infScriptX_58 rfl (by first | rfl | (simp [bcells_length, evC, evV, kC, evS]; done) | (simp [bcells_length, evC, evV, kC, evS]; omega) | (simp [bcells_length, *, evC, evV, kC, evS]; done)) (by first | rfl | exact bcells_all _ | (simp [Value.oneCell', evC, evV, kC, evS]; done) | (simp [Value.oneCell', *, evC, evV, kC, evS]; done))) rfl ?_
    refine G_done ?_
    refine G_seq ?_
    refine G_seq ?_
    refine G_region (l := [0, 1, 2]) rfl ?_
    first
      | refine G_val rfl rfl rfl rfl (V_loadW (s := 5) rfl rfl (List.mem_append_right _ (mem_at 0 rfl)) Try.underlying58 rfl infScriptX_58 rfl (by first | rfl | (simp [bcells_length, evC, evV, kC, evS]; done) | (simp [bcells_length, evC, evV, kC, evS]; omega) | (simp [bcells_length, *, evC, evV, kC, evS]; done))) ?_
      | refine G_val rfl rfl rfl rfl (V_loadA (s := 5) rfl rfl (List.mem_append_right _ (mem_at 0 rfl)) Try.underlying58 rfl infScriptX_58 rfl rfl (by first | rfl | (simp [bcells_length, evC, evV, kC, evS]; done) | (simp [bcells_length, evC, evV, kC, evS]; omega) | (simp [bcells_length, *, evC, evV, kC, evS]; done))) ?_
    refine G_callM (L2 := [_, _, _]) rfl rfl rfl rfl rfl rfl Try.call21 (sc_may x hxo) [] rfl (subA_cons (List.mem_append_left _ (List.mem_cons_of_mem _ (List.mem_map.2 ⟨x, List.mem_of_getElem? hx, rfl⟩))) subA_nil) ?_
    rintro v post ⟨rfl, rfl⟩
    show G _ _ _ [_, _, _] _
    refine G_val rfl rfl rfl rfl (V_not rfl rfl) ?_
    refine G_done ?_
    refine G_if rfl (fun hc3 => ?_) (fun hc3 => ?_)
    · skip
      refine G_seq ?_
      refine G_region (l := [0, 1]) rfl ?_
      refine G_val rfl rfl rfl rfl (V_assign rfl rfl) ?_
      refine G_val rfl rfl rfl rfl (V_assign rfl rfl) ?_
      refine G_done ?_
      refine G_ret (post := []) Try.func23 rfl (RVs_cons (RV_tmp rfl) (RVs_cons (RV_tmp rfl) RVs_nil)) [] rfl ?_
      dsimp only [packed]
      first
        | exact ⟨(scrT_many (by omega)).symm, rfl⟩
        | exact ⟨(scrT_no (by omega) hx (by simpa using ‹(!decide (MayE x.v)) = true›)).symm, rfl⟩
        | exact ⟨(scrT_yes (by omega) (by omega) hall).symm, rfl⟩
    refine G_skip ?_
    refine G_seq ?_
    have hmx : MayE x.v := by simpa using ‹(!decide (MayE x.v)) = false›
    have hkd := (mayE_bd hmx).1
    obtain ⟨⟨g1, g2⟩, g3, ⟨g4, g5⟩, g6, g7⟩ := mayE_bd hmx
    obtain ⟨q1l, q2l, q3l, q4l, q5l⟩ := pre_len hmx hxo.t
    have tl := txE_len (show ms.length ≤ 400 by omega) hok hall
    have ht1 := hxo.t
    refine G_region (l := [0, 1, 2, 3, 4]) rfl ?_
    refine G_val rfl rfl rfl rfl (V_move rfl rfl) ?_
    refine G_val rfl rfl rfl rfl (V_fieldAddr (fo := 0) rfl Try.underlying58 rfl infScriptX_3 rfl rfl rfl) ?_
    refine G_val rfl rfl rfl rfl (V_load1 rfl rfl (List.mem_append_right _ (mem_at 0 rfl)) rfl Try.underlying3 rfl) ?_
    first
      | refine G_val rfl rfl rfl rfl ((V_conv rfl rfl Try.underlying3 Try.underlying23).int (wrap_u64 (by omega))) ?_
      | refine G_val rfl rfl rfl rfl (V_conv rfl rfl Try.underlying3 Try.underlying23) ?_
    refine G_callMC (L2 := [_]) rfl rfl rfl rfl rfl rfl Try.call78 rfl (sc_put b4 _ _ _ hpx hux x.v.kd (by omega) (by omega) (by (try simp only [List.length_append, List.length_nil]); omega)) [1, 1] rfl subA_nil ?_
    rintro v post ⟨rfl, u1, hu1, rfl⟩
    show G _ _ _ [_, _, _] _
    have hux := hu1
    have hpx := UsedOr.self b4
    clear hu1
    refine G_done ?_
    refine G_seq ?_
    rcases (by omega : x.v.kd = 1 ∨ x.v.kd = 2 ∨ x.v.kd = 3) with hk1 | hk1 | hk1
    · skip
      refine G_region (l := [0, 1, 2, 3]) rfl ?_
      refine G_val rfl rfl rfl rfl (V_fieldAddr (fo := 0) rfl Try.underlying58 rfl infScriptX_3 rfl rfl rfl) ?_
      refine G_val rfl rfl rfl rfl (V_load1 rfl rfl (List.mem_append_right _ (mem_at 2 rfl)) rfl Try.underlying3 rfl) ?_
      refine G_callM (L2 := [_, _, _]) rfl rfl rfl rfl rfl rfl Try.call75 ((sc_fields x.v.kd).weaken (fun v post h => by rw [flds1 hk1] at h; exact h)) [] rfl subA_nil ?_
      rintro v post ⟨rfl, rfl⟩
      show G _ _ _ [_, _, _] _
      refine G_new rfl rfl rfl rfl (N_range rfl Try.underlying9 rfl) (fun b38 => ?_)
      refine G_done ?_
      refine G_block ?_
      refine G_loop1 ?_
      refine G_seq ?_
      refine G_region (l := [0, 1]) rfl ?_
      refine G_putV (l1 := []) (L' := [_, _, _, _]) rfl rfl rfl rfl rfl (P_next (i := 0) rfl rfl (mem_at 0 rfl) (by decide) (by decide)) rfl ?_
      refine G_val rfl rfl rfl rfl (V_extract rfl rfl rfl) ?_
      refine G_done ?_
      refine G_seq ?_
      refine G_then rfl ?_
      refine G_skip ?_
      refine G_block ?_
      refine G_seq ?_
      refine G_region (l := [0, 1]) rfl ?_
      refine G_val rfl rfl rfl rfl (V_extract rfl rfl rfl) ?_
      refine G_val rfl rfl rfl rfl (V_assign rfl rfl) ?_
      refine G_done ?_
      refine G_seq ?_
      refine G_region (l := [0]) rfl ?_
      refine G_val rfl rfl rfl rfl (V_move rfl rfl) ?_
      refine G_done ?_
      refine G_block ?_
      refine G_seq ?_
      refine G_region (l := [0, 1]) rfl ?_
      refine G_val rfl rfl rfl rfl (V_eql rfl rfl rfl) ?_
      refine G_val rfl rfl rfl rfl (V_assign rfl rfl) ?_
      refine G_done ?_
      refine G_ifD rfl (fun hc4 => ?_) (fun hc4 => ?_)
      rotate_left
      · (first | contradiction | (exact absurd rfl hc4) | (exfalso; omega) | (simp at hc4; done) | (exact absurd hc4 (by decide)) | (exact absurd (by decide) hc4))
      refine G_region (l := [0, 1, 2, 3]) rfl ?_
      refine G_val rfl rfl rfl rfl (V_move rfl rfl) ?_
      refine G_val rfl rfl rfl rfl (V_fieldAddr (fo := 2) rfl Try.underlying58 rfl infScriptX_23 rfl rfl rfl) ?_
      refine G_val rfl rfl rfl rfl (V_load1 rfl rfl (List.mem_append_right _ (mem_at 3 rfl)) rfl Try.underlying23 rfl) ?_
      refine G_callMC (L2 := [_, _]) rfl rfl rfl rfl rfl rfl Try.call78 rfl (sc_put b4 _ _ _ hpx hux (x.v.t : Int) (by omega) (by omega) (by (try simp only [List.length_append, List.length_nil]); omega)) [1, 1] rfl subA_nil ?_
      rintro v post ⟨rfl, u1, hu1, rfl⟩
      show G _ _ _ [_, _, _, _] _
      have hux := hu1
      have hpx := UsedOr.self b4
      clear hu1
      refine G_done ?_
      refine G_inBlock ?_
      refine G_inBlock ?_
      refine G_again ?_
      refine G_seq ?_
      refine G_region (l := [0, 1]) rfl ?_
      refine G_putV (l1 := [_, _]) (L' := [_, _, _, _]) rfl rfl rfl rfl rfl (P_next (i := 1) rfl rfl (mem_at 2 rfl) (by decide) (by decide)) rfl ?_
      refine G_val rfl rfl rfl rfl (V_extract rfl rfl rfl) ?_
      refine G_done ?_
      refine G_seq ?_
      refine G_then rfl ?_
      refine G_skip ?_
      refine G_block ?_
      refine G_seq ?_
      refine G_region (l := [0, 1]) rfl ?_
      refine G_val rfl rfl rfl rfl (V_extract rfl rfl rfl) ?_
      refine G_val rfl rfl rfl rfl (V_assign rfl rfl) ?_
      refine G_done ?_
      refine G_seq ?_
      refine G_region (l := [0]) rfl ?_
      refine G_val rfl rfl rfl rfl (V_move rfl rfl) ?_
      refine G_done ?_
      refine G_block ?_
      refine G_seq ?_
      refine G_region (l := [0, 1]) rfl ?_
      refine G_val rfl rfl rfl rfl (V_eql rfl rfl rfl) ?_
      refine G_val rfl rfl rfl rfl (V_assign rfl rfl) ?_
      refine G_done ?_
      refine G_ifD rfl (fun hc5 => ?_) (fun hc5 => ?_)
      · (first | contradiction | (exact absurd rfl hc5) | (exfalso; omega) | (simp at hc5; done) | (exact absurd hc5 (by decide)) | (exact absurd (by decide) hc5))
      refine G_seq ?_
      refine G_region (l := [0, 1]) rfl ?_
      refine G_val rfl rfl rfl rfl (V_eql rfl rfl rfl) ?_
      refine G_val rfl rfl rfl rfl (V_assign rfl rfl) ?_
      refine G_done ?_
      refine G_ifD rfl (fun hc6 => ?_) (fun hc6 => ?_)
      rotate_left
      · (first | contradiction | (exact absurd rfl hc6) | (exfalso; omega) | (simp at hc6; done) | (exact absurd hc6 (by decide)) | (exact absurd (by decide) hc6))
      refine G_region (l := [0, 1, 2, 3]) rfl ?_
      refine G_val rfl rfl rfl rfl (V_fieldAddr (fo := 1) rfl Try.underlying58 rfl infScriptX_9 rfl rfl rfl) ?_
      refine G_val rfl rfl rfl rfl (V_load1 rfl rfl (List.mem_append_right _ (mem_at 3 rfl)) rfl Try.underlying9 rfl) ?_
      refine G_callM (L2 := [_, _, _, _]) rfl rfl rfl rfl rfl rfl Try.call81 (ct_text _ (by omega)) [] rfl subA_nil ?_
      rintro v post ⟨rfl, rfl⟩
      show G _ _ _ [_, _, _, _] _
      refine G_callM (L2 := [_, _]) rfl rfl rfl rfl rfl rfl Try.call79 (bld_write _ _ _ _ _ hpx hux (by (try simp only [List.length_append, List.length_nil]); omega)) [0, 0] rfl subA_nil ?_
      rintro v post ⟨rfl, u1, hu1, rfl⟩
      show G _ _ _ [_, _, _, _] _
      have hux := hu1
      have hpx := UsedOr.self b4
      clear hu1
      refine G_done ?_
      refine G_inBlock ?_
      refine G_inBlock ?_
      refine G_again ?_
      refine G_seq ?_
      refine G_region (l := [0, 1]) rfl ?_
      refine G_val rfl rfl rfl rfl (V_nextE (i := 2) rfl rfl (mem_at 2 rfl) (by decide)) ?_
      refine G_val rfl rfl rfl rfl (V_extract rfl rfl rfl) ?_
      refine G_done ?_
      refine G_seq ?_
      refine G_else rfl ?_
      refine G_exit rfl ?_
      refine G_inBlock ?_
      first | rw [tx1 hx hk1] at hux ⊢ | rw [tx2 hx hk1] at hux ⊢ | rw [tx3 hx hk1 (by omega)] at hux ⊢
      refine G_region (l := [0, 1]) rfl ?_
      first
        | refine G_val rfl rfl rfl rfl ((V_add rfl rfl rfl).int (wrap_i64 (by omega))) ?_
        | refine G_val rfl rfl rfl rfl (V_add rfl rfl rfl) ?_
      refine G_val rfl rfl rfl rfl (V_move rfl rfl) ?_
      refine G_done ?_
      refine G_sub ?_ [0, 0] ?_ (ih (i + 1, .pointer (some ⟨b4, 0, none⟩), u1) ?_ ?_)
      · (refine (And.intro ?_ (And.intro ?_ (And.intro ?_ (And.intro ?_ (And.intro ?_ trivial))))) <;> first | rfl | exact slot_int (by omega) | exact slot_int (by simp))
      · exact ⟨_, rfl⟩
      · exact ⟨by omega, mayE_next hall hx hmx, .inr rfl, hux⟩
      · (first | omega | (dsimp only; omega))
    · skip
      refine G_region (l := [0, 1, 2, 3]) rfl ?_
      refine G_val rfl rfl rfl rfl (V_fieldAddr (fo := 0) rfl Try.underlying58 rfl infScriptX_3 rfl rfl rfl) ?_
      refine G_val rfl rfl rfl rfl (V_load1 rfl rfl (List.mem_append_right _ (mem_at 2 rfl)) rfl Try.underlying3 rfl) ?_
      refine G_callM (L2 := [_, _, _]) rfl rfl rfl rfl rfl rfl Try.call75 ((sc_fields x.v.kd).weaken (fun v post h => by rw [flds2 hk1] at h; exact h)) [] rfl subA_nil ?_
      rintro v post ⟨rfl, rfl⟩
      show G _ _ _ [_, _, _] _
      refine G_new rfl rfl rfl rfl (N_range rfl Try.underlying9 rfl) (fun b38 => ?_)
      refine G_done ?_
      refine G_block ?_
      refine G_loop1 ?_
      refine G_seq ?_
      refine G_region (l := [0, 1]) rfl ?_
      refine G_putV (l1 := []) (L' := [_, _, _, _]) rfl rfl rfl rfl rfl (P_next (i := 0) rfl rfl (mem_at 0 rfl) (by decide) (by decide)) rfl ?_
      refine G_val rfl rfl rfl rfl (V_extract rfl rfl rfl) ?_
      refine G_done ?_
      refine G_seq ?_
      refine G_then rfl ?_
      refine G_skip ?_
      refine G_block ?_
      refine G_seq ?_
      refine G_region (l := [0, 1]) rfl ?_
      refine G_val rfl rfl rfl rfl (V_extract rfl rfl rfl) ?_
      refine G_val rfl rfl rfl rfl (V_assign rfl rfl) ?_
      refine G_done ?_
      refine G_seq ?_
      refine G_region (l := [0]) rfl ?_
      refine G_val rfl rfl rfl rfl (V_move rfl rfl) ?_
      refine G_done ?_
      refine G_block ?_
      refine G_seq ?_
      refine G_region (l := [0, 1]) rfl ?_
      refine G_val rfl rfl rfl rfl (V_eql rfl rfl rfl) ?_
      refine G_val rfl rfl rfl rfl (V_assign rfl rfl) ?_
      refine G_done ?_
      refine G_ifD rfl (fun hc4 => ?_) (fun hc4 => ?_)
      rotate_left
      · (first | contradiction | (exact absurd rfl hc4) | (exfalso; omega) | (simp at hc4; done) | (exact absurd hc4 (by decide)) | (exact absurd (by decide) hc4))
      refine G_region (l := [0, 1, 2, 3]) rfl ?_
      refine G_val rfl rfl rfl rfl (V_move rfl rfl) ?_
      refine G_val rfl rfl rfl rfl (V_fieldAddr (fo := 2) rfl Try.underlying58 rfl infScriptX_23 rfl rfl rfl) ?_
      refine G_val rfl rfl rfl rfl (V_load1 rfl rfl (List.mem_append_right _ (mem_at 3 rfl)) rfl Try.underlying23 rfl) ?_
      refine G_callMC (L2 := [_, _]) rfl rfl rfl rfl rfl rfl Try.call78 rfl (sc_put b4 _ _ _ hpx hux (x.v.t : Int) (by omega) (by omega) (by (try simp only [List.length_append, List.length_nil]); omega)) [1, 1] rfl subA_nil ?_
      rintro v post ⟨rfl, u1, hu1, rfl⟩
      show G _ _ _ [_, _, _, _] _
      have hux := hu1
      have hpx := UsedOr.self b4
      clear hu1
      refine G_done ?_
      refine G_inBlock ?_
      refine G_inBlock ?_
      refine G_again ?_
      refine G_seq ?_
      refine G_region (l := [0, 1]) rfl ?_
      refine G_val rfl rfl rfl rfl (V_nextE (i := 1) rfl rfl (mem_at 2 rfl) (by decide)) ?_
      refine G_val rfl rfl rfl rfl (V_extract rfl rfl rfl) ?_
      refine G_done ?_
      refine G_seq ?_
      refine G_else rfl ?_
      refine G_exit rfl ?_
      refine G_inBlock ?_
      first | rw [tx1 hx hk1] at hux ⊢ | rw [tx2 hx hk1] at hux ⊢ | rw [tx3 hx hk1 (by omega)] at hux ⊢
      refine G_region (l := [0, 1]) rfl ?_
      first
        | refine G_val rfl rfl rfl rfl ((V_add rfl rfl rfl).int (wrap_i64 (by omega))) ?_
        | refine G_val rfl rfl rfl rfl (V_add rfl rfl rfl) ?_
      refine G_val rfl rfl rfl rfl (V_move rfl rfl) ?_
      refine G_done ?_
      refine G_sub ?_ [0, 0] ?_ (ih (i + 1, .pointer (some ⟨b4, 0, none⟩), u1) ?_ ?_)
      · (refine (And.intro ?_ (And.intro ?_ (And.intro ?_ (And.intro ?_ (And.intro ?_ trivial))))) <;> first | rfl | exact slot_int (by omega) | exact slot_int (by simp))
      · exact ⟨_, rfl⟩
      · exact ⟨by omega, mayE_next hall hx hmx, .inr rfl, hux⟩
      · (first | omega | (dsimp only; omega))
    · skip
      refine G_region (l := [0, 1, 2, 3]) rfl ?_
      refine G_val rfl rfl rfl rfl (V_fieldAddr (fo := 0) rfl Try.underlying58 rfl infScriptX_3 rfl rfl rfl) ?_
      refine G_val rfl rfl rfl rfl (V_load1 rfl rfl (List.mem_append_right _ (mem_at 2 rfl)) rfl Try.underlying3 rfl) ?_
      refine G_callM (L2 := [_, _, _]) rfl rfl rfl rfl rfl rfl Try.call75 ((sc_fields x.v.kd).weaken (fun v post h => by rw [flds3 hk1] at h; exact h)) [] rfl subA_nil ?_
      rintro v post ⟨rfl, rfl⟩
      show G _ _ _ [_, _, _] _
      refine G_new rfl rfl rfl rfl (N_range rfl Try.underlying9 rfl) (fun b38 => ?_)
      refine G_done ?_
      refine G_block ?_
      refine G_loop1 ?_
      refine G_seq ?_
      refine G_region (l := [0, 1]) rfl ?_
      refine G_putV (l1 := []) (L' := [_, _, _, _]) rfl rfl rfl rfl rfl (P_next (i := 0) rfl rfl (mem_at 0 rfl) (by decide) (by decide)) rfl ?_
      refine G_val rfl rfl rfl rfl (V_extract rfl rfl rfl) ?_
      refine G_done ?_
      refine G_seq ?_
      refine G_then rfl ?_
      refine G_skip ?_
      refine G_block ?_
      refine G_seq ?_
      refine G_region (l := [0, 1]) rfl ?_
      refine G_val rfl rfl rfl rfl (V_extract rfl rfl rfl) ?_
      refine G_val rfl rfl rfl rfl (V_assign rfl rfl) ?_
      refine G_done ?_
      refine G_seq ?_
      refine G_region (l := [0]) rfl ?_
      refine G_val rfl rfl rfl rfl (V_move rfl rfl) ?_
      refine G_done ?_
      refine G_block ?_
      refine G_seq ?_
      refine G_region (l := [0, 1]) rfl ?_
      refine G_val rfl rfl rfl rfl (V_eql rfl rfl rfl) ?_
      refine G_val rfl rfl rfl rfl (V_assign rfl rfl) ?_
      refine G_done ?_
      refine G_ifD rfl (fun hc4 => ?_) (fun hc4 => ?_)
      rotate_left
      · (first | contradiction | (exact absurd rfl hc4) | (exfalso; omega) | (simp at hc4; done) | (exact absurd hc4 (by decide)) | (exact absurd (by decide) hc4))
      refine G_region (l := [0, 1, 2, 3]) rfl ?_
      refine G_val rfl rfl rfl rfl (V_move rfl rfl) ?_
      refine G_val rfl rfl rfl rfl (V_fieldAddr (fo := 2) rfl Try.underlying58 rfl infScriptX_23 rfl rfl rfl) ?_
      refine G_val rfl rfl rfl rfl (V_load1 rfl rfl (List.mem_append_right _ (mem_at 3 rfl)) rfl Try.underlying23 rfl) ?_
      refine G_callMC (L2 := [_, _]) rfl rfl rfl rfl rfl rfl Try.call78 rfl (sc_put b4 _ _ _ hpx hux (x.v.t : Int) (by omega) (by omega) (by (try simp only [List.length_append, List.length_nil]); omega)) [1, 1] rfl subA_nil ?_
      rintro v post ⟨rfl, u1, hu1, rfl⟩
      show G _ _ _ [_, _, _, _] _
      have hux := hu1
      have hpx := UsedOr.self b4
      clear hu1
      refine G_done ?_
      refine G_inBlock ?_
      refine G_inBlock ?_
      refine G_again ?_
      refine G_seq ?_
      refine G_region (l := [0, 1]) rfl ?_
      refine G_putV (l1 := [_, _]) (L' := [_, _, _, _]) rfl rfl rfl rfl rfl (P_next (i := 1) rfl rfl (mem_at 2 rfl) (by decide) (by decide)) rfl ?_
      refine G_val rfl rfl rfl rfl (V_extract rfl rfl rfl) ?_
      refine G_done ?_
      refine G_seq ?_
      refine G_then rfl ?_
      refine G_skip ?_
      refine G_block ?_
      refine G_seq ?_
      refine G_region (l := [0, 1]) rfl ?_
      refine G_val rfl rfl rfl rfl (V_extract rfl rfl rfl) ?_
      refine G_val rfl rfl rfl rfl (V_assign rfl rfl) ?_
      refine G_done ?_
      refine G_seq ?_
      refine G_region (l := [0]) rfl ?_
      refine G_val rfl rfl rfl rfl (V_move rfl rfl) ?_
      refine G_done ?_
      refine G_block ?_
      refine G_seq ?_
      refine G_region (l := [0, 1]) rfl ?_
      refine G_val rfl rfl rfl rfl (V_eql rfl rfl rfl) ?_
      refine G_val rfl rfl rfl rfl (V_assign rfl rfl) ?_
      refine G_done ?_
      refine G_ifD rfl (fun hc5 => ?_) (fun hc5 => ?_)
      · (first | contradiction | (exact absurd rfl hc5) | (exfalso; omega) | (simp at hc5; done) | (exact absurd hc5 (by decide)) | (exact absurd (by decide) hc5))
      refine G_seq ?_
      refine G_region (l := [0, 1]) rfl ?_
      refine G_val rfl rfl rfl rfl (V_eql rfl rfl rfl) ?_
      refine G_val rfl rfl rfl rfl (V_assign rfl rfl) ?_
      refine G_done ?_
      refine G_ifD rfl (fun hc6 => ?_) (fun hc6 => ?_)
      rotate_left
      · (first | contradiction | (exact absurd rfl hc6) | (exfalso; omega) | (simp at hc6; done) | (exact absurd hc6 (by decide)) | (exact absurd (by decide) hc6))
      refine G_region (l := [0, 1, 2, 3]) rfl ?_
      refine G_val rfl rfl rfl rfl (V_fieldAddr (fo := 1) rfl Try.underlying58 rfl infScriptX_9 rfl rfl rfl) ?_
      refine G_val rfl rfl rfl rfl (V_load1 rfl rfl (List.mem_append_right _ (mem_at 3 rfl)) rfl Try.underlying9 rfl) ?_
      refine G_callM (L2 := [_, _, _, _]) rfl rfl rfl rfl rfl rfl Try.call81 (ct_text _ (by omega)) [] rfl subA_nil ?_
      rintro v post ⟨rfl, rfl⟩
      show G _ _ _ [_, _, _, _] _
      refine G_callM (L2 := [_, _]) rfl rfl rfl rfl rfl rfl Try.call79 (bld_write _ _ _ _ _ hpx hux (by (try simp only [List.length_append, List.length_nil]); omega)) [0, 0] rfl subA_nil ?_
      rintro v post ⟨rfl, u1, hu1, rfl⟩
      show G _ _ _ [_, _, _, _] _
      have hux := hu1
      have hpx := UsedOr.self b4
      clear hu1
      refine G_done ?_
      refine G_inBlock ?_
      refine G_inBlock ?_
      refine G_again ?_
      refine G_seq ?_
      refine G_region (l := [0, 1]) rfl ?_
      refine G_putV (l1 := [_, _]) (L' := [_, _, _, _]) rfl rfl rfl rfl rfl (P_next (i := 2) rfl rfl (mem_at 2 rfl) (by decide) (by decide)) rfl ?_
      refine G_val rfl rfl rfl rfl (V_extract rfl rfl rfl) ?_
      refine G_done ?_
      refine G_seq ?_
      refine G_then rfl ?_
      refine G_skip ?_
      refine G_block ?_
      refine G_seq ?_
      refine G_region (l := [0, 1]) rfl ?_
      refine G_val rfl rfl rfl rfl (V_extract rfl rfl rfl) ?_
      refine G_val rfl rfl rfl rfl (V_assign rfl rfl) ?_
      refine G_done ?_
      refine G_seq ?_
      refine G_region (l := [0]) rfl ?_
      refine G_val rfl rfl rfl rfl (V_move rfl rfl) ?_
      refine G_done ?_
      refine G_block ?_
      refine G_seq ?_
      refine G_region (l := [0, 1]) rfl ?_
      refine G_val rfl rfl rfl rfl (V_eql rfl rfl rfl) ?_
      refine G_val rfl rfl rfl rfl (V_assign rfl rfl) ?_
      refine G_done ?_
      refine G_ifD rfl (fun hc7 => ?_) (fun hc7 => ?_)
      · (first | contradiction | (exact absurd rfl hc7) | (exfalso; omega) | (simp at hc7; done) | (exact absurd hc7 (by decide)) | (exact absurd (by decide) hc7))
      refine G_seq ?_
      refine G_region (l := [0, 1]) rfl ?_
      refine G_val rfl rfl rfl rfl (V_eql rfl rfl rfl) ?_
      refine G_val rfl rfl rfl rfl (V_assign rfl rfl) ?_
      refine G_done ?_
      refine G_ifD rfl (fun hc8 => ?_) (fun hc8 => ?_)
      · (first | contradiction | (exact absurd rfl hc8) | (exfalso; omega) | (simp at hc8; done) | (exact absurd hc8 (by decide)) | (exact absurd (by decide) hc8))
      refine G_seq ?_
      refine G_region (l := [0, 1]) rfl ?_
      refine G_val rfl rfl rfl rfl (V_eql rfl rfl rfl) ?_
      refine G_val rfl rfl rfl rfl (V_assign rfl rfl) ?_
      refine G_done ?_
      refine G_ifD rfl (fun hc9 => ?_) (fun hc9 => ?_)
      rotate_left
      · (first | contradiction | (exact absurd rfl hc9) | (exfalso; omega) | (simp at hc9; done) | (exact absurd hc9 (by decide)) | (exact absurd (by decide) hc9))
      refine G_region (l := [0, 1, 2, 3, 4, 5]) rfl ?_
      refine G_val rfl rfl rfl rfl (V_move rfl rfl) ?_
      refine G_val rfl rfl rfl rfl (V_fieldAddr (fo := 3) rfl Try.underlying58 rfl infScriptX_3 rfl rfl rfl) ?_
      refine G_val rfl rfl rfl rfl (V_load1 rfl rfl (List.mem_append_right _ (mem_at 3 rfl)) rfl Try.underlying3 rfl) ?_
      first
        | refine G_val rfl rfl rfl rfl ((V_add rfl rfl rfl).int (wrap_i64 (by omega))) ?_
        | refine G_val rfl rfl rfl rfl (V_add rfl rfl rfl) ?_
      first
        | refine G_val rfl rfl rfl rfl ((V_conv rfl rfl Try.underlying3 Try.underlying23).int (wrap_u64 (by omega))) ?_
        | refine G_val rfl rfl rfl rfl (V_conv rfl rfl Try.underlying3 Try.underlying23) ?_
      refine G_callMC (L2 := [_, _]) rfl rfl rfl rfl rfl rfl Try.call78 rfl (sc_put b4 _ _ _ hpx hux (x.v.f + 1) (by omega) (by omega) (by (try simp only [List.length_append, List.length_nil]); omega)) [0, 0] rfl subA_nil ?_
      rintro v post ⟨rfl, u1, hu1, rfl⟩
      show G _ _ _ [_, _, _, _] _
      have hux := hu1
      have hpx := UsedOr.self b4
      clear hu1
      refine G_done ?_
      refine G_inBlock ?_
      refine G_inBlock ?_
      refine G_again ?_
      refine G_seq ?_
      refine G_region (l := [0, 1]) rfl ?_
      refine G_putV (l1 := [_, _]) (L' := [_, _, _, _]) rfl rfl rfl rfl rfl (P_next (i := 3) rfl rfl (mem_at 2 rfl) (by decide) (by decide)) rfl ?_
      refine G_val rfl rfl rfl rfl (V_extract rfl rfl rfl) ?_
      refine G_done ?_
      refine G_seq ?_
      refine G_then rfl ?_
      refine G_skip ?_
      refine G_block ?_
      refine G_seq ?_
      refine G_region (l := [0, 1]) rfl ?_
      refine G_val rfl rfl rfl rfl (V_extract rfl rfl rfl) ?_
      refine G_val rfl rfl rfl rfl (V_assign rfl rfl) ?_
      refine G_done ?_
      refine G_seq ?_
      refine G_region (l := [0]) rfl ?_
      refine G_val rfl rfl rfl rfl (V_move rfl rfl) ?_
      refine G_done ?_
      refine G_block ?_
      refine G_seq ?_
      refine G_region (l := [0, 1]) rfl ?_
      refine G_val rfl rfl rfl rfl (V_eql rfl rfl rfl) ?_
      refine G_val rfl rfl rfl rfl (V_assign rfl rfl) ?_
      refine G_done ?_
      refine G_ifD rfl (fun hc10 => ?_) (fun hc10 => ?_)
      · (first | contradiction | (exact absurd rfl hc10) | (exfalso; omega) | (simp at hc10; done) | (exact absurd hc10 (by decide)) | (exact absurd (by decide) hc10))
      refine G_seq ?_
      refine G_region (l := [0, 1]) rfl ?_
      refine G_val rfl rfl rfl rfl (V_eql rfl rfl rfl) ?_
      refine G_val rfl rfl rfl rfl (V_assign rfl rfl) ?_
      refine G_done ?_
      refine G_ifD rfl (fun hc11 => ?_) (fun hc11 => ?_)
      · (first | contradiction | (exact absurd rfl hc11) | (exfalso; omega) | (simp at hc11; done) | (exact absurd hc11 (by decide)) | (exact absurd (by decide) hc11))
      refine G_seq ?_
      refine G_region (l := [0, 1]) rfl ?_
      refine G_val rfl rfl rfl rfl (V_eql rfl rfl rfl) ?_
      refine G_val rfl rfl rfl rfl (V_assign rfl rfl) ?_
      refine G_done ?_
      refine G_ifD rfl (fun hc12 => ?_) (fun hc12 => ?_)
      · (first | contradiction | (exact absurd rfl hc12) | (exfalso; omega) | (simp at hc12; done) | (exact absurd hc12 (by decide)) | (exact absurd (by decide) hc12))
      refine G_seq ?_
      refine G_region (l := [0, 1, 2, 3, 4, 5]) rfl ?_
      refine G_val rfl rfl rfl rfl (V_move rfl rfl) ?_
      refine G_val rfl rfl rfl rfl (V_fieldAddr (fo := 4) rfl Try.underlying58 rfl infScriptX_56 rfl rfl rfl) ?_
      refine G_val rfl rfl rfl rfl (V_load1 rfl rfl (List.mem_append_right _ (mem_at 3 rfl)) rfl Try.underlying56 rfl) ?_
      refine G_val rfl rfl rfl rfl (V_len rfl rfl Try.underlying56 rfl) ?_
      first
        | refine G_val rfl rfl rfl rfl ((V_conv rfl rfl Try.underlying3 Try.underlying23).int (wrap_u64 (by omega))) ?_
        | refine G_val rfl rfl rfl rfl (V_conv rfl rfl Try.underlying3 Try.underlying23) ?_
      refine G_callMC (L2 := [_, _]) rfl rfl rfl rfl rfl rfl Try.call78 rfl (sc_put b4 _ _ _ hpx hux (x.v.ks.length : Int) (by omega) (by omega) (by (try simp only [List.length_append, List.length_nil]); omega)) [0, 0] rfl subA_nil ?_
      rintro v post ⟨rfl, u1, hu1, rfl⟩
      show G _ _ _ [_, _, _, _] _
      have hux := hu1
      have hpx := UsedOr.self b4
      clear hu1
      rw [kx_zero (txE ms i) x.v] at hux ⊢
      refine G_done ?_
      refine G_seq ?_
      refine G_region (l := [0, 1, 2, 3]) rfl ?_
      refine G_val rfl rfl rfl rfl (V_fieldAddr (fo := 4) rfl Try.underlying58 rfl infScriptX_56 rfl rfl rfl) ?_
      refine G_val rfl rfl rfl rfl (V_load1 rfl rfl (List.mem_append_right _ (mem_at 3 rfl)) rfl Try.underlying56 rfl) ?_
      refine G_val rfl rfl rfl rfl (V_len rfl rfl Try.underlying56 rfl) ?_
      refine G_val rfl rfl rfl rfl (V_move rfl rfl) ?_
      refine G_done ?_
      refine G_block ?_
      refine G_sub ?he18 [0, 0, 0] ?hl18 (G_loop (X := Nat × Sl) (fun x_ => match x_ with | ⟨j, u⟩ => j ≤ x.v.ks.length ∧ Txt u (kx (txE ms i) x.v j)) (fun x_ => match x_ with | ⟨j, u⟩ => x.v.ks.length - j) (fun x_ => match x_ with | ⟨j, u⟩ => [(4, .pointer (some ⟨b4, 0, none⟩)), (5, .func (.func 78) #[] #[.pointer (some ⟨b4, 0, none⟩)]), (21, sv (some b1) p1 ms.length q1), (22, .int .i64 (ms.length : Int)), (23, .int .i64 (i : Int)), (38, .pointer (some ⟨b38, 0, none⟩)), (50, evS x), (51, .int .i64 (x.v.ks.length : Int)), (52, .int .i64 (j : Int))]) (fun x_ => match x_ with | ⟨j, u⟩ => [(some b4, .cells #[.pointer (some ⟨b4, 0, none⟩), u.v (kx (txE ms i) x.v j).length] 78 (0, 0)), (u.ob, .cells u.cs 5 u.fz), (some b38, .stringIter (bs [116, 98, 102, 107]) 4)]) ?round18 (0, u1) ?h018)
      case he18 => exact (And.intro rfl (And.intro rfl (And.intro rfl (And.intro rfl (And.intro rfl (And.intro rfl (And.intro rfl (And.intro rfl (And.intro rfl trivial)))))))))
      case hl18 => exact ⟨_, rfl⟩
      case h018 => exact ⟨Nat.zero_le _, hux⟩
      case round18 =>
       intro x_ hJ ih2
       try dsimp only at hJ ih2
       obtain ⟨j, u⟩ := x_
       try dsimp only at hJ ih2
       obtain ⟨hj, hux⟩ := hJ
       show G _ _ [(4, .pointer (some ⟨b4, 0, none⟩)), (5, .func (.func 78) #[] #[.pointer (some ⟨b4, 0, none⟩)]), (21, sv (some b1) p1 ms.length q1), (22, .int .i64 (ms.length : Int)), (23, .int .i64 (i : Int)), (38, .pointer (some ⟨b38, 0, none⟩)), (50, evS x), (51, .int .i64 (x.v.ks.length : Int)), (52, .int .i64 (j : Int))] [(some b4, .cells #[.pointer (some ⟨b4, 0, none⟩), u.v (kx (txE ms i) x.v j).length] 78 (0, 0)), (u.ob, .cells u.cs 5 u.fz), (some b38, .stringIter (bs [116, 98, 102, 107]) 4)] _
       have hpx := UsedOr.self b4
       refine G_seq ?_
       refine G_region (l := [0]) rfl ?_
       refine G_val rfl rfl rfl rfl (V_lss rfl rfl rfl) ?_
       refine G_done ?_
       refine G_seq ?_
       refine G_ifD rfl (fun hc13 => ?_) (fun hc13 => ?_)
       · skip
         refine G_skip ?_
         refine G_seq ?_
         refine G_block ?_
         refine G_seq ?_
         obtain ⟨y, hy⟩ := getI (show j < x.v.ks.length by omega)
         obtain ⟨kb, hse, hks, hkk⟩ := hxo.at (show j < x.v.ks.length by omega)
         have hmem : (some kb, Obj.cells x.cs x.T x.fr) ∈ ((some b1, Obj.cells c1 T1 f1) :: ms.map evK) := by rw [← hkk]; exact List.mem_cons_of_mem _ (List.mem_map.2 ⟨x, List.mem_of_getElem? hx, rfl⟩)
         rw [hse]
         have gy := g7 y (List.mem_of_getElem? hy)
         have gl := kLen gy
         have kl := kx_len hmx hxo.t (txE ms i) j
         refine G_region (l := [0, 1, 2, 3]) rfl ?_
         first
           | refine G_val rfl rfl rfl rfl (V_indexAddrN (s := 2) rfl Try.underlying56 infScriptX_151 rfl rfl rfl rfl (by omega)) ?_
           | refine G_val rfl rfl rfl rfl (V_indexAddr (s := 2) rfl Try.underlying56 infScriptX_151 rfl rfl rfl (by omega) (by first | omega | (simp [evC, evV, kC, evS]; done) | (simp [evC, evV, kC, evS]; omega) | (simp [evC, evV, kC, evS] at *; omega))) ?_
         refine G_val rfl rfl rfl rfl (V_loadA (s := 2) (vs := (kC y).toArray) rfl rfl (List.mem_append_left _ hmem) Try.underlying151 rfl infScriptX_151 rfl (hks.elem kC_len hy) (by first | rfl | (simp [bcells_length, evC, evV, kC, evS]; done) | (simp [bcells_length, evC, evV, kC, evS]; omega) | (simp [bcells_length, *, evC, evV, kC, evS]; done))) ?_
         refine G_new rfl rfl rfl rfl (N_allocA rfl infScriptX_151 rfl) (fun b11 => ?_)
         refine G_put (l1 := []) (L' := [_, _, _, _]) rfl rfl rfl rfl (P_storeA (s := 2) rfl rfl rfl (mem_at 0 rfl) (by first | rfl | (simp [bcells_length, evC, evV, kC, evS]; done) | (simp [bcells_length, evC, evV, kC, evS]; omega) | (simp [bcells_length, *, evC, evV, kC, evS]; done)) infScriptX_151 rfl (by first | rfl | (simp [bcells_length, evC, evV, kC, evS]; done) | (simp [bcells_length, evC, evV, kC, evS]; omega) | (simp [bcells_length, *, evC, evV, kC, evS]; done)) (by first | rfl | exact bcells_all _ | (simp [Value.oneCell', evC, evV, kC, evS]; done) | (simp [Value.oneCell', *, evC, evV, kC, evS]; done))) rfl ?_
         refine G_done ?_
         refine G_seq ?_
         refine G_region (l := [0, 1, 2, 3, 4]) rfl ?_
         refine G_val rfl rfl rfl rfl (V_move rfl rfl) ?_
         refine G_val rfl rfl rfl rfl (V_fieldAddr (fo := 0) rfl Try.underlying151 rfl infScriptX_3 rfl rfl rfl) ?_
         refine G_val rfl rfl rfl rfl (V_load1 rfl rfl (List.mem_append_right _ (mem_at 0 rfl)) rfl Try.underlying3 rfl) ?_
         first
           | refine G_val rfl rfl rfl rfl ((V_conv rfl rfl Try.underlying3 Try.underlying23).int (wrap_u64 (by omega))) ?_
           | refine G_val rfl rfl rfl rfl (V_conv rfl rfl Try.underlying3 Try.underlying23) ?_
         refine G_callMC (L2 := [_, _]) rfl rfl rfl rfl rfl rfl Try.call78 rfl (sc_put b4 _ _ _ hpx hux y.1 (by omega) (by omega) (by (try simp only [List.length_append, List.length_nil]); omega)) [1, 1] rfl subA_nil ?_
         rintro v post ⟨rfl, u1, hu1, rfl⟩
         show G _ _ _ [_, _, _, _] _
         have hux := hu1
         have hpx := UsedOr.self b4
         clear hu1
         refine G_done ?_
         refine G_region (l := [0, 1, 2, 3, 4]) rfl ?_
         refine G_val rfl rfl rfl rfl (V_move rfl rfl) ?_
         refine G_val rfl rfl rfl rfl (V_fieldAddr (fo := 1) rfl Try.underlying151 rfl infScriptX_3 rfl rfl rfl) ?_
         refine G_val rfl rfl rfl rfl (V_load1 rfl rfl (List.mem_append_right _ (mem_at 2 rfl)) rfl Try.underlying3 rfl) ?_
         first
           | refine G_val rfl rfl rfl rfl ((V_conv rfl rfl Try.underlying3 Try.underlying23).int (wrap_u64 (by omega))) ?_
           | refine G_val rfl rfl rfl rfl (V_conv rfl rfl Try.underlying3 Try.underlying23) ?_
         refine G_callMC (L2 := [_, _]) rfl rfl rfl rfl rfl rfl Try.call78 rfl (sc_put b4 _ _ _ hpx hux y.2 (by omega) (by omega) (by (try simp only [List.length_append, List.length_nil]); omega)) [0, 0] rfl subA_nil ?_
         rintro v post ⟨rfl, u1, hu1, rfl⟩
         show G _ _ _ [_, _, _, _] _
         have hux := hu1
         have hpx := UsedOr.self b4
         clear hu1
         rw [kx_next hy] at hux ⊢
         refine G_done ?_
         refine G_inBlock ?_
         refine G_region (l := [0, 1]) rfl ?_
         first
           | refine G_val rfl rfl rfl rfl ((V_add rfl rfl rfl).int (wrap_i64 (by omega))) ?_
           | refine G_val rfl rfl rfl rfl (V_add rfl rfl rfl) ?_
         refine G_val rfl rfl rfl rfl (V_move rfl rfl) ?_
         refine G_done ?_
         refine G_sub ?_ [0, 0, 1] ?_ (ih2 (j + 1, u1) ?_ ?_)
         · (try rw [hse]); (refine (And.intro rfl (And.intro rfl (And.intro rfl (And.intro rfl (And.intro rfl (And.intro rfl (And.intro rfl (And.intro rfl (And.intro rfl trivial))))))))) <;> rfl)
         · exact ⟨_, rfl⟩
         · exact ⟨by omega, hux⟩
         · (first | omega | (dsimp only; omega))
       refine G_exit rfl ?_
       refine G_inBlock ?_
       refine G_inBlock ?_
       refine G_again ?_
       refine G_seq ?_
       refine G_region (l := [0, 1]) rfl ?_
       refine G_val rfl rfl rfl rfl (V_nextE (i := 4) rfl rfl (mem_at 2 rfl) (by decide)) ?_
       refine G_val rfl rfl rfl rfl (V_extract rfl rfl rfl) ?_
       refine G_done ?_
       refine G_seq ?_
       refine G_else rfl ?_
       refine G_exit rfl ?_
       refine G_inBlock ?_
       first | rw [tx1 hx hk1] at hux ⊢ | rw [tx2 hx hk1] at hux ⊢ | rw [tx3 hx hk1 (by omega)] at hux ⊢
       refine G_region (l := [0, 1]) rfl ?_
       first
         | refine G_val rfl rfl rfl rfl ((V_add rfl rfl rfl).int (wrap_i64 (by omega))) ?_
         | refine G_val rfl rfl rfl rfl (V_add rfl rfl rfl) ?_
       refine G_val rfl rfl rfl rfl (V_move rfl rfl) ?_
       refine G_done ?_
       refine G_sub ?_ [0, 0] ?_ (ih (i + 1, .pointer (some ⟨b4, 0, none⟩), u) ?_ ?_)
       · (refine (And.intro ?_ (And.intro ?_ (And.intro ?_ (And.intro ?_ (And.intro ?_ trivial))))) <;> first | rfl | exact slot_int (by omega) | exact slot_int (by simp))
       · exact ⟨_, rfl⟩
       · exact ⟨by omega, mayE_next hall hx hmx, .inr rfl, hux⟩
       · (first | omega | (dsimp only; omega))
  refine G_exit rfl ?_
  refine G_seq ?_
  have tl := txE_len (show ms.length ≤ 400 by omega) hok hall
  refine G_region (l := [0, 1, 2]) rfl ?_
  refine G_callM (L2 := []) rfl rfl rfl rfl rfl rfl Try.call53 (bld_string _ _ _ _ hux (by omega)) [0, 0] rfl subA_nil ?_
  rintro v post ⟨rfl, u1, hu1, rfl⟩
  show G _ _ _ [_, _] _
  refine G_val rfl rfl rfl rfl (V_assign rfl rfl) ?_
  refine G_val rfl rfl rfl rfl (V_assign rfl rfl) ?_
  refine G_done ?_
  refine G_ret (post := []) Try.func23 rfl (RVs_cons (RV_tmp rfl) (RVs_cons (RV_tmp rfl) RVs_nil)) [] rfl ?_
  dsimp only [packed]
  first
    | exact ⟨(scrT_many (by omega)).symm, rfl⟩
    | exact ⟨(scrT_no (by omega) hx (by simpa using ‹(!decide (MayE x.v)) = true›)).symm, rfl⟩
    | exact ⟨(scrT_yes (by omega) (by omega) hall).symm, rfl⟩

end
end Go.Proofs.Ytkekkalgebgokaa
