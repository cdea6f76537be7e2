/- The walk of reply.Decode, and of the document's. -/
import Derived.Test.YtkidmbaakdaflaaReplyW
import Derived.Test.YtkidmbaakdaflaaRead2
set_option linter.unusedSimpArgs false
set_option linter.unusedVariables false
namespace Go.Proofs.Ytkidmbaakdaflaa
open Go Go.RowKit

section
theorem infReplyD_3 : Try.prog.info? 3 = some Try.t3 := by kernel_rfl
theorem infReplyD_99 : Try.prog.info? 99 = some Try.t99 := by kernel_rfl


theorem dec_next {cs : Array Value} {k i : Nat} {l : List UInt8} {e : Nat} (he : e ≤ 1000) (h : k + i < cs.size) :
    (laid cs k ((rdI 1099511627776 l e i).1.map nCell)).setIfInBounds (k + i) (.int .i64 (((rdInt 1099511627776 (rdI 1099511627776 l e i).2.1 (rdI 1099511627776 l e i).2.2).1 : Nat) : Int)) = laid cs k ((rdI 1099511627776 l e (i + 1)).1.map nCell) := by
  have hl := (rdI_bd 1099511627776 l e he (by omega) i).1
  have := laid_next (cs := cs) (k := k) (vs := (rdI 1099511627776 l e i).1.map nCell) (v := nCell (rdInt 1099511627776 (rdI 1099511627776 l e i).2.1 (rdI 1099511627776 l e i).2.2).1) (by simp; omega)
  rw [List.length_map, hl] at this
  simp only [rdI, List.map_append, List.map_cons, List.map_nil]
  exact this

set_option maxRecDepth 100000 in
set_option maxHeartbeats 1000000 in
theorem rep_dec1 (s1 rb k0 b4 br : Nat) (cs : Array Value) (T : TypeId) (n : Nat) (l : List UInt8) (e : Nat) (hn : n < 1000) (hk : k0 + n ≤ cs.size) (hl : l.length ≤ 140737488351232) (he : e ≤ 1000) :
    Ct Try.prog 85 [.slice (some ⟨s1, 0, none⟩) n n, .pointer (some ⟨b4, 0, none⟩)] [(some s1, .cells (ptrs rb k0 n).toArray 99 (0, 0)), (some b4, .cells #[.pointer (some ⟨br, 0, none⟩)] 127 (0, 0))] [(some rb, .cells cs T (0, 0)), (some br, .cells #[.string (bs l), .int .i64 ((e : Nat) : Int)] 175 (0, 0))] fun v post => v = .tuple #[] ∧ post = [(some rb, .cells (laid cs k0 ((rdI 1099511627776 l e n).1.map nCell)) T (0, 0)), (some br, .cells #[.string (bs (rdI 1099511627776 l e n).2.1), .int .i64 (((rdI 1099511627776 l e n).2.2 : Nat) : Int)] 175 (0, 0))] := by
 refine ct_of Try.func85 rfl rfl (fun w0 => ?_)
 show G _ _ [(0, _), (1, _)] _ _
 refine G_seq ?_
 refine G_region (l := [0, 1, 2]) rfl ?_
 refine G_val rfl rfl rfl rfl (V_move rfl rfl) ?_
 refine G_val rfl rfl rfl rfl (V_len rfl rfl Try.underlying98 rfl) ?_
 refine G_val rfl rfl rfl rfl (V_move rfl rfl) ?_
 refine G_done ?_
 refine G_block ?_
 refine G_sub ?he1 [0, 0] ?hl1 (G_loop (X := Nat) (fun i => i ≤ n) (fun i => n - i) (fun i => [(1, .pointer (some ⟨b4, 0, none⟩)), (5, .slice (some ⟨s1, 0, none⟩) n n), (6, .int .i64 (n : Int)), (7, .int .i64 (i : Int))]) (fun i => [(some rb, .cells (laid cs k0 ((rdI 1099511627776 l e i).1.map nCell)) T (0, 0)), (some br, .cells #[.string (bs (rdI 1099511627776 l e i).2.1), .int .i64 (((rdI 1099511627776 l e i).2.2 : Nat) : Int)] 175 (0, 0))]) ?round1 0 ?h01)
 case he1 => exact (And.intro rfl (And.intro rfl (And.intro rfl (And.intro rfl trivial))))
 case hl1 => exact ⟨_, by simp [rdI, laid_none (cs := cs) (k := k0) (by omega)]; rfl⟩
 case h01 => exact Nat.zero_le _
 case round1 =>
  intro i hJ ih
  try dsimp only at hJ ih
  refine G_seq ?_
  refine G_region (l := [0]) rfl ?_
  refine G_val rfl rfl rfl rfl (V_lss rfl rfl rfl) ?_
  refine G_done ?_
  refine G_seq ?_
  refine G_ifD rfl (fun hc1 => ?_) (fun hc1 => ?_)
  · skip
    refine G_skip ?_
    refine G_seq ?_
    refine G_block ?_
    refine G_seq ?_
    have hlt : i < n := by omega
    obtain ⟨d1, d2, d3, d4⟩ := rdI_bd 1099511627776 l e he (by omega) i
    have hsz : (laid cs k0 ((rdI 1099511627776 l e i).1.map nCell)).size = cs.size := laid_size (by simp; omega)
    refine G_region (l := [0, 1, 2]) rfl ?_
    first
      | refine G_val rfl rfl rfl rfl (V_indexAddrN rfl Try.underlying98 infReplyD_99 rfl rfl rfl rfl (by omega)) ?_
      | refine G_val rfl rfl rfl rfl (V_indexAddr rfl Try.underlying98 infReplyD_99 rfl rfl rfl (by omega) (by first | omega | (simp [ltCells]; done) | (simp [ltCells]; omega) | (simp [ltCells] at *; omega))) ?_
    refine G_val rfl rfl rfl rfl (V_load1 rfl rfl (mem_at 0 rfl) (nth_of (ptrs_get _ _ _ _ hlt)) Try.underlying99 rfl) ?_
    refine G_val rfl rfl rfl rfl (V_assign rfl rfl) ?_
    refine G_done ?_
    refine G_region (l := [0, 1, 2, 3, 4]) rfl ?_
    refine G_val rfl rfl rfl rfl (V_move rfl rfl) ?_
    refine G_val rfl rfl rfl rfl (V_load1 rfl rfl (mem_at 1 rfl) rfl Try.underlying127 rfl) ?_
    refine G_call (L2 := [_]) rfl rfl rfl rfl rfl rfl Try.call86 (rd_int _ _ _ _ (by first | omega | (simp [ltCells]; done) | (simp [ltCells]; omega) | (simp [ltCells] at *; omega)) (by omega) ⟨by omega, by omega⟩) [1] [] rfl rfl ?_
    rintro v post ⟨rfl, rfl⟩
    show G _ _ _ [_, _] _
    first
      | refine G_val rfl rfl rfl rfl (V_nilCheck rfl rfl) ?_
      | refine G_val rfl rfl rfl rfl (V_nilCheckF rfl rfl) ?_
    refine G_put (l1 := [_]) (L' := [_, _]) rfl rfl rfl rfl (P_store1 rfl rfl rfl (mem_at 1 rfl) (by first | exact of_decide_eq_true rfl | omega | (simp [ltCells]; done) | (simp [ltCells]; omega) | (simp [ltCells] at *; omega)) infReplyD_3 rfl rfl) rfl ?_
    refine G_done ?_
    refine G_inBlock ?_
    rw [dec_next he (by omega)]
    refine G_region (l := [0, 1]) rfl ?_
    first
      | refine G_val rfl rfl rfl rfl ((V_add rfl rfl rfl).int (wrap_i64 (by omega))) ?_
      | refine G_val rfl rfl rfl rfl (V_add rfl rfl rfl) ?_
    refine G_val rfl rfl rfl rfl (V_move rfl rfl) ?_
    refine G_done ?_
    refine G_sub ?_ [1, 0] ?_ (ih (i + 1) ?_ ?_)
    · (refine (And.intro ?_ (And.intro ?_ (And.intro ?_ (And.intro ?_ trivial)))) <;> first | rfl | exact slot_int (by omega) | exact slot_int (by simp))
    · exact ⟨_, rfl⟩
    · omega
    · (first | omega | (dsimp only; omega))
  refine G_exit rfl ?_
  refine G_end (post := [_, _]) Try.func85 rfl RVs_nil [0, 0] rfl ?_
  dsimp only [packed]
  obtain rfl : i = n := by omega
  exact ⟨rfl, rfl⟩


def M40 : Int := 1099511627776
def g (ns : List Nat) (i : Nat) : Int := ((ns.getD i 0 : Nat) : Int)
def dTo (l : List UInt8) := rdStr 100 l 0
def dCode (l : List UInt8) := rdInt 1099511627776 (dTo l).2.1 (dTo l).2.2
def dNums (l : List UInt8) := rdI 1099511627776 (dCode l).2.1 (dCode l).2.2 8
def dCmd (l : List UInt8) := rdStr 100 (dNums l).2.1 (dNums l).2.2
def dLen (l : List UInt8) := rdInt 32 (dCmd l).2.1 (dCmd l).2.2
def ltNs (l : List UInt8) (e : Nat) := rdI 1099511627776 l e 4
def ltTx (l : List UInt8) (e : Nat) := rdStr 100 (ltNs l e).2.1 (ltNs l e).2.2
def ltN (l : List UInt8) (e : Nat) := rdNum (ltTx l e).2.1 (ltTx l e).2.2
def ltOf (l : List UInt8) (e : Nat) : Lt := ⟨g (ltNs l e).1 0, g (ltNs l e).1 1, g (ltNs l e).1 2, g (ltNs l e).1 3, (ltTx l e).1, (ltN l e).1⟩
/-- So many letters, one behind the other. -/
def rdLs (l : List UInt8) (e : Nat) : Nat → List Lt × List UInt8 × Nat
  | 0 => ([], l, e)
  | i + 1 => ((rdLs l e i).1 ++ [ltOf (rdLs l e i).2.1 (rdLs l e i).2.2], (ltN (rdLs l e i).2.1 (rdLs l e i).2.2).2)
def dLs (l : List UInt8) := rdLs (dLen l).2.1 (dLen l).2.2 (dLen l).1
def dEnd (l : List UInt8) : Nat := rdEnd (dLs l).2.1 (dLs l).2.2
def dRp (l : List UInt8) : Rp := ⟨(dTo l).1, ((dCode l).1 : Int), g (dNums l).1 0, g (dNums l).1 1, g (dNums l).1 2, g (dNums l).1 3, g (dNums l).1 4, g (dNums l).1 5, g (dNums l).1 6, g (dNums l).1 7, (dCmd l).1⟩
theorem laid_rp {to_ cmd : List UInt8} {code : Int} {s : Value} {ns : List Nat} (h : ns.length = 8) :
    laid (rpCells ⟨to_, code, 0, 0, 0, 0, 0, 0, 0, 0, cmd⟩ s).toArray 2 (ns.map nCell) = (rpCells ⟨to_, code, g ns 0, g ns 1, g ns 2, g ns 3, g ns 4, g ns 5, g ns 6, g ns 7, cmd⟩ s).toArray := by
  match ns, h with
  | [a0, a1, a2, a3, a4, a5, a6, a7], _ => rfl
theorem laid_lt {ns : List Nat} (h : ns.length = 4) : laid (ltCells ⟨0, 0, 0, 0, [], 0⟩).toArray 0 (ns.map nCell) = (ltCells ⟨g ns 0, g ns 1, g ns 2, g ns 3, [], 0⟩).toArray := by
  match ns, h with
  | [a0, a1, a2, a3], _ => rfl
theorem ltOf_bd (l : List UInt8) (e : Nat) (he : e ≤ 1000) : (ltNs l e).1.length = 4 ∧ (ltNs l e).2.1.length ≤ l.length ∧ (ltNs l e).2.2 ≤ 1000 ∧ (ltTx l e).1.length ≤ 100 ∧ (ltTx l e).2.1.length ≤ l.length ∧ (ltTx l e).2.2 ≤ 1000 ∧ (ltN l e).1 < 18446744073709551616 ∧ (ltN l e).2.1.length ≤ l.length ∧ (ltN l e).2.2 ≤ 1000 ∧ (∀ x ∈ (ltNs l e).1, (x : Int) ≤ 1099511627776) := by
  obtain ⟨a1, a2, a3, a4⟩ := rdI_bd 1099511627776 l e he (by omega) 4
  obtain ⟨b1, b2, b3⟩ := rdStr_bd 100 (ltNs l e).2.1 (ltNs l e).2.2 a4 (by omega)
  obtain ⟨c1, c2, c3⟩ := rdNum_bd (ltTx l e).2.1 (ltTx l e).2.2 b3
  have a3' : (ltNs l e).2.1.length ≤ l.length := a3
  have b1' : (((ltTx l e).1.length : Nat) : Int) ≤ 100 := b1
  have b2' : (ltTx l e).2.1.length ≤ (ltNs l e).2.1.length := b2
  have c2' : (ltN l e).2.1.length ≤ (ltTx l e).2.1.length := c2
  exact ⟨a1, a3, a4, by omega, by omega, b3, c1, by omega, c3, a2⟩
theorem rdLs_bd (l : List UInt8) (e : Nat) (he : e ≤ 1000) : ∀ i, (rdLs l e i).1.length = i ∧ (rdLs l e i).2.1.length ≤ l.length ∧ (rdLs l e i).2.2 ≤ 1000
  | 0 => ⟨rfl, by simp [rdLs], he⟩
  | i + 1 => by
    obtain ⟨h1, h2, h3⟩ := rdLs_bd l e he i
    obtain ⟨_, _, _, _, _, _, _, k1, k2, _⟩ := ltOf_bd (rdLs l e i).2.1 (rdLs l e i).2.2 h3
    exact ⟨by simp [rdLs, h1], by simp only [rdLs]; omega, k2⟩
theorem dTo_bd (l : List UInt8) : (dTo l).2.1.length ≤ l.length ∧ (dTo l).2.2 ≤ 1000 := by
  unfold dTo; exact (rdStr_bd 100 l 0 (by omega) (by omega)).2
theorem dCode_bd (l : List UInt8) : (dCode l).2.1.length ≤ l.length ∧ (dCode l).2.2 ≤ 1000 := by
  have h := dTo_bd l
  unfold dCode; have := (rdInt_bd 1099511627776 (dTo l).2.1 (dTo l).2.2 h.2 (by omega)).2; exact ⟨by omega, this.2⟩
theorem dNums_bd (l : List UInt8) : (dNums l).1.length = 8 ∧ (dNums l).2.1.length ≤ l.length ∧ (dNums l).2.2 ≤ 1000 := by
  have h := dCode_bd l
  unfold dNums
  generalize hk : 8 = k
  have := rdI_bd 1099511627776 (dCode l).2.1 (dCode l).2.2 h.2 (by omega) k
  exact ⟨by omega, by omega, this.2.2.2⟩
theorem dCmd_bd (l : List UInt8) : (dCmd l).2.1.length ≤ l.length ∧ (dCmd l).2.2 ≤ 1000 := by
  have h := dNums_bd l
  unfold dCmd; have := (rdStr_bd 100 (dNums l).2.1 (dNums l).2.2 h.2.2 (by omega)).2; exact ⟨by omega, this.2⟩
theorem dLen_bd (l : List UInt8) : (dLen l).1 ≤ 32 ∧ (dLen l).2.1.length ≤ l.length ∧ (dLen l).2.2 ≤ 1000 := by
  have h := dCmd_bd l
  unfold dLen; have := rdInt_bd 32 (dCmd l).2.1 (dCmd l).2.2 h.2 (by omega); exact ⟨by omega, by omega, this.2.2⟩

theorem c_to (b : Nat) (l : List UInt8) (hl : l.length ≤ 140737488350000) : Ct Try.prog 87 [.pointer (some ⟨b, 0, none⟩), .int .i64 100] [] [(some b, .cells #[.string (bs l), .int .i64 ((0 : Nat) : Int)] 175 (0, 0))] (fun r post => r = .string (bs (dTo l).1) ∧ post = [(some b, .cells #[.string (bs (dTo l).2.1), .int .i64 (((dTo l).2.2 : Nat) : Int)] 175 (0, 0))]) := by
  unfold dTo; exact rd_str b l 0 100 (by omega) (by omega) ⟨by omega, by omega⟩
theorem c_code (b : Nat) (l : List UInt8) (hl : l.length ≤ 140737488350000) : Ct Try.prog 86 [.pointer (some ⟨b, 0, none⟩), .int .i64 1099511627776] [] [(some b, .cells #[.string (bs (dTo l).2.1), .int .i64 (((dTo l).2.2 : Nat) : Int)] 175 (0, 0))] (fun r post => r = .int .i64 (((dCode l).1 : Nat) : Int) ∧ post = [(some b, .cells #[.string (bs (dCode l).2.1), .int .i64 (((dCode l).2.2 : Nat) : Int)] 175 (0, 0))]) := by
  have h := dTo_bd l; unfold dCode; exact rd_int b _ _ 1099511627776 (by omega) h.2 ⟨by omega, by omega⟩
theorem c_cmd (b : Nat) (l : List UInt8) (hl : l.length ≤ 140737488350000) : Ct Try.prog 87 [.pointer (some ⟨b, 0, none⟩), .int .i64 100] [] [(some b, .cells #[.string (bs (dNums l).2.1), .int .i64 (((dNums l).2.2 : Nat) : Int)] 175 (0, 0))] (fun r post => r = .string (bs (dCmd l).1) ∧ post = [(some b, .cells #[.string (bs (dCmd l).2.1), .int .i64 (((dCmd l).2.2 : Nat) : Int)] 175 (0, 0))]) := by
  have h := dNums_bd l; unfold dCmd; exact rd_str b _ _ 100 (by omega) h.2.2 ⟨by omega, by omega⟩
theorem c_len (b : Nat) (l : List UInt8) (hl : l.length ≤ 140737488350000) : Ct Try.prog 86 [.pointer (some ⟨b, 0, none⟩), .int .i64 32] [] [(some b, .cells #[.string (bs (dCmd l).2.1), .int .i64 (((dCmd l).2.2 : Nat) : Int)] 175 (0, 0))] (fun r post => r = .int .i64 (((dLen l).1 : Nat) : Int) ∧ post = [(some b, .cells #[.string (bs (dLen l).2.1), .int .i64 (((dLen l).2.2 : Nat) : Int)] 175 (0, 0))]) := by
  have h := dCmd_bd l; unfold dLen; exact rd_int b _ _ 32 (by omega) h.2 ⟨by omega, by omega⟩
theorem c_lttx (b : Nat) (l : List UInt8) (e : Nat) (hl : l.length ≤ 140737488350000) (he : e ≤ 1000) : Ct Try.prog 87 [.pointer (some ⟨b, 0, none⟩), .int .i64 100] [] [(some b, .cells #[.string (bs (ltNs l e).2.1), .int .i64 (((ltNs l e).2.2 : Nat) : Int)] 175 (0, 0))] (fun r post => r = .string (bs (ltTx l e).1) ∧ post = [(some b, .cells #[.string (bs (ltTx l e).2.1), .int .i64 (((ltTx l e).2.2 : Nat) : Int)] 175 (0, 0))]) := by
  obtain ⟨_, h1, h2, _⟩ := ltOf_bd l e he; unfold ltTx; exact rd_str b _ _ 100 (by omega) h2 ⟨by omega, by omega⟩
theorem c_ltn (b : Nat) (l : List UInt8) (e : Nat) (hl : l.length ≤ 140737488350000) (he : e ≤ 1000) : Ct Try.prog 88 [.pointer (some ⟨b, 0, none⟩)] [] [(some b, .cells #[.string (bs (ltTx l e).2.1), .int .i64 (((ltTx l e).2.2 : Nat) : Int)] 175 (0, 0))] (fun r post => r = .int .u64 (((ltN l e).1 : Nat) : Int) ∧ post = [(some b, .cells #[.string (bs (ltN l e).2.1), .int .i64 (((ltN l e).2.2 : Nat) : Int)] 175 (0, 0))]) := by
  obtain ⟨_, _, _, _, h1, h2, _⟩ := ltOf_bd l e he; unfold ltN; exact rd_num b _ _ (by omega) h2
theorem c_nums (s1 rb b4 br : Nat) (l : List UInt8) (hl : l.length ≤ 140737488350000) (to_ : List UInt8) (code : Int) : Ct Try.prog 85 [.slice (some ⟨s1, 0, none⟩) 8 8, .pointer (some ⟨b4, 0, none⟩)] [(some s1, .cells (ptrs rb 2 8).toArray 99 (0, 0)), (some b4, .cells #[.pointer (some ⟨br, 0, none⟩)] 127 (0, 0))]
    [(some rb, .cells (rpCells ⟨to_, code, 0, 0, 0, 0, 0, 0, 0, 0, []⟩ (.slice none 0 0)).toArray 25 (0, 0)), (some br, .cells #[.string (bs (dCode l).2.1), .int .i64 (((dCode l).2.2 : Nat) : Int)] 175 (0, 0))] (fun v post => v = .tuple #[] ∧ post = [(some rb, .cells (rpCells ⟨to_, code, g (dNums l).1 0, g (dNums l).1 1, g (dNums l).1 2, g (dNums l).1 3, g (dNums l).1 4, g (dNums l).1 5, g (dNums l).1 6, g (dNums l).1 7, []⟩ (.slice none 0 0)).toArray 25 (0, 0)), (some br, .cells #[.string (bs (dNums l).2.1), .int .i64 (((dNums l).2.2 : Nat) : Int)] 175 (0, 0))]) := by
  have h := dCode_bd l
  have h8 := (dNums_bd l).1
  rw [← laid_rp h8]
  unfold dNums
  exact rep_dec1 s1 rb 2 b4 br _ _ 8 _ _ (by omega) (by simp [rpCells]) (by omega) h.2
theorem c_ltns (s1 rb b4 br : Nat) (l : List UInt8) (e : Nat) (hl : l.length ≤ 140737488350000) (he : e ≤ 1000) : Ct Try.prog 85 [.slice (some ⟨s1, 0, none⟩) 4 4, .pointer (some ⟨b4, 0, none⟩)] [(some s1, .cells (ptrs rb 0 4).toArray 99 (0, 0)), (some b4, .cells #[.pointer (some ⟨br, 0, none⟩)] 127 (0, 0))]
    [(some rb, .cells (ltCells ⟨0, 0, 0, 0, [], 0⟩).toArray 96 (0, 0)), (some br, .cells #[.string (bs l), .int .i64 ((e : Nat) : Int)] 175 (0, 0))] (fun v post => v = .tuple #[] ∧ post = [(some rb, .cells (ltCells ⟨g (ltNs l e).1 0, g (ltNs l e).1 1, g (ltNs l e).1 2, g (ltNs l e).1 3, [], 0⟩).toArray 96 (0, 0)), (some br, .cells #[.string (bs (ltNs l e).2.1), .int .i64 (((ltNs l e).2.2 : Nat) : Int)] 175 (0, 0))]) := by
  have h4 := (ltOf_bd l e he).1
  rw [← laid_lt h4]
  unfold ltNs
  exact rep_dec1 s1 rb 0 b4 br _ _ 4 _ _ (by omega) (by simp [ltCells]) (by omega) he

theorem set_cmd (r : Rp) (s : Value) (c : List UInt8) : (rpCells r s).toArray.setIfInBounds 10 (.string (bs c)) = (rpCells ⟨r.to_, r.code, r.op, r.state, r.epoch, r.tries, r.cls, r.cost, r.a, r.b, c⟩ s).toArray := rfl
theorem set_cmd2 (l : List UInt8) (s : Value) : (rpCells ⟨(dTo l).1, ((dCode l).1 : Int), g (dNums l).1 0, g (dNums l).1 1, g (dNums l).1 2, g (dNums l).1 3, g (dNums l).1 4, g (dNums l).1 5, g (dNums l).1 6, g (dNums l).1 7, []⟩ s).toArray.setIfInBounds 10 (.string (bs (dCmd l).1)) = (rpCells (dRp l) s).toArray := by
  unfold dRp; exact set_cmd _ _ _
theorem rdLs_zero (l : List UInt8) (e : Nat) : rdLs l e 0 = ([], l, e) := rfl
theorem set_ls (r : Rp) (s s' : Value) : (rpCells r s).toArray.setIfInBounds 11 s' = (rpCells r s').toArray := rfl
theorem set_lt (a b c d : Int) (s : List UInt8) (n : Nat) : ((ltCells ⟨a, b, c, d, [], 0⟩).toArray.setIfInBounds 4 (.string (bs s))).setIfInBounds 5 (.int .u64 (n : Int)) = (ltCells ⟨a, b, c, d, s, n⟩).toArray := rfl
theorem set_lt2 (l : List UInt8) (e : Nat) : ((ltCells ⟨g (ltNs l e).1 0, g (ltNs l e).1 1, g (ltNs l e).1 2, g (ltNs l e).1 3, [], 0⟩).toArray.setIfInBounds 4 (.string (bs (ltTx l e).1))).setIfInBounds 5 (.int .u64 (((ltN l e).1 : Nat) : Int)) = (ltCells (ltOf l e)).toArray := by
  unfold ltOf; exact set_lt _ _ _ _ _ _
def zeroRp : Rp := ⟨[], 0, 0, 0, 0, 0, 0, 0, 0, 0, []⟩
def decE (l : List UInt8) : Int := if dEnd l = 0 then 0 else 3
def decRp (l : List UInt8) : Rp := if dEnd l = 0 then dRp l else zeroRp
def decLs (l : List UInt8) : List Lt := if dEnd l = 0 then (dLs l).1 else []

end
end Go.Proofs.Ytkidmbaakdaflaa
