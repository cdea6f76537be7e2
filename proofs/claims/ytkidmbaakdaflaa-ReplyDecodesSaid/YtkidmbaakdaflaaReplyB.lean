/- What is read as a reply is written as just these bytes. -/
import Derived.Test.YtkidmbaakdaflaaReplyG
import Derived.Test.YtkidmbaakdaflaaRead3
set_option linter.unusedSimpArgs false
set_option linter.unusedVariables false
namespace Go.Proofs.Ytkidmbaakdaflaa
open Go Go.RowKit

section



theorem rdI_back (most : Int) (l : List UInt8) (e : Nat) : ∀ i, (rdI most l e i).2.2 = 0 → e = 0 ∧ l = encNums ((rdI most l e i).1.map fun (n : Nat) => (n : Int)) ++ (rdI most l e i).2.1
  | 0, h => ⟨h, by simp [rdI, encNums]⟩
  | i + 1, h => by
    simp only [rdI] at h ⊢
    obtain ⟨h1, h2⟩ := rdInt_back h
    obtain ⟨h3, h4⟩ := rdI_back most l e i h1
    refine ⟨h3, ?_⟩
    refine h4.trans ((congrArg (encNums _ ++ ·) h2).trans ?_)
    simp [encNums]
theorem nums4 {ns : List Nat} (h : ns.length = 4) : encNums [g ns 0, g ns 1, g ns 2, g ns 3] = encNums (ns.map fun (n : Nat) => (n : Int)) := by
  match ns, h with
  | [a0, a1, a2, a3], _ => rfl
theorem nums8 {ns : List Nat} (h : ns.length = 8) : encNums [g ns 0, g ns 1, g ns 2, g ns 3, g ns 4, g ns 5, g ns 6, g ns 7] = encNums (ns.map fun (n : Nat) => (n : Int)) := by
  match ns, h with
  | [a0, a1, a2, a3, a4, a5, a6, a7], _ => rfl
theorem g_in {ns : List Nat} (h : ∀ x ∈ ns, (x : Int) ≤ 1099511627776) (i : Nat) : outB (g ns i) = false := by
  unfold outB g
  rw [decide_eq_false_iff_not, List.getD_eq_getElem?_getD]
  rcases hx : ns[i]? with _ | x
  · simp
  · have := h x (List.mem_of_getElem? hx)
    simp only [Option.getD_some]
    omega
theorem lt_good (l : List UInt8) (e : Nat) (he : e ≤ 1000) : badL (ltOf l e) = false ∧ LtOk (ltOf l e) := by
  obtain ⟨q1, q2, q3, q4, q5, q6, q7, q8, q9, q10⟩ := ltOf_bd l e he
  have ho := g_in q10
  have hi : ∀ i, I64 (g (ltNs l e).1 i) := fun i => by
    have := in40_of (ho i)
    unfold In40 at this
    unfold I64
    omega
  refine ⟨?_, ⟨hi 0, hi 1, hi 2, hi 3, ?_, q7⟩⟩
  · unfold badL ltOf Lt.nums
    simp only [List.any_cons, List.any_nil, ho, Bool.or_false, decide_eq_false_iff_not]
    omega
  · show (ltTx l e).1.length ≤ _
    omega
theorem lt_back (l : List UInt8) (e : Nat) (h : (ltN l e).2.2 = 0) : e = 0 ∧ l = encL (ltOf l e) ++ (ltN l e).2.1 := by
  have h1 := rdNum_back (l := (ltTx l e).2.1) (e := (ltTx l e).2.2) h
  have h2 := rdStr_back (most := 100) (l := (ltNs l e).2.1) (e := (ltNs l e).2.2) h1.1
  have h3 := rdI_back 1099511627776 l e 4 h2.1
  refine ⟨h3.1, ?_⟩
  have h5 := (ltOf_bd l e (by omega)).1
  have e1 : encL (ltOf l e) = encNums ((ltNs l e).1.map fun (n : Nat) => (n : Int)) ++ (text (ltTx l e).1 ++ chainI ((ltN l e).1 : Int)) := by
    unfold encL; rw [← nums4 h5]; rfl
  have h2' : (ltNs l e).2.1 = text (ltTx l e).1 ++ (ltTx l e).2.1 := h2.2
  have h1' : (ltTx l e).2.1 = chainI ((ltN l e).1 : Int) ++ (ltN l e).2.1 := h1.2
  have h3' : l = encNums ((ltNs l e).1.map fun (n : Nat) => (n : Int)) ++ (ltNs l e).2.1 := h3.2
  rw [e1, List.append_assoc, List.append_assoc, ← h1', ← h2']
  exact h3'
theorem rdLs_good (l : List UInt8) (e : Nat) (he : e ≤ 1000) : ∀ i, ∀ x ∈ (rdLs l e i).1, badL x = false ∧ LtOk x
  | 0, x, hx => by simp [rdLs] at hx
  | i + 1, x, hx => by
    simp only [rdLs, List.mem_append, List.mem_singleton] at hx
    rcases hx with hx | rfl
    · exact rdLs_good l e he i x hx
    · exact lt_good _ _ (rdLs_bd l e he i).2.2
theorem rdLs_back (l : List UInt8) (e : Nat) : ∀ i, (rdLs l e i).2.2 = 0 → e = 0 ∧ l = (rdLs l e i).1.flatMap encL ++ (rdLs l e i).2.1
  | 0, h => ⟨h, by simp [rdLs]⟩
  | i + 1, h => by
    simp only [rdLs] at h ⊢
    obtain ⟨h1, h2⟩ := lt_back _ _ h
    obtain ⟨h3, h4⟩ := rdLs_back l e i h1
    refine ⟨h3, ?_⟩
    refine h4.trans ((congrArg ((rdLs l e i).1.flatMap encL ++ ·) h2).trans ?_)
    simp
theorem dNums_back (l : List UInt8) (h : (dNums l).2.2 = 0) : (dCode l).2.2 = 0 ∧ (dCode l).2.1 = encNums ((dNums l).1.map fun (n : Nat) => (n : Int)) ++ (dNums l).2.1 := by
  unfold dNums at *; exact rdI_back _ _ _ 8 h
theorem dNums_in (l : List UInt8) : ∀ x ∈ (dNums l).1, (x : Int) ≤ 1099511627776 := by
  unfold dNums; exact (rdI_bd _ _ _ (dCode_bd l).2 (by omega) 8).2.1
theorem dLs_back (l : List UInt8) (h : (dLs l).2.2 = 0) : (dLen l).2.2 = 0 ∧ (dLen l).2.1 = (dLs l).1.flatMap encL ++ (dLs l).2.1 := by
  unfold dLs at *; exact rdLs_back _ _ _ h
theorem dLen_back (l : List UInt8) (h : (dLen l).2.2 = 0) : (dCmd l).2.2 = 0 ∧ (dCmd l).2.1 = chainI ((dLen l).1 : Int) ++ (dLen l).2.1 := by
  unfold dLen at *; exact rdInt_back h
theorem dCmd_back (l : List UInt8) (h : (dCmd l).2.2 = 0) : (dNums l).2.2 = 0 ∧ (dNums l).2.1 = text (dCmd l).1 ++ (dCmd l).2.1 := by
  unfold dCmd at *; exact rdStr_back h
theorem dCode_back (l : List UInt8) (h : (dCode l).2.2 = 0) : (dTo l).2.2 = 0 ∧ (dTo l).2.1 = chainI ((dCode l).1 : Int) ++ (dCode l).2.1 := by
  unfold dCode at *; exact rdInt_back h
theorem dTo_back (l : List UInt8) (h : (dTo l).2.2 = 0) : l = text (dTo l).1 ++ (dTo l).2.1 := by
  unfold dTo at *; exact (rdStr_back h).2
theorem dEnd_back (l : List UInt8) (h : dEnd l = 0) : (dLs l).2.2 = 0 ∧ (dLs l).2.1 = [] := by
  unfold dEnd at *; exact rdEnd_back h
theorem dLs_len (l : List UInt8) : (dLs l).1.length = (dLen l).1 := by
  unfold dLs; exact (rdLs_bd _ _ (dLen_bd l).2.2 _).1
theorem dLs_good (l : List UInt8) : ∀ x ∈ (dLs l).1, badL x = false ∧ LtOk x := by
  unfold dLs; exact rdLs_good _ _ (dLen_bd l).2.2 _
theorem dTo_in (l : List UInt8) : (((dTo l).1.length : Nat) : Int) ≤ 100 := by
  unfold dTo; exact (rdStr_bd 100 l 0 (by omega) (by omega)).1
theorem dCode_in (l : List UInt8) : (((dCode l).1 : Nat) : Int) ≤ 1099511627776 := by
  unfold dCode; exact (rdInt_bd 1099511627776 _ _ (dTo_bd l).2 (by omega)).1
theorem dCmd_in (l : List UInt8) : (((dCmd l).1.length : Nat) : Int) ≤ 100 := by
  unfold dCmd; exact (rdStr_bd 100 _ _ (dNums_bd l).2.2 (by omega)).1
attribute [local irreducible] dTo dCode dNums dCmd dLen dLs dEnd
theorem dec_back (l : List UInt8) (h : dEnd l = 0) : encR (decRp l) (decLs l) = l := by
  obtain ⟨h1, k1⟩ := dEnd_back l h
  obtain ⟨h2, k2⟩ := dLs_back l h1
  obtain ⟨h3, k3⟩ := dLen_back l h2
  obtain ⟨h4, k4⟩ := dCmd_back l h3
  obtain ⟨h5, k5⟩ := dNums_back l h4
  obtain ⟨h6, k6⟩ := dCode_back l h5
  have k7 := dTo_back l h6
  have n8 := nums8 (dNums_bd l).1
  have hl := dLs_len l
  unfold decRp decLs
  rw [if_pos h, if_pos h]
  have e0 : encR (dRp l) (dLs l).1 = text (dTo l).1 ++ (chainI ((dCode l).1 : Int) ++ (encNums ((dNums l).1.map fun (n : Nat) => (n : Int)) ++ (text (dCmd l).1 ++ (chainI ((dLen l).1 : Int) ++ (dLs l).1.flatMap encL)))) := by
    unfold encR encR0
    rw [hl, ← n8]
    simp only [List.append_assoc]
    rfl
  rw [k1, List.append_nil] at k2
  rw [e0, ← k2, ← k3, ← k4, ← k5, ← k6]
  exact k7.symm
theorem decLs_good (l : List UInt8) : ∀ x ∈ decLs l, badL x = false ∧ LtOk x := by
  unfold decLs
  split
  · exact dLs_good l
  · simp
theorem dec_may (l : List UInt8) (h : dEnd l = 0) : mayR (decRp l) (decLs l) = true := by
  have b1 := dTo_in l
  have b2 := dCode_in l
  have b3 := g_in (dNums_in l)
  have b4 := dCmd_in l
  have a5 := (dLen_bd l).1
  have hl := dLs_len l
  have hg := dLs_good l
  unfold decRp decLs
  rw [if_pos h, if_pos h]
  unfold mayR
  have c1 : outB ((dCode l).1 : Int) = false := by unfold outB; rw [decide_eq_false_iff_not]; omega
  have c2 : (dLs l).1.any badL = false := by rw [List.any_eq_false]; intro x hx; rw [(hg x hx).1]; simp
  unfold dRp Rp.nums
  simp only [List.any_cons, List.any_nil, b3, c1, c2, b1, b4, Bool.or_false, Bool.not_false, Bool.and_true, decide_true, Bool.true_and]
  rw [decide_eq_true_eq]
  omega

end
end Go.Proofs.Ytkidmbaakdaflaa
