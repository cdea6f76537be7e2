/- What was written as bytes is read again. -/
import Derived.Test.YtkidmbaakdaflaaReplyE
import Derived.Test.YtkidmbaakdaflaaRead3
set_option linter.unusedSimpArgs false
set_option linter.unusedVariables false
namespace Go.Proofs.Ytkidmbaakdaflaa
open Go Go.RowKit

section



attribute [local irreducible] dTo dCode dNums dCmd dLen ltNs ltTx ltN
theorem rdI_front (most : Int) (l : List UInt8) (e : Nat) : ∀ i, rdI most l e (i + 1) = ((rdInt most l e).1 :: (rdI most (rdInt most l e).2.1 (rdInt most l e).2.2 i).1, (rdI most (rdInt most l e).2.1 (rdInt most l e).2.2 i).2)
  | 0 => rfl
  | i + 1 => by
    have ih := rdI_front most l e i
    rw [rdI, ih]
    rfl
theorem rdI_nums : ∀ (ns : List Int) (rest : List UInt8), (∀ x ∈ ns, In40 x) → rdI 1099511627776 (encNums ns ++ rest) 0 ns.length = (ns.map Int.toNat, rest, 0)
  | [], rest, _ => rfl
  | x :: ns, rest, h => by
    obtain ⟨h0, h1⟩ := h x (by simp)
    have e : encNums (x :: ns) ++ rest = chainI x ++ (encNums ns ++ rest) := by simp [encNums]
    rw [List.length_cons, rdI_front, e, rdInt_chain _ x _ h0 h1 (by omega)]
    simp only
    rw [rdI_nums ns rest (fun y hy => h y (by simp [hy]))]
    rfl
theorem rdLs_front (l : List UInt8) (e : Nat) : ∀ i, rdLs l e (i + 1) = (ltOf l e :: (rdLs (ltN l e).2.1 (ltN l e).2.2 i).1, (rdLs (ltN l e).2.1 (ltN l e).2.2 i).2)
  | 0 => rfl
  | i + 1 => by
    have ih := rdLs_front l e i
    rw [rdLs, ih, rdLs]
    simp only [List.cons_append]
theorem lt_enc (x : Lt) (rest : List UInt8) (h : badL x = false) (hn : x.n < 18446744073709551616) : ltOf (encL x ++ rest) 0 = x ∧ (ltN (encL x ++ rest) 0).2 = (rest, 0) := by
  obtain ⟨b1, b2, _⟩ := bigL h hn
  have e : encL x ++ rest = encNums x.nums ++ (text x.tx ++ (chainI (x.n : Int) ++ rest)) := by simp [encL]
  have h1 : ltNs (encL x ++ rest) 0 = (x.nums.map Int.toNat, text x.tx ++ (chainI (x.n : Int) ++ rest), 0) := by
    unfold ltNs
    rw [e]
    exact rdI_nums x.nums _ b2
  have h2 : ltTx (encL x ++ rest) 0 = (x.tx, chainI (x.n : Int) ++ rest, 0) := by
    unfold ltTx
    rw [h1]
    exact rdStr_text 100 _ _ (by omega) (by omega)
  have h3 : ltN (encL x ++ rest) 0 = (x.n, rest, 0) := by
    unfold ltN
    rw [h2]
    exact rdNum_chain _ _ hn
  refine ⟨?_, by rw [h3]⟩
  unfold ltOf
  rw [h1, h2, h3]
  obtain ⟨a, b, c, d, tx, n⟩ := x
  have ha := b2 a (by simp [Lt.nums])
  have hb := b2 b (by simp [Lt.nums])
  have hc := b2 c (by simp [Lt.nums])
  have hd := b2 d (by simp [Lt.nums])
  unfold In40 at ha hb hc hd
  simp [g, Lt.nums]
  omega
theorem rdLs_enc : ∀ (ls : List Lt) (rest : List UInt8), (∀ l ∈ ls, badL l = false) → (∀ l ∈ ls, l.n < 18446744073709551616) → rdLs (ls.flatMap encL ++ rest) 0 ls.length = (ls, rest, 0)
  | [], rest, _, _ => rfl
  | x :: ls, rest, h, hn => by
    have e : (x :: ls).flatMap encL ++ rest = encL x ++ (ls.flatMap encL ++ rest) := by simp
    obtain ⟨h1, h2⟩ := lt_enc x (ls.flatMap encL ++ rest) (h x (by simp)) (hn x (by simp))
    rw [List.length_cons, rdLs_front, e, h1, h2]
    simp only
    rw [rdLs_enc ls rest (fun y hy => h y (by simp [hy])) (fun y hy => hn y (by simp [hy]))]
/-- Each reply that may be, written and read. -/
theorem dec_enc (r : Rp) (ls : List Lt) (hm : mayR r ls = true) (hn : ∀ l ∈ ls, l.n < 18446744073709551616) : decE (encR r ls) = 0 ∧ decRp (encR r ls) = r ∧ decLs (encR r ls) = ls := by
  obtain ⟨m1, m2, m3, m4, m5, m6⟩ := mayR_all hm
  have e : encR r ls = text r.to_ ++ (chainI r.code ++ (encNums r.nums ++ (text r.cmd ++ (chainI (ls.length : Int) ++ (ls.flatMap encL ++ []))))) := by simp [encR, encR0]
  have h1 : dTo (encR r ls) = (r.to_, chainI r.code ++ (encNums r.nums ++ (text r.cmd ++ (chainI (ls.length : Int) ++ (ls.flatMap encL ++ [])))), 0) := by
    unfold dTo; rw [e]; exact rdStr_text 100 _ _ (by omega) (by omega)
  have h2 : dCode (encR r ls) = (r.code.toNat, encNums r.nums ++ (text r.cmd ++ (chainI (ls.length : Int) ++ (ls.flatMap encL ++ []))), 0) := by
    unfold dCode; rw [h1]; exact rdInt_chain _ _ _ m3.1 m3.2 (by have := m3.2; omega)
  have h3 : dNums (encR r ls) = (r.nums.map Int.toNat, text r.cmd ++ (chainI (ls.length : Int) ++ (ls.flatMap encL ++ [])), 0) := by
    unfold dNums; rw [h2]; exact rdI_nums r.nums _ m4
  have h4 : dCmd (encR r ls) = (r.cmd, chainI (ls.length : Int) ++ (ls.flatMap encL ++ []), 0) := by
    unfold dCmd; rw [h3]; exact rdStr_text 100 _ _ (by omega) (by omega)
  have h5 : dLen (encR r ls) = (ls.length, ls.flatMap encL ++ [], 0) := by
    unfold dLen; rw [h4]; exact rdInt_chain 32 (ls.length : Int) _ (by omega) (by omega) (by omega)
  have h6 : dLs (encR r ls) = (ls, [], 0) := by
    unfold dLs; rw [h5]; exact rdLs_enc ls [] m6 hn
  have h7 : dEnd (encR r ls) = 0 := by unfold dEnd; rw [h6]; rfl
  refine ⟨?_, ?_, ?_⟩
  · unfold decE; rw [if_pos h7]
  · unfold decRp; rw [if_pos h7]
    unfold dRp
    rw [h1, h2, h3, h4]
    obtain ⟨to_, code, n0, n1, n2, n3, n4, n5, n6, n7, cmd⟩ := r
    have q : ∀ x ∈ [n0, n1, n2, n3, n4, n5, n6, n7], 0 ≤ x := fun x hx => (m4 x hx).1
    have m30 := m3.1
    simp at q m30
    simp [g, Rp.nums]
    omega
  · unfold decLs; rw [if_pos h7, h6]

end
end Go.Proofs.Ytkidmbaakdaflaa
