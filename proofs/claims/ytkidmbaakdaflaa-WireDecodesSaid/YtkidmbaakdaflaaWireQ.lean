/- Requests as bytes, in plain lists: written, and read. -/
import Derived.Test.YtkidmbaakdaflaaMsgW
import Derived.Test.YtkidmbaakdaflaaRead3
set_option linter.unusedSimpArgs false
set_option linter.unusedVariables false
namespace Go.Proofs.Ytkidmbaakdaflaa
open Go Go.RowKit

section



def encF (q : Rq) (c : Int) : List UInt8 := match textIdx c with
  | some i => text (q.tx i)
  | none => match numIdx c with
    | some i => chainI (q.nx i)
    | none => chainI (if q.flag then 1 else 0)
def encFs (q : Rq) (cs : List UInt8) : List UInt8 := cs.flatMap fun c => encF q (c.toNat : Int)
def encQ (q : Rq) : List UInt8 := chainI q.kind ++ encFs q (fieldsK q.kind)
def wireE (q : Rq) : Value := if mayQ q = true then (if 480 < (encQ q).length then .tuple #[.string (bs []), .int .i64 4] else .tuple #[.string (bs (encQ q)), .int .i64 0]) else .tuple #[.string (bs []), .int .i64 1]
theorem encF_text {q : Rq} {c : Int} {i : Nat} (h : textIdx c = some i) : encF q c = text (q.tx i) := by unfold encF; rw [h]
theorem encF_num {q : Rq} {c : Int} {i : Nat} (h0 : textIdx c = none) (h : numIdx c = some i) : encF q c = chainI (q.nx i) := by unfold encF; rw [h0, h]
theorem encF_flag {q : Rq} {c : Int} (h0 : textIdx c = none) (h : numIdx c = none) : encF q c = chainI (if q.flag then 1 else 0) := by unfold encF; rw [h0, h]
/-- What a letter's field must be to be written. -/
structure FOk (q : Rq) (c : Int) : Prop where
  t : ∀ i, textIdx c = some i → (q.tx i).length ≤ 100
  n : ∀ i, textIdx c = none → numIdx c = some i → 0 ≤ q.nx i ∧ q.nx i ≤ 1099511627776
theorem fok_of {q : Rq} {c : UInt8} (h : okL q c = true) : FOk q (c.toNat : Int) := by
  unfold okL at h
  refine ⟨fun i hi => ?_, fun i h0 hi => ?_⟩
  · rw [hi] at h; simpa using h
  · rw [h0, hi] at h; simpa using h
theorem okL_of {q : Rq} {c : UInt8} (h : FOk q (c.toNat : Int)) : okL q c = true := by
  unfold okL
  split
  · rename_i i hi
    simpa using h.t i hi
  · rename_i h0
    split
    · rename_i i hi
      simpa using h.n i h0 hi
    · rfl
theorem encF_len {q : Rq} {c : Int} (h : FOk q c) : (encF q c).length ≤ 110 := by
  rcases letter3 c with ⟨i, htx, hnx, hb1, hb2⟩ | ⟨i, htx, hnx, hb1, hb2⟩ | ⟨htx, hnx⟩
  · rw [encF_text htx]
    have h1 := h.t i htx
    have h2 := text_len (q.tx i) (by omega)
    omega
  · rw [encF_num htx hnx]
    have h1 := h.n i htx hnx
    have := chainI_len (q.nx i) h1.1 (by omega)
    omega
  · rw [encF_flag htx hnx]
    have := chainI_len (if q.flag then 1 else 0) (by split <;> omega) (by split <;> omega)
    omega
theorem encFs_len {q : Rq} : ∀ (cs : List UInt8), (∀ c ∈ cs, FOk q (c.toNat : Int)) → (encFs q cs).length ≤ 110 * cs.length
  | [], _ => by simp [encFs]
  | c :: cs, h => by
    have h1 := encFs_len cs (fun x hx => h x (by simp [hx]))
    have h2 := encF_len (h c (by simp))
    unfold encFs at *
    simp only [List.flatMap_cons, List.length_append, List.length_cons]
    omega
theorem encFs_next (q : Rq) (cs : List UInt8) (k : Nat) (hk : k < cs.length) : encFs q (cs.take (k + 1)) = encFs q (cs.take k) ++ encF q ((cs.getD k 0).toNat : Int) := by
  unfold encFs
  rw [List.take_succ_eq_append_getElem hk, List.flatMap_append]
  rw [List.getD_eq_getElem?_getD, List.getElem?_eq_getElem hk]
  simp
theorem may_fok {q : Rq} (h : mayQ q = true) : (1 ≤ q.kind ∧ q.kind ≤ 17) ∧ ∀ c ∈ fieldsK q.kind, FOk q (c.toNat : Int) := by
  unfold mayQ at h
  split at h
  · rename_i hh
    obtain ⟨h1, h2⟩ := hh
    rw [List.all_eq_true] at h2
    refine ⟨by unfold isKind at h1; simpa using h1, fun c hc => fok_of (h2 c hc)⟩
  · cases h
theorem getD_mem {cs : List UInt8} {k : Nat} (h : k < cs.length) : cs.getD k 0 ∈ cs := by
  rw [List.getD_eq_getElem?_getD, List.getElem?_eq_getElem h]; simp

def setT (q : Rq) (i : Nat) (s : List UInt8) : Rq := { q with tx := fun j => if j = i then s else q.tx j }
def setN (q : Rq) (i : Nat) (n : Int) : Rq := { q with nx := fun j => if j = i then n else q.nx j }
def setB (q : Rq) (b : Bool) : Rq := { q with flag := b }
def rdF (q : Rq) (c : Int) (l : List UInt8) (e : Nat) : Rq × List UInt8 × Nat := match textIdx c with
  | some i => (setT q i (rdStr 100 l e).1, (rdStr 100 l e).2)
  | none => match numIdx c with
    | some i => (setN q i (((rdInt 1099511627776 l e).1 : Nat) : Int), (rdInt 1099511627776 l e).2)
    | none => (setB q (rdFlag l e).1, (rdFlag l e).2)
theorem rdF_text {q : Rq} {c : Int} {i : Nat} (l : List UInt8) (e : Nat) (h : textIdx c = some i) : rdF q c l e = (setT q i (rdStr 100 l e).1, (rdStr 100 l e).2) := by unfold rdF; rw [h]
theorem rdF_num {q : Rq} {c : Int} {i : Nat} (l : List UInt8) (e : Nat) (h0 : textIdx c = none) (h : numIdx c = some i) : rdF q c l e = (setN q i (((rdInt 1099511627776 l e).1 : Nat) : Int), (rdInt 1099511627776 l e).2) := by unfold rdF; rw [h0, h]
theorem rdF_flag {q : Rq} {c : Int} (l : List UInt8) (e : Nat) (h0 : textIdx c = none) (h : numIdx c = none) : rdF q c l e = (setB q (rdFlag l e).1, (rdFlag l e).2) := by unfold rdF; rw [h0, h]
def rdFs (q : Rq) (cs : List UInt8) (l : List UInt8) (e : Nat) : Rq × List UInt8 × Nat := cs.foldl (fun s c => rdF s.1 (c.toNat : Int) s.2.1 s.2.2) (q, l, e)
theorem rdFs_snoc (q : Rq) (cs : List UInt8) (c : UInt8) (l : List UInt8) (e : Nat) : rdFs q (cs ++ [c]) l e = rdF (rdFs q cs l e).1 (c.toNat : Int) (rdFs q cs l e).2.1 (rdFs q cs l e).2.2 := by
  unfold rdFs; rw [List.foldl_append]; rfl
theorem rdFs_next (q : Rq) (cs : List UInt8) (k : Nat) (hk : k < cs.length) (l : List UInt8) (e : Nat) : rdFs q (cs.take (k + 1)) l e = rdF (rdFs q (cs.take k) l e).1 ((cs.getD k 0).toNat : Int) (rdFs q (cs.take k) l e).2.1 (rdFs q (cs.take k) l e).2.2 := by
  rw [List.take_succ_eq_append_getElem hk, rdFs_snoc, List.getD_eq_getElem?_getD, List.getElem?_eq_getElem hk]
  rfl
theorem rdFlag_bd (l : List UInt8) (e : Nat) (he : e ≤ 1000) : (rdFlag l e).2.1.length ≤ l.length ∧ (rdFlag l e).2.2 ≤ 1000 := by
  obtain ⟨v, n, e1, hu⟩ : ∃ v n e1, unchain l = (v, n, e1) := ⟨_, _, _, rfl⟩
  obtain ⟨hv, hb⟩ := unchain_bd hu
  by_cases h : e = 0
  · subst h
    rcases hb with ⟨h0, h1, _, _⟩ | ⟨h0, h1, h2⟩
    · subst h0
      by_cases hl : 1 < v
      · rw [rdFlag_long l v n hu hl]; exact ⟨by simp, by simp⟩
      · rw [rdFlag_ok l v n hu hl]; exact ⟨by simp, by simp⟩
    · rw [rdFlag_bad l v n e1 hu (by omega)]
      exact ⟨by simp, by simp only; omega⟩
  · rw [rdFlag_err l e h]
    exact ⟨by simp, he⟩
theorem rdF_bd (q : Rq) (c : Int) (l : List UInt8) (e : Nat) (he : e ≤ 1000) : (rdF q c l e).2.1.length ≤ l.length ∧ (rdF q c l e).2.2 ≤ 1000 := by
  rcases letter3 c with ⟨i, htx, hnx, hb1, hb2⟩ | ⟨i, htx, hnx, hb1, hb2⟩ | ⟨htx, hnx⟩
  · rw [rdF_text l e htx]; exact (rdStr_bd 100 l e he (by omega)).2
  · rw [rdF_num l e htx hnx]; exact (rdInt_bd 1099511627776 l e he (by omega)).2
  · rw [rdF_flag l e htx hnx]; exact rdFlag_bd l e he
theorem rdFs_bd (q : Rq) (l : List UInt8) (e : Nat) (he : e ≤ 1000) (cs : List UInt8) : ∀ k, (rdFs q (cs.take k) l e).2.1.length ≤ l.length ∧ (rdFs q (cs.take k) l e).2.2 ≤ 1000
  | 0 => ⟨by simp [rdFs], by simpa [rdFs] using he⟩
  | k + 1 => by
    obtain ⟨h1, h2⟩ := rdFs_bd q l e he cs k
    by_cases hk : k < cs.length
    · rw [rdFs_next q cs k hk]
      have := rdF_bd (rdFs q (cs.take k) l e).1 ((cs.getD k 0).toNat : Int) (rdFs q (cs.take k) l e).2.1 (rdFs q (cs.take k) l e).2.2 h2
      exact ⟨by omega, this.2⟩
    · rw [List.take_of_length_le (by omega)] at h1 h2 ⊢
      exact ⟨h1, h2⟩
theorem rdF_kind (q : Rq) (c : Int) (l : List UInt8) (e : Nat) : (rdF q c l e).1.kind = q.kind := by
  rcases letter3 c with ⟨i, htx, hnx, hb1, hb2⟩ | ⟨i, htx, hnx, hb1, hb2⟩ | ⟨htx, hnx⟩
  · rw [rdF_text l e htx]; rfl
  · rw [rdF_num l e htx hnx]; rfl
  · rw [rdF_flag l e htx hnx]; rfl
theorem rdFs_kind (q : Rq) (l : List UInt8) (e : Nat) (cs : List UInt8) : (rdFs q cs l e).1.kind = q.kind := by
  unfold rdFs
  generalize hs : (q, l, e) = s
  have hq : s.1.kind = q.kind := by rw [← hs]
  clear hs
  induction cs generalizing s with
  | nil => exact hq
  | cons c cs ih =>
    rw [List.foldl_cons]
    exact ih _ (by rw [rdF_kind]; exact hq)

-- written, and read
theorem rdF_enc (q o : Rq) (c : UInt8) (rest : List UInt8) (h : FOk q (c.toNat : Int)) : rdF o (c.toNat : Int) (encF q (c.toNat : Int) ++ rest) 0 = (rqTake q o c, rest, 0) := by
  rcases letter3 (c.toNat : Int) with ⟨i, htx, hnx, hb1, hb2⟩ | ⟨i, htx, hnx, hb1, hb2⟩ | ⟨htx, hnx⟩
  · have h1 := h.t i htx
    rw [rdF_text _ _ htx, encF_text htx, rdStr_text 100 _ _ (by omega) (by omega), rqTake_text _ _ _ i htx]; rfl
  · have h1 := h.n i htx hnx
    rw [rdF_num _ _ htx hnx, encF_num htx hnx, rdInt_chain _ _ _ h1.1 h1.2 (by omega), rqTake_num _ _ _ i htx hnx]
    simp only [setN, Int.toNat_of_nonneg h1.1]
  · rw [rdF_flag _ _ htx hnx, encF_flag htx hnx, rdFlag_chain, rqTake_flag _ _ _ htx hnx]; rfl
theorem rdFs_enc (q : Rq) : ∀ (cs : List UInt8) (o : Rq) (rest : List UInt8), (∀ c ∈ cs, FOk q (c.toNat : Int)) → rdFs o cs (encFs q cs ++ rest) 0 = (cs.foldl (rqTake q) o, rest, 0)
  | [], o, rest, _ => rfl
  | c :: cs, o, rest, h => by
    have e : encFs q (c :: cs) ++ rest = encF q (c.toNat : Int) ++ (encFs q cs ++ rest) := by simp [encFs]
    have ih := rdFs_enc q cs (rqTake q o c) rest (fun x hx => h x (by simp [hx]))
    unfold rdFs at ih ⊢
    rw [List.foldl_cons, e]
    simp only
    rw [rdF_enc q o c _ (h c (by simp))]
    exact ih

/-- The request of some bytes, and why there is none: the program's. -/
def dk (l : List UInt8) := rdInt 1099511627776 l 0
def dfs (l : List UInt8) := rdFs (rqBare ((dk l).1 : Int)) (fieldsK ((dk l).1 : Int)) (dk l).2.1 (dk l).2.2
def decOk (l : List UInt8) : Prop := rdEnd (dfs l).2.1 (dfs l).2.2 = 0 ∧ mayQ (dfs l).1 = true
instance (l : List UInt8) : Decidable (decOk l) := by unfold decOk; infer_instance
def decQ (l : List UInt8) : Rq := if 480 < l.length then rqBare 0 else if decOk l then (dfs l).1 else rqBare 0
def decW (l : List UInt8) : Int := if 480 < l.length then 4 else if decOk l then 0 else 3
/-- The document's. -/
def rk (l : List UInt8) := rdInt 17 l 0
def rfs (l : List UInt8) := rdFs (rqBare ((rk l).1 : Int)) (fieldsK ((rk l).1 : Int)) (rk l).2.1 (rk l).2.2
def rdecOk (l : List UInt8) : Prop := rdEnd (rfs l).2.1 (rfs l).2.2 = 0 ∧ 1 ≤ (rfs l).1.kind
instance (l : List UInt8) : Decidable (rdecOk l) := by unfold rdecOk; infer_instance
def rdecQ (l : List UInt8) : Rq := if 480 < l.length then rqBare 0 else if rdecOk l then (rfs l).1 else rqBare 0
def rdecW (l : List UInt8) : Int := if 480 < l.length then 4 else if rdecOk l then 0 else 3

theorem may_cells {p q : Rq} (h : rqCells p = rqCells q) : mayQ p = mayQ q := by
  simp only [rqCells, List.cons.injEq, Value.int.injEq, Value.string.injEq, Value.bool.injEq, true_and, and_true] at h
  have hb : ∀ {a b : List UInt8}, bs a = bs b → a = b := fun h => by
    have := congrArg (fun s => s.data.toList) h
    simpa [bs] using this
  obtain ⟨h0, t1, t2, t3, t4, t5, t6, n7, n8, n9, n10, n11, n12, n13, n14, n15, hf⟩ := h
  have ht : ∀ i, 1 ≤ i → i ≤ 6 → p.tx i = q.tx i := fun i a b => by
    match i, a, b with
    | 1, _, _ => exact hb t1
    | 2, _, _ => exact hb t2
    | 3, _, _ => exact hb t3
    | 4, _, _ => exact hb t4
    | 5, _, _ => exact hb t5
    | 6, _, _ => exact hb t6
  have hn : ∀ i, 7 ≤ i → i ≤ 15 → p.nx i = q.nx i := fun i a b => by
    match i, a, b with
    | 7, _, _ => exact n7
    | 8, _, _ => exact n8
    | 9, _, _ => exact n9
    | 10, _, _ => exact n10
    | 11, _, _ => exact n11
    | 12, _, _ => exact n12
    | 13, _, _ => exact n13
    | 14, _, _ => exact n14
    | 15, _, _ => exact n15
  have hl : okL p = okL q := by
    funext c
    rcases letter3 (c.toNat : Int) with ⟨i, htx, hnx, hb1, hb2⟩ | ⟨i, htx, hnx, hb1, hb2⟩ | ⟨htx, hnx⟩
    · rw [okL_text htx, okL_text htx, ht i hb1 hb2]
    · rw [okL_num htx hnx, okL_num htx hnx, hn i hb1 hb2]
    · rw [okL_flag htx hnx, okL_flag htx hnx]
  unfold mayQ
  rw [h0, hl]
theorem may_clean (q : Rq) : mayQ (rqClean q) = mayQ q := by rw [may_cells (refRq_cells q), mayQ_r, mayQ_r, rmayQ_ref]
theorem wire_there (q : Rq) (h : mayQ q = true) (hl : ¬ 480 < (encQ q).length) : decQ (encQ q) = rqClean q ∧ decW (encQ q) = 0 := by
  obtain ⟨⟨k1, k2⟩, hf⟩ := may_fok h
  have h1 : dk (encQ q) = (q.kind.toNat, encFs q (fieldsK q.kind), 0) := rdInt_chain 1099511627776 q.kind _ (by omega) (by omega) (by omega)
  have h2 : dfs (encQ q) = (rqClean q, [], 0) := by
    unfold dfs
    rw [h1]
    simp only
    rw [Int.toNat_of_nonneg (by omega)]
    have := rdFs_enc q (fieldsK q.kind) (rqBare q.kind) [] hf
    rw [List.append_nil] at this
    exact this
  have h3 : decOk (encQ q) := by
    unfold decOk
    rw [h2]
    exact ⟨rfl, by rw [may_clean]; exact h⟩
  unfold decQ decW
  rw [if_neg hl, if_neg hl, if_pos h3, if_pos h3, h2]
  exact ⟨rfl, rfl⟩

-- read, and written
def keyL (c : UInt8) : Option Nat × Option Nat := (textIdx (c.toNat : Int), numIdx (c.toNat : Int))
theorem fieldsOf_nodup : ∀ k, k < 18 → ((fieldsOf k).map keyL).Nodup := by decide
theorem fieldsK_nodup (k : Int) : ((fieldsK k).map keyL).Nodup := by
  by_cases hk : 1 ≤ k ∧ k ≤ 17
  · obtain ⟨n, rfl⟩ := Int.eq_ofNat_of_zero_le (show 0 ≤ k by omega)
    rw [fieldsK_yes n (by omega) (by omega)]
    exact fieldsOf_nodup n (by omega)
  · rw [fieldsK_no k hk]; simp
theorem setT_other {q : Rq} {i : Nat} {s : List UInt8} {c : UInt8} (h : textIdx (c.toNat : Int) ≠ some i) : encF (setT q i s) (c.toNat : Int) = encF q (c.toNat : Int) := by
  rcases letter3 (c.toNat : Int) with ⟨j, htx, hnx, hb1, hb2⟩ | ⟨j, htx, hnx, hb1, hb2⟩ | ⟨htx, hnx⟩
  · rw [encF_text htx, encF_text htx]
    have : ¬ j = i := fun e => h (by rw [htx, e])
    simp [setT, this]
  · rw [encF_num htx hnx, encF_num htx hnx]; rfl
  · rw [encF_flag htx hnx, encF_flag htx hnx]; rfl
theorem setN_other {q : Rq} {i : Nat} {s : Int} {c : UInt8} (h : textIdx (c.toNat : Int) = none → numIdx (c.toNat : Int) ≠ some i) : encF (setN q i s) (c.toNat : Int) = encF q (c.toNat : Int) := by
  rcases letter3 (c.toNat : Int) with ⟨j, htx, hnx, hb1, hb2⟩ | ⟨j, htx, hnx, hb1, hb2⟩ | ⟨htx, hnx⟩
  · rw [encF_text htx, encF_text htx]; rfl
  · rw [encF_num htx hnx, encF_num htx hnx]
    have : ¬ j = i := fun e => h htx (by rw [hnx, e])
    simp [setN, this]
  · rw [encF_flag htx hnx, encF_flag htx hnx]; rfl
theorem setB_other {q : Rq} {b : Bool} {c : UInt8} (h : ¬ (textIdx (c.toNat : Int) = none ∧ numIdx (c.toNat : Int) = none)) : encF (setB q b) (c.toNat : Int) = encF q (c.toNat : Int) := by
  rcases letter3 (c.toNat : Int) with ⟨j, htx, hnx, hb1, hb2⟩ | ⟨j, htx, hnx, hb1, hb2⟩ | ⟨htx, hnx⟩
  · rw [encF_text htx, encF_text htx]; rfl
  · rw [encF_num htx hnx, encF_num htx hnx]; rfl
  · exact absurd ⟨htx, hnx⟩ h
theorem rdF_other {q : Rq} {c d : UInt8} {l : List UInt8} {e : Nat} (h : keyL d ≠ keyL c) : encF (rdF q (c.toNat : Int) l e).1 (d.toNat : Int) = encF q (d.toNat : Int) := by
  rcases letter3 (c.toNat : Int) with ⟨i, htx, hnx, hb1, hb2⟩ | ⟨i, htx, hnx, hb1, hb2⟩ | ⟨htx, hnx⟩
  · rw [rdF_text l e htx]
    refine setT_other fun hd => h ?_
    unfold keyL
    rw [htx, hnx, hd, textIdx_num _ _ hd]
  · rw [rdF_num l e htx hnx]
    refine setN_other fun h0 hd => h ?_
    unfold keyL
    rw [htx, hnx, h0, hd]
  · rw [rdF_flag l e htx hnx]
    refine setB_other fun hd => h ?_
    unfold keyL
    rw [htx, hnx, hd.1, hd.2]
theorem rdF_back {q : Rq} {c : UInt8} {l : List UInt8} {e : Nat} (h : (rdF q (c.toNat : Int) l e).2.2 = 0) : e = 0 ∧ l = encF (rdF q (c.toNat : Int) l e).1 (c.toNat : Int) ++ (rdF q (c.toNat : Int) l e).2.1 ∧ FOk (rdF q (c.toNat : Int) l e).1 (c.toNat : Int) := by
  rcases letter3 (c.toNat : Int) with ⟨i, htx, hnx, hb1, hb2⟩ | ⟨i, htx, hnx, hb1, hb2⟩ | ⟨htx, hnx⟩
  · rw [rdF_text l e htx] at h ⊢
    obtain ⟨h1, h2⟩ := rdStr_back h
    have hb := (rdStr_bd 100 l e (by omega) (by omega)).1
    rw [encF_text htx]
    have e1 : (setT q i (rdStr 100 l e).1).tx i = (rdStr 100 l e).1 := by simp [setT]
    refine ⟨h1, by simp only; rw [e1]; exact h2, fun j hj => ?_, fun j h0 _ => ?_⟩
    · rw [htx] at hj; cases hj; simp only; rw [e1]; omega
    · rw [htx] at h0; cases h0
  · rw [rdF_num l e htx hnx] at h ⊢
    obtain ⟨h1, h2⟩ := rdInt_back h
    have hb := (rdInt_bd 1099511627776 l e (by omega) (by omega)).1
    rw [encF_num htx hnx]
    have e1 : (setN q i (((rdInt 1099511627776 l e).1 : Nat) : Int)).nx i = (((rdInt 1099511627776 l e).1 : Nat) : Int) := by simp [setN]
    refine ⟨h1, by simp only; rw [e1]; exact h2, fun j hj => ?_, fun j h0 hj => ?_⟩
    · rw [htx] at hj; cases hj
    · rw [hnx] at hj; cases hj; simp only; rw [e1]; omega
  · rw [rdF_flag l e htx hnx] at h ⊢
    obtain ⟨h1, h2⟩ := rdFlag_back h
    rw [encF_flag htx hnx]
    refine ⟨h1, h2, fun j hj => ?_, fun j h0 hj => ?_⟩
    · rw [htx] at hj; cases hj
    · rw [hnx] at hj; cases hj
theorem fok_enc {p q : Rq} {d : UInt8} (he : ∀ i, textIdx (d.toNat : Int) = some i → p.tx i = q.tx i) (hn : ∀ i, textIdx (d.toNat : Int) = none → numIdx (d.toNat : Int) = some i → p.nx i = q.nx i) (h : FOk q (d.toNat : Int)) : FOk p (d.toNat : Int) :=
  ⟨fun i hi => by rw [he i hi]; exact h.t i hi, fun i h0 hi => by rw [hn i h0 hi]; exact h.n i h0 hi⟩
theorem rdF_fok {q : Rq} {c d : UInt8} {l : List UInt8} {e : Nat} (h : keyL d ≠ keyL c) (hq : FOk q (d.toNat : Int)) : FOk (rdF q (c.toNat : Int) l e).1 (d.toNat : Int) := by
  rcases letter3 (c.toNat : Int) with ⟨i, htx, hnx, hb1, hb2⟩ | ⟨i, htx, hnx, hb1, hb2⟩ | ⟨htx, hnx⟩
  · rw [rdF_text l e htx]
    refine fok_enc (q := q) (fun j hj => ?_) (fun j _ _ => rfl) hq
    have : ¬ j = i := fun e => h (by unfold keyL; rw [htx, hnx, hj, e, textIdx_num _ _ hj])
    simp [setT, this]
  · rw [rdF_num l e htx hnx]
    refine fok_enc (q := q) (fun j _ => rfl) (fun j h0 hj => ?_) hq
    have : ¬ j = i := fun e => h (by unfold keyL; rw [htx, hnx, h0, hj, e])
    simp [setN, this]
  · rw [rdF_flag l e htx hnx]
    exact fok_enc (q := q) (fun j _ => rfl) (fun j _ _ => rfl) hq
theorem rdFs_back (q : Rq) (l : List UInt8) (e : Nat) (cs : List UInt8) : ∀ k, k ≤ cs.length → (cs.map keyL).Nodup → (rdFs q (cs.take k) l e).2.2 = 0 → e = 0 ∧ l = encFs (rdFs q (cs.take k) l e).1 (cs.take k) ++ (rdFs q (cs.take k) l e).2.1 ∧ ∀ d ∈ cs.take k, FOk (rdFs q (cs.take k) l e).1 (d.toNat : Int)
  | 0, _, _, h => ⟨by simpa [rdFs] using h, by simp [rdFs, encFs], by simp⟩
  | k + 1, hk, hn, h => by
    have hk' : k < cs.length := by omega
    rw [rdFs_next q cs k hk'] at h ⊢
    obtain ⟨h1, h2, h3⟩ := rdF_back h
    obtain ⟨h4, h5, h6⟩ := rdFs_back q l e cs k (by omega) hn h1
    have hkey : ∀ d ∈ cs.take k, keyL d ≠ keyL (cs.getD k 0) := fun d hd e => by
      obtain ⟨j, hj, rfl⟩ := List.mem_iff_getElem.1 hd
      have hjk : j < k := by simp at hj; omega
      have := List.pairwise_iff_getElem.1 hn j k (by simp; omega) (by simpa using hk') hjk
      apply this
      rw [List.getD_eq_getElem?_getD, List.getElem?_eq_getElem hk'] at e
      simp only [List.getElem_take, Option.getD_some] at e
      simp [e]
    have henc : encFs (rdF (rdFs q (cs.take k) l e).1 ((cs.getD k 0).toNat : Int) (rdFs q (cs.take k) l e).2.1 (rdFs q (cs.take k) l e).2.2).1 (cs.take k) = encFs (rdFs q (cs.take k) l e).1 (cs.take k) := by
      unfold encFs
      rw [List.flatMap_def, List.flatMap_def]
      exact congrArg List.flatten (List.map_congr_left fun d hd => rdF_other (hkey d hd))
    refine ⟨h4, ?_, fun d hd => ?_⟩
    · rw [encFs_next _ cs k hk', henc, List.append_assoc, ← h2]
      exact h5
    · rw [List.take_succ_eq_append_getElem hk', List.mem_append, List.mem_singleton] at hd
      rcases hd with hd | rfl
      · exact rdF_fok (hkey d hd) (h6 d hd)
      · have e : cs[k] = cs.getD k 0 := by rw [List.getD_eq_getElem?_getD, List.getElem?_eq_getElem hk']; rfl
        rw [e]
        exact h3
theorem dfs_back (k : Nat) (hk : (k : Int) ≤ 1099511627776) (l l' : List UInt8) (e : Nat) (h : rdEnd (rdFs (rqBare (k : Int)) (fieldsK (k : Int)) l' e).2.1 (rdFs (rqBare (k : Int)) (fieldsK (k : Int)) l' e).2.2 = 0) (hl : e = 0 → l = chainI (k : Int) ++ l') : encQ (rdFs (rqBare (k : Int)) (fieldsK (k : Int)) l' e).1 = l ∧ ((1 ≤ (k : Int) ∧ (k : Int) ≤ 17) → mayQ (rdFs (rqBare (k : Int)) (fieldsK (k : Int)) l' e).1 = true) := by
  obtain ⟨h1, h2⟩ := rdEnd_back h
  have hb := rdFs_back (rqBare (k : Int)) l' e (fieldsK (k : Int)) (fieldsK (k : Int)).length (Nat.le_refl _) (fieldsK_nodup _)
  rw [List.take_length] at hb
  obtain ⟨h3, h4, h5⟩ := hb h1
  have hkd : (rdFs (rqBare (k : Int)) (fieldsK (k : Int)) l' e).1.kind = (k : Int) := rdFs_kind _ _ _ _
  refine ⟨?_, fun hk2 => ?_⟩
  · unfold encQ
    rw [hkd, hl h3]
    rw [h2, List.append_nil] at h4
    rw [← h4]
  · unfold mayQ
    rw [hkd]
    rw [if_pos]
    refine ⟨by unfold isKind; simpa using hk2, ?_⟩
    rw [List.all_eq_true]
    intro c hc
    exact okL_of (h5 c hc)
theorem wire_back (l : List UInt8) (h : decW l = 0) : encQ (decQ l) = l ∧ mayQ (decQ l) = true ∧ ¬ 480 < l.length := by
  unfold decW at h
  unfold decQ
  split at h
  · omega
  · rename_i hl
    rw [if_neg hl]
    split at h
    · rename_i ho
      rw [if_pos ho]
      have hb := rdInt_bd 1099511627776 l 0 (by omega) (by omega)
      refine ⟨(dfs_back (dk l).1 hb.1 l (dk l).2.1 (dk l).2.2 ho.1 (fun he => (rdInt_back he).2)).1, ho.2, hl⟩
    · omega
theorem rdInt_two (l : List UInt8) : rk l = dk l ∨ (17 < ((dk l).1 : Int) ∧ (rk l).2.2 ≠ 0 ∧ (rk l).1 = 0) := by
  unfold rk dk
  obtain ⟨v, n, e1, hu⟩ : ∃ v n e1, unchain l = (v, n, e1) := ⟨_, _, _, rfl⟩
  by_cases h1 : e1 = 0
  · subst h1
    by_cases h17 : (v : Int) ≤ 17
    · rw [rdInt_ok 17 l v n hu (by omega), rdInt_ok 1099511627776 l v n hu (by omega)]; exact .inl rfl
    · by_cases h40 : (v : Int) ≤ 1099511627776
      · rw [rdInt_long 17 l v n hu (by omega), rdInt_ok 1099511627776 l v n hu (by omega)]
        exact .inr ⟨by simp only; omega, by simp, rfl⟩
      · rw [rdInt_long 17 l v n hu (by omega), rdInt_long 1099511627776 l v n hu (by omega)]; exact .inl rfl
  · rw [rdInt_bad 17 l v n e1 hu h1, rdInt_bad 1099511627776 l v n e1 hu h1]; exact .inl rfl
theorem rdEnd_of_ne {l : List UInt8} {e : Nat} (h : e ≠ 0) : rdEnd l e ≠ 0 := by unfold rdEnd; rw [if_pos h]; exact h
theorem dec_same (l : List UInt8) : rdecOk l ↔ decOk l := by
  rcases rdInt_two l with h | ⟨h1, h2, h3⟩
  · have hf : rfs l = dfs l := by unfold rfs dfs; rw [h]
    unfold rdecOk decOk
    rw [hf]
    have hkd : (dfs l).1.kind = ((dk l).1 : Int) := rdFs_kind _ _ _ _
    have hb := rdInt_bd 17 l 0 (by omega) (by omega)
    have hb' : ((rk l).1 : Int) ≤ 17 := hb.1
    rw [h] at hb'
    constructor
    · rintro ⟨a, b⟩
      rw [hkd] at b
      refine ⟨a, (dfs_back (dk l).1 (by omega) l (dk l).2.1 (dk l).2.2 a (fun he => (rdInt_back he).2)).2 ⟨b, hb'⟩⟩
    · rintro ⟨a, b⟩
      exact ⟨a, (may_fok b).1.1⟩
  · constructor
    · rintro ⟨a, b⟩
      have : (rfs l).1.kind = ((rk l).1 : Int) := rdFs_kind _ _ _ _
      rw [this, h3] at b
      omega
    · rintro ⟨a, b⟩
      have hkd : (dfs l).1.kind = ((dk l).1 : Int) := rdFs_kind _ _ _ _
      have := (may_fok b).1.2
      rw [hkd] at this
      omega
theorem dec_eq (l : List UInt8) : rdecQ l = decQ l ∧ rdecW l = decW l := by
  unfold rdecQ decQ rdecW decW
  by_cases hl : 480 < l.length
  · simp [hl]
  · simp only [if_neg hl]
    by_cases h : decOk l
    · rw [if_pos h, if_pos h, if_pos ((dec_same l).2 h), if_pos ((dec_same l).2 h)]
      refine ⟨?_, rfl⟩
      rcases rdInt_two l with h' | ⟨h1, h2, h3⟩
      · unfold rfs dfs; rw [h']
      · have hkd : (dfs l).1.kind = ((dk l).1 : Int) := rdFs_kind _ _ _ _
        have := (may_fok h.2).1.2
        rw [hkd] at this
        omega
    · rw [if_neg h, if_neg h, if_neg (fun x => h ((dec_same l).1 x)), if_neg (fun x => h ((dec_same l).1 x))]
      exact ⟨rfl, rfl⟩

end
end Go.Proofs.Ytkidmbaakdaflaa
