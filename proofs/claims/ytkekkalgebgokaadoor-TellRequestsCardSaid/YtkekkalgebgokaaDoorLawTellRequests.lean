/- The law TellRequests: the program tells every request as a line as the document does; two that may be are told alike just if they are, clean, the same; the call returns true and leaves its arguments as they were. -/
import Derived.Test.YtkekkalgebgokaaDoorTellL
set_option linter.unusedSimpArgs false
set_option linter.unusedVariables false
namespace Go.Proofs.YtkekkalgebgokaaDoor
open Go.ChangeShapes Go.WideShapes Go.ChangeAt Go.RowKit

section
theorem infLawTellRequests_9 : Tryd.prog.info? 9 = some Tryd.t9 := by kernel_rfl
theorem infLawTellRequests_27 : Tryd.prog.info? 27 = some Tryd.t27 := by kernel_rfl


/-- What stands behind a field: nothing, or a blank. -/
def Behind (r : List UInt8) : Prop := r = [] ∨ ∃ r', r = 32 :: r'
theorem cut_at (d : UInt8) : ∀ (a b r q : List UInt8), (∀ x ∈ a, x ≠ d) → (∀ x ∈ b, x ≠ d) → (r = [] ∨ ∃ r', r = d :: r') → (q = [] ∨ ∃ q', q = d :: q') → a ++ r = b ++ q → a = b ∧ r = q
  | [], [], r, q, _, _, _, _, h => ⟨rfl, by simpa using h⟩
  | [], y :: b, r, q, _, hb, hr, _, h => by
    exfalso
    rcases hr with rfl | ⟨r', rfl⟩
    · simp at h
    · simp only [List.nil_append, List.cons_append, List.cons.injEq] at h
      exact hb y (by simp) h.1.symm
  | x :: a, [], r, q, ha, _, _, hq, h => by
    exfalso
    rcases hq with rfl | ⟨q', rfl⟩
    · simp at h
    · simp only [List.nil_append, List.cons_append, List.cons.injEq] at h
      exact ha x (by simp) h.1
  | x :: a, y :: b, r, q, ha, hb, hr, hq, h => by
    simp only [List.cons_append, List.cons.injEq] at h
    obtain ⟨rfl, h⟩ := h
    obtain ⟨rfl, rfl⟩ := cut_at d a b r q (fun z hz => ha z (by simp [hz])) (fun z hz => hb z (by simp [hz])) hr hq h
    exact ⟨rfl, rfl⟩
theorem dec_digit : ∀ v : Nat, ∀ x ∈ Lib.decDigits v, 48 ≤ x.toNat ∧ x.toNat ≤ 57 := by
  intro v
  induction v using Nat.strongRecOn with
  | _ v ih =>
    intro x hx
    rw [Lib.decDigits] at hx
    split at hx
    · rename_i h
      rw [List.mem_singleton.1 hx]
      rw [UInt8.toNat_ofNat']; omega
    · rename_i h
      rcases List.mem_append.1 hx with h1 | h1
      · exact ih (v / 10) (by omega) x h1
      · rw [List.mem_singleton.1 h1]
        rw [UInt8.toNat_ofNat']; omega
theorem dec_ne (v : Nat) : Lib.decDigits v ≠ [] := by
  rw [Lib.decDigits]; split <;> simp
theorem dec_inj : ∀ v w : Nat, Lib.decDigits v = Lib.decDigits w → v = w := by
  intro v
  induction v using Nat.strongRecOn with
  | _ v ih =>
    intro w h
    have last : ∀ n : Nat, Lib.decDigits n = (if n < 10 then [] else Lib.decDigits (n / 10)) ++ [UInt8.ofNat (48 + n % 10)] := fun n => dec_split n
    have h2 := h
    rw [last v, last w] at h2
    obtain ⟨h3, h4⟩ := List.append_inj' h2 rfl
    have h5 : v % 10 = w % 10 := by
      simp only [List.cons.injEq, and_true] at h4
      have := congrArg UInt8.toNat h4
      rw [UInt8.toNat_ofNat', UInt8.toNat_ofNat'] at this
      omega
    by_cases hv : v < 10 <;> by_cases hw : w < 10
    · omega
    · rw [if_pos hv, if_neg hw] at h3; exact absurd h3.symm (dec_ne _)
    · rw [if_neg hv, if_pos hw] at h3; exact absurd h3 (dec_ne _)
    · rw [if_neg hv, if_neg hw] at h3
      have := ih (v / 10) (by omega) (w / 10) h3
      omega
theorem itoa_plain (x : Int) : ∀ c ∈ Lib.itoa x, c ≠ 32 := by
  intro c hc
  unfold Lib.itoa at hc
  split at hc
  · rcases List.mem_cons.1 hc with rfl | hc
    · decide
    · have := dec_digit _ c hc; intro h; subst h; simp at this
  · have := dec_digit _ c hc; intro h; subst h; simp at this
theorem itoa_inj {x y : Int} (h : Lib.itoa x = Lib.itoa y) : x = y := by
  have nm : ∀ (v w : Nat), Lib.decDigits v ≠ 45 :: Lib.decDigits w := fun v w e => by
    have := dec_digit v 45 (by rw [e]; simp)
    simp at this
  unfold Lib.itoa at h
  split at h <;> split at h
  · simp only [List.cons.injEq, true_and] at h
    have := dec_inj _ _ h; omega
  · exact absurd h.symm (nm _ _)
  · exact absurd h (nm _ _)
  · have := dec_inj _ _ h; omega
theorem flag_plain (b : Bool) : ∀ c ∈ (if b then [111, 110] else [111, 102, 102] : List UInt8), c ≠ 32 := by cases b <;> decide
/-- Two fields of one letter that are told alike, whatever stands behind, hold the same. -/
def SameF (p q : Rq) (c : Int) : Prop := match textIdx c with
  | some i => p.tx i = q.tx i
  | none => match numIdx c with
    | some i => p.nx i = q.nx i
    | none => p.flag = q.flag
theorem telF_inj {p q : Rq} {c : Int} {r s : List UInt8} (hr : Behind r) (hs : Behind s) (h : telF p c ++ r = telF q c ++ s) : SameF p q c ∧ r = s := by
  unfold telF at h
  unfold SameF
  rcases ht : textIdx c with _ | i
  · rcases hn : numIdx c with _ | i
    · simp only [ht, hn] at h ⊢
      obtain ⟨h1, h2⟩ := cut_at 32 _ _ _ _ (flag_plain _) (flag_plain _) hr hs h
      refine ⟨?_, h2⟩
      revert h1
      cases p.flag <;> cases q.flag <;> simp
    · simp only [ht, hn] at h ⊢
      obtain ⟨h1, h2⟩ := cut_at 32 _ _ _ _ (itoa_plain _) (itoa_plain _) hr hs h
      exact ⟨itoa_inj h1, h2⟩
  · simp only [ht] at h ⊢
    unfold quoteT at h
    simp only [List.cons_append, List.cons.injEq, true_and, List.append_assoc, List.nil_append] at h
    exact quoteI_inj _ _ _ _ h
theorem telF_same {p q : Rq} {c : Int} (h : SameF p q c) : telF p c = telF q c := by
  unfold SameF at h
  unfold telF
  rcases ht : textIdx c with _ | i
  · rcases hn : numIdx c with _ | i
    · simp only [ht, hn] at h ⊢; rw [h]
    · simp only [ht, hn] at h ⊢; rw [h]
  · simp only [ht] at h ⊢; rw [h]
theorem fieldLs_behind (q : Rq) (l : List UInt8) : Behind (l.flatMap (fieldL q)) := by
  cases l with
  | nil => exact .inl rfl
  | cons c l => exact .inr ⟨[c] ++ [61] ++ telF q (c.toNat : Int) ++ l.flatMap (fieldL q), by simp [fieldL]⟩
theorem fieldLs_inj (p q : Rq) : ∀ l : List UInt8, l.flatMap (fieldL p) = l.flatMap (fieldL q) ↔ ∀ c ∈ l, SameF p q (c.toNat : Int)
  | [] => by simp
  | c :: l => by
    have ih := fieldLs_inj p q l
    simp only [List.flatMap_cons]
    constructor
    · intro h
      unfold fieldL at h
      simp only [List.append_assoc, List.cons_append, List.nil_append, List.cons.injEq, true_and] at h
      obtain ⟨h1, h2⟩ := telF_inj (fieldLs_behind p l) (fieldLs_behind q l) h
      intro d hd
      rcases List.mem_cons.1 hd with rfl | hd
      · exact h1
      · exact ih.1 h2 d hd
    · intro h
      rw [ih.2 (fun d hd => h d (by simp [hd]))]
      unfold fieldL
      rw [telF_same (h c (by simp))]
theorem headL_plain (k : Int) : ∀ x ∈ headL k, x ≠ 32 := by
  have key : ∀ n < 18, ∀ x ∈ wordOf n, x ≠ 32 := by decide +kernel
  unfold headL
  split
  · decide
  · unfold wordK
    split
    · exact key _ (by omega)
    · simp
theorem headL_inj {j k : Int} (hj : 1 ≤ j ∧ j ≤ 17) (hk : 1 ≤ k ∧ k ≤ 17) (h : headL j = headL k) : j = k := by
  have key : ∀ m : Nat, m < 18 → ∀ n : Nat, n < 18 → 1 ≤ m → 1 ≤ n → headL (m : Int) = headL (n : Int) → m = n := by decide +kernel
  obtain ⟨m, rfl⟩ := Int.eq_ofNat_of_zero_le (show 0 ≤ j by omega)
  obtain ⟨n, rfl⟩ := Int.eq_ofNat_of_zero_le (show 0 ≤ k by omega)
  have := key m (by omega) n (by omega) (by omega) (by omega) h
  omega
/-- Two requests that may be are told alike just if they are of one kind and their fields are the same. -/
theorem reqT_iff {p q : Rq} (hp : 1 ≤ p.kind ∧ p.kind ≤ 17) (hq : 1 ≤ q.kind ∧ q.kind ≤ 17) : reqT p = reqT q ↔ p.kind = q.kind ∧ ∀ c ∈ fieldsK p.kind, SameF p q (c.toNat : Int) := by
  constructor
  · intro h
    unfold reqT at h
    obtain ⟨h1, h2⟩ := cut_at 32 _ _ _ _ (headL_plain _) (headL_plain _) (fieldLs_behind p _) (fieldLs_behind q _) h
    have h3 := headL_inj hp hq h1
    rw [← h3] at h2
    exact ⟨h3, (fieldLs_inj p q _).1 h2⟩
  · rintro ⟨h1, h2⟩
    unfold reqT
    rw [← h1, (fieldLs_inj p q _).2 h2]


set_option maxHeartbeats 4000000 in
theorem lits_iff {p q : Rq} (hp : 1 ≤ p.kind ∧ p.kind ≤ 17) (h : p.kind = q.kind) : rqLits (refRq p) = rqLits (refRq q) ↔ ∀ c ∈ fieldsK p.kind, SameF p q (c.toNat : Int) := by
  obtain ⟨k, tx, nx, fl⟩ := p
  obtain ⟨k', tx', nx', fl'⟩ := q
  simp only at h hp
  subst h
  have sb : ∀ a : Bool, selB a true = a ∧ selB a false = false := by intro a; cases a <;> exact ⟨rfl, rfl⟩
  rcases kinds17 k hp with rfl | rfl | rfl | rfl | rfl | rfl | rfl | rfl | rfl | rfl | rfl | rfl | rfl | rfl | rfl | rfl | rfl
  all_goals (simp [rqLits, refRq, fieldsK, fieldsOf, formTab, hasI, letT, letN, selT, selN, sb, SameF, textIdx, numIdx]; try grind)
theorem reqT_clean {p q : Rq} (hp : 1 ≤ p.kind ∧ p.kind ≤ 17) (hq : 1 ≤ q.kind ∧ q.kind ≤ 17) : reqT p = reqT q ↔ rqLits (refRq p) = rqLits (refRq q) := by
  rw [reqT_iff hp hq]
  constructor
  · rintro ⟨h1, h2⟩
    exact (lits_iff hp h1).2 h2
  · intro h
    have h1 : p.kind = q.kind := by
      unfold rqLits refRq at h
      simp only [List.cons.injEq, Lit.int.injEq, true_and] at h
      exact h.1
    exact ⟨h1, (lits_iff hp h1).1 h⟩
theorem may_kind {q : Rq} (h : rmayQ q = true) : 1 ≤ q.kind ∧ q.kind ≤ 17 := by
  unfold rmayQ at h
  split at h
  · rename_i hc
    have := hc.2.2
    unfold isKind at this
    exact of_decide_eq_true this
  · cases h
def textsL (q : Rq) : Nat := (q.tx 1).length + (q.tx 2).length + (q.tx 3).length + (q.tx 4).length + (q.tx 5).length + (q.tx 6).length
/-- The request with what is not one of its cells turned to nothing. -/
def rqCut (q : Rq) : Rq := ⟨q.kind, fun i => if 1 ≤ i ∧ i ≤ 6 then q.tx i else [], fun i => if 7 ≤ i ∧ i ≤ 15 then q.nx i else 0, q.flag⟩
theorem rqCut_cells (q : Rq) : rqCells (rqCut q) = rqCells q := rfl
theorem rqCut_ok {q : Rq} (hq : RqOk q) (h : textsL q ≤ 2000) : RqT (rqCut q) ∧ RqOk (rqCut q) := by
  unfold textsL at h
  refine ⟨⟨fun i => ?_, fun i => ?_⟩, ?_⟩
  · unfold rqCut; simp only
    split
    · rename_i hi
      rcases (by omega : i = 1 ∨ i = 2 ∨ i = 3 ∨ i = 4 ∨ i = 5 ∨ i = 6) with rfl | rfl | rfl | rfl | rfl | rfl <;> omega
    · simp
  · unfold rqCut; simp only
    split
    · exact hq.2.2 i
    · omega
  · obtain ⟨h1, h2, h3⟩ := hq
    refine ⟨h1, fun i => ?_, fun i => ?_⟩
    · unfold rqCut; simp only; split
      · exact h2 i
      · simp
    · unfold rqCut; simp only; split
      · exact h3 i
      · omega

set_option maxRecDepth 100000 in
set_option maxHeartbeats 2000000 in
theorem tellRequests_all (p q : Rq) (hp : RqOk p) (hq : RqOk q) (lp : ∀ i, 1 ≤ i ∧ i ≤ 6 → (p.tx i).length ≤ 140737488351232) (lq : ∀ i, 1 ≤ i ∧ i ≤ 6 → (q.tx i).length ≤ 140737488351232) (hp2 : textsL p ≤ 2000 → RqT p) (hq2 : textsL q ≤ 2000 → RqT q) (T0 : TypeId) (r0 : Nat × Nat) :
    Ct Tryd.prog 4 [.agg (rqCells p).toArray, .agg (rqCells q).toArray] [(some 0, .cells powC T0 r0)] [] fun v post => v = .bool true ∧ post = [] := by
 have lp1 := lp 1 (by omega)
 have lp2 := lp 2 (by omega)
 have lp3 := lp 3 (by omega)
 have lp4 := lp 4 (by omega)
 have lp5 := lp 5 (by omega)
 have lp6 := lp 6 (by omega)
 have lq1 := lq 1 (by omega)
 have lq2 := lq 2 (by omega)
 have lq3 := lq 3 (by omega)
 have lq4 := lq 4 (by omega)
 have lq5 := lq 5 (by omega)
 have lq6 := lq 6 (by omega)
 refine ct_of Tryd.func4 rfl rfl (fun w0 => ?_)
 show G _ _ [(0, _), (1, _)] _ _
 refine G_seq ?_
 refine G_region (l := [0, 1, 2]) rfl ?_
 refine G_new rfl rfl rfl rfl (N_boxA rfl rfl) (fun b2 => ?_)
 refine G_new rfl rfl rfl rfl (N_boxA rfl rfl) (fun b3 => ?_)
 refine G_val rfl rfl rfl rfl (V_assign rfl rfl) ?_
 refine G_done ?_
 refine G_seq ?_
 refine G_seq ?_
 refine G_region (l := [0, 1, 2, 3, 4, 5, 6, 7, 8, 9, 10, 11, 12, 13, 14, 15, 16, 17, 18, 19, 20, 21, 22, 23, 24, 25, 26, 27, 28, 29, 30, 31, 32, 33, 34, 35, 36, 37, 38, 39, 40, 41, 42, 43, 44, 45, 46, 47, 48, 49]) rfl ?_
 refine G_val rfl rfl rfl rfl (V_fieldAddr (fo := 1) rfl Tryd.underlying27 rfl infLawTellRequests_9 rfl rfl rfl) ?_
 refine G_val rfl rfl rfl rfl (V_load1 rfl rfl (mem_at 2 rfl) rfl Tryd.underlying9 rfl) ?_
 refine G_val rfl rfl rfl rfl (V_slen rfl rfl Tryd.underlying9 rfl) ?_
 refine G_val rfl rfl rfl rfl (V_fieldAddr (fo := 2) rfl Tryd.underlying27 rfl infLawTellRequests_9 rfl rfl rfl) ?_
 refine G_val rfl rfl rfl rfl (V_load1 rfl rfl (mem_at 2 rfl) rfl Tryd.underlying9 rfl) ?_
 refine G_val rfl rfl rfl rfl (V_slen rfl rfl Tryd.underlying9 rfl) ?_
 first
   | refine G_val rfl rfl rfl rfl ((V_add rfl rfl rfl).int (wrap_i64 (by omega))) ?_
   | refine G_val rfl rfl rfl rfl (V_add rfl rfl rfl) ?_
 refine G_val rfl rfl rfl rfl (V_fieldAddr (fo := 3) rfl Tryd.underlying27 rfl infLawTellRequests_9 rfl rfl rfl) ?_
 refine G_val rfl rfl rfl rfl (V_load1 rfl rfl (mem_at 2 rfl) rfl Tryd.underlying9 rfl) ?_
 refine G_val rfl rfl rfl rfl (V_slen rfl rfl Tryd.underlying9 rfl) ?_
 first
   | refine G_val rfl rfl rfl rfl ((V_add rfl rfl rfl).int (wrap_i64 (by omega))) ?_
   | refine G_val rfl rfl rfl rfl (V_add rfl rfl rfl) ?_
 refine G_val rfl rfl rfl rfl (V_fieldAddr (fo := 4) rfl Tryd.underlying27 rfl infLawTellRequests_9 rfl rfl rfl) ?_
 refine G_val rfl rfl rfl rfl (V_load1 rfl rfl (mem_at 2 rfl) rfl Tryd.underlying9 rfl) ?_
 refine G_val rfl rfl rfl rfl (V_slen rfl rfl Tryd.underlying9 rfl) ?_
 first
   | refine G_val rfl rfl rfl rfl ((V_add rfl rfl rfl).int (wrap_i64 (by omega))) ?_
   | refine G_val rfl rfl rfl rfl (V_add rfl rfl rfl) ?_
 refine G_val rfl rfl rfl rfl (V_fieldAddr (fo := 5) rfl Tryd.underlying27 rfl infLawTellRequests_9 rfl rfl rfl) ?_
 refine G_val rfl rfl rfl rfl (V_load1 rfl rfl (mem_at 2 rfl) rfl Tryd.underlying9 rfl) ?_
 refine G_val rfl rfl rfl rfl (V_slen rfl rfl Tryd.underlying9 rfl) ?_
 first
   | refine G_val rfl rfl rfl rfl ((V_add rfl rfl rfl).int (wrap_i64 (by omega))) ?_
   | refine G_val rfl rfl rfl rfl (V_add rfl rfl rfl) ?_
 refine G_val rfl rfl rfl rfl (V_fieldAddr (fo := 6) rfl Tryd.underlying27 rfl infLawTellRequests_9 rfl rfl rfl) ?_
 refine G_val rfl rfl rfl rfl (V_load1 rfl rfl (mem_at 2 rfl) rfl Tryd.underlying9 rfl) ?_
 refine G_val rfl rfl rfl rfl (V_slen rfl rfl Tryd.underlying9 rfl) ?_
 first
   | refine G_val rfl rfl rfl rfl ((V_add rfl rfl rfl).int (wrap_i64 (by omega))) ?_
   | refine G_val rfl rfl rfl rfl (V_add rfl rfl rfl) ?_
 refine G_val rfl rfl rfl rfl (V_gtr rfl rfl rfl) ?_
 refine G_val rfl rfl rfl rfl (V_move rfl rfl) ?_
 refine G_splitD 31 rfl (fun hc1 => ?_) (fun hc1 => ?_)
 · skip
   refine G_off rfl rfl rfl rfl ?_
   refine G_off rfl rfl rfl rfl ?_
   refine G_off rfl rfl rfl rfl ?_
   refine G_off rfl rfl rfl rfl ?_
   refine G_off rfl rfl rfl rfl ?_
   refine G_off rfl rfl rfl rfl ?_
   refine G_off rfl rfl rfl rfl ?_
   refine G_off rfl rfl rfl rfl ?_
   refine G_off rfl rfl rfl rfl ?_
   refine G_off rfl rfl rfl rfl ?_
   refine G_off rfl rfl rfl rfl ?_
   refine G_off rfl rfl rfl rfl ?_
   refine G_off rfl rfl rfl rfl ?_
   refine G_off rfl rfl rfl rfl ?_
   refine G_off rfl rfl rfl rfl ?_
   refine G_off rfl rfl rfl rfl ?_
   refine G_off rfl rfl rfl rfl ?_
   refine G_off rfl rfl rfl rfl ?_
   refine G_off rfl rfl rfl rfl ?_
   refine G_off rfl rfl rfl rfl ?_
   refine G_off rfl rfl rfl rfl ?_
   refine G_off rfl rfl rfl rfl ?_
   refine G_off rfl rfl rfl rfl ?_
   refine G_off rfl rfl rfl rfl ?_
   refine G_val rfl rfl rfl rfl (V_pickT rfl rfl rfl) ?_
   refine G_done ?_
   refine G_then rfl ?_
   refine G_seq ?_
   refine G_region (l := [0, 1]) rfl ?_
   refine G_call (L2 := [_, _]) rfl rfl rfl rfl rfl rfl Tryd.call6 (tell_live _ _) [] [0] rfl rfl ?_
   rintro v post ⟨rfl, rfl⟩
   show G _ _ _ [_, _] _
   refine G_val rfl rfl rfl rfl (V_assign rfl rfl) ?_
   refine G_done ?_
   refine G_ret (post := []) Tryd.func4 rfl (RVs_cons (RV_tmp rfl) RVs_nil) [] rfl ?_
   dsimp only [packed]
   exact ⟨rfl, rfl⟩
 refine G_val rfl rfl rfl rfl (V_fieldAddr (fo := 1) rfl Tryd.underlying27 rfl infLawTellRequests_9 rfl rfl rfl) ?_
 refine G_val rfl rfl rfl rfl (V_load1 rfl rfl (mem_at 1 rfl) rfl Tryd.underlying9 rfl) ?_
 refine G_val rfl rfl rfl rfl (V_slen rfl rfl Tryd.underlying9 rfl) ?_
 refine G_val rfl rfl rfl rfl (V_fieldAddr (fo := 2) rfl Tryd.underlying27 rfl infLawTellRequests_9 rfl rfl rfl) ?_
 refine G_val rfl rfl rfl rfl (V_load1 rfl rfl (mem_at 1 rfl) rfl Tryd.underlying9 rfl) ?_
 refine G_val rfl rfl rfl rfl (V_slen rfl rfl Tryd.underlying9 rfl) ?_
 first
   | refine G_val rfl rfl rfl rfl ((V_add rfl rfl rfl).int (wrap_i64 (by omega))) ?_
   | refine G_val rfl rfl rfl rfl (V_add rfl rfl rfl) ?_
 refine G_val rfl rfl rfl rfl (V_fieldAddr (fo := 3) rfl Tryd.underlying27 rfl infLawTellRequests_9 rfl rfl rfl) ?_
 refine G_val rfl rfl rfl rfl (V_load1 rfl rfl (mem_at 1 rfl) rfl Tryd.underlying9 rfl) ?_
 refine G_val rfl rfl rfl rfl (V_slen rfl rfl Tryd.underlying9 rfl) ?_
 first
   | refine G_val rfl rfl rfl rfl ((V_add rfl rfl rfl).int (wrap_i64 (by omega))) ?_
   | refine G_val rfl rfl rfl rfl (V_add rfl rfl rfl) ?_
 refine G_val rfl rfl rfl rfl (V_fieldAddr (fo := 4) rfl Tryd.underlying27 rfl infLawTellRequests_9 rfl rfl rfl) ?_
 refine G_val rfl rfl rfl rfl (V_load1 rfl rfl (mem_at 1 rfl) rfl Tryd.underlying9 rfl) ?_
 refine G_val rfl rfl rfl rfl (V_slen rfl rfl Tryd.underlying9 rfl) ?_
 first
   | refine G_val rfl rfl rfl rfl ((V_add rfl rfl rfl).int (wrap_i64 (by omega))) ?_
   | refine G_val rfl rfl rfl rfl (V_add rfl rfl rfl) ?_
 refine G_val rfl rfl rfl rfl (V_fieldAddr (fo := 5) rfl Tryd.underlying27 rfl infLawTellRequests_9 rfl rfl rfl) ?_
 refine G_val rfl rfl rfl rfl (V_load1 rfl rfl (mem_at 1 rfl) rfl Tryd.underlying9 rfl) ?_
 refine G_val rfl rfl rfl rfl (V_slen rfl rfl Tryd.underlying9 rfl) ?_
 first
   | refine G_val rfl rfl rfl rfl ((V_add rfl rfl rfl).int (wrap_i64 (by omega))) ?_
   | refine G_val rfl rfl rfl rfl (V_add rfl rfl rfl) ?_
 refine G_val rfl rfl rfl rfl (V_fieldAddr (fo := 6) rfl Tryd.underlying27 rfl infLawTellRequests_9 rfl rfl rfl) ?_
 refine G_val rfl rfl rfl rfl (V_load1 rfl rfl (mem_at 1 rfl) rfl Tryd.underlying9 rfl) ?_
 refine G_val rfl rfl rfl rfl (V_slen rfl rfl Tryd.underlying9 rfl) ?_
 first
   | refine G_val rfl rfl rfl rfl ((V_add rfl rfl rfl).int (wrap_i64 (by omega))) ?_
   | refine G_val rfl rfl rfl rfl (V_add rfl rfl rfl) ?_
 refine G_val rfl rfl rfl rfl (V_gtr rfl rfl rfl) ?_
 refine G_val rfl rfl rfl rfl (V_pickF rfl rfl rfl) ?_
 refine G_done ?_
 refine G_ifD rfl (fun hc2 => ?_) (fun hc2 => ?_)
 · skip
   refine G_seq ?_
   refine G_region (l := [0, 1]) rfl ?_
   refine G_call (L2 := [_, _]) rfl rfl rfl rfl rfl rfl Tryd.call6 (tell_live _ _) [] [0] rfl rfl ?_
   rintro v post ⟨rfl, rfl⟩
   show G _ _ _ [_, _] _
   refine G_val rfl rfl rfl rfl (V_assign rfl rfl) ?_
   refine G_done ?_
   refine G_ret (post := []) Tryd.func4 rfl (RVs_cons (RV_tmp rfl) RVs_nil) [] rfl ?_
   dsimp only [packed]
   exact ⟨rfl, rfl⟩
 refine G_skip ?_
 refine G_seq ?_
 have hpT := hp2 (by unfold textsL; omega)
 have hqT := hq2 (by unfold textsL; omega)
 refine GH_start (Lq := [_, _]) (isq := [1, 0]) (m := 6) mixedK rfl rfl ?_
 first
   | refine GH_take 0 rfl rfl rfl rfl (by kernel_rfl) (by kernel_rfl) (by kernel_rfl) (fun _ _ => (V_loadW (s := 17) rfl rfl (mem_at 1 rfl) Tryd.underlying27 rfl infLawTellRequests_27 rfl (by first | rfl | (simp [bcells_length, rqCells]; done) | (simp [bcells_length, rqCells]; omega) | (simp [bcells_length, *, rqCells]; done)))) ?_
   | refine GH_take 0 rfl rfl rfl rfl (by kernel_rfl) (by kernel_rfl) (by kernel_rfl) (fun _ _ => (V_loadA (s := 17) rfl rfl (mem_at 1 rfl) Tryd.underlying27 rfl infLawTellRequests_27 rfl rfl (by first | rfl | (simp [bcells_length, rqCells]; done) | (simp [bcells_length, rqCells]; omega) | (simp [bcells_length, *, rqCells]; done)))) ?_
 first
   | refine GH_take 2 rfl rfl rfl rfl (by kernel_rfl) (by kernel_rfl) (by kernel_rfl) (fun _ _ => (V_loadW (s := 17) rfl rfl (mem_at 2 rfl) Tryd.underlying27 rfl infLawTellRequests_27 rfl (by first | rfl | (simp [bcells_length, rqCells]; done) | (simp [bcells_length, rqCells]; omega) | (simp [bcells_length, *, rqCells]; done)))) ?_
   | refine GH_take 2 rfl rfl rfl rfl (by kernel_rfl) (by kernel_rfl) (by kernel_rfl) (fun _ _ => (V_loadA (s := 17) rfl rfl (mem_at 2 rfl) Tryd.underlying27 rfl infLawTellRequests_27 rfl rfl (by first | rfl | (simp [bcells_length, rqCells]; done) | (simp [bcells_length, rqCells]; omega) | (simp [bcells_length, *, rqCells]; done)))) ?_
 refine GH_all [1] (by kernel_rfl) (by decide) ?_
 refine (And.intro ?_ trivial)
 · skip
   refine GHop_call (L2 := [_, _]) rfl rfl rfl rfl rfl rfl Tryd.call11 (tl_request p hpT T0 r0) [] [0] rfl rfl [1, 0] (by rintro v post ⟨rfl, rfl⟩; exact ⟨_, rfl⟩) ?_
   rintro v post ⟨rfl, rfl⟩
   show GH _ _ _ _ _ _ _ [_, _] _
   refine GH_all [3] (by kernel_rfl) (by decide) ?_
   refine (And.intro ?_ trivial)
   · skip
     refine GHop_call (L2 := [_, _]) rfl rfl rfl rfl rfl rfl Tryd.call11 (tl_request q hqT T0 r0) [] [0] rfl rfl [1, 0] (by rintro v post ⟨rfl, rfl⟩; exact ⟨_, rfl⟩) ?_
     rintro v post ⟨rfl, rfl⟩
     show GH _ _ _ _ _ _ _ [_, _] _
     refine GH_take 4 rfl rfl rfl rfl (by kernel_rfl) (by kernel_rfl) (by kernel_rfl) (fun _ _ => (V_assign rfl rfl)) ?_
     refine GH_take 5 rfl rfl rfl rfl (by kernel_rfl) (by kernel_rfl) (by kernel_rfl) (fun _ _ => (V_assign rfl rfl)) ?_
     refine GH_done (by kernel_rfl) ?_
     refine G_seq ?_
     refine G_seq ?_
     refine G_region (l := [0, 1, 2, 3, 4, 5, 6, 7, 8, 9]) rfl ?_
     refine G_val rfl rfl rfl rfl (V_move rfl rfl) ?_
     first
       | refine G_val rfl rfl rfl rfl (V_loadW (s := 17) rfl rfl (mem_at 2 rfl) Tryd.underlying27 rfl infLawTellRequests_27 rfl (by first | rfl | (simp [bcells_length, rqCells]; done) | (simp [bcells_length, rqCells]; omega) | (simp [bcells_length, *, rqCells]; done))) ?_
       | refine G_val rfl rfl rfl rfl (V_loadA (s := 17) rfl rfl (mem_at 2 rfl) Tryd.underlying27 rfl infLawTellRequests_27 rfl rfl (by first | rfl | (simp [bcells_length, rqCells]; done) | (simp [bcells_length, rqCells]; omega) | (simp [bcells_length, *, rqCells]; done))) ?_
     refine G_call (L2 := [_, _]) rfl rfl rfl rfl rfl rfl Tryd.call12 (rtl_request p hpT) [] [] rfl rfl ?_
     rintro v post ⟨rfl, rfl⟩
     show G _ _ _ [_, _] _
     refine G_val rfl rfl rfl rfl (V_sneq rfl rfl rfl) ?_
     refine G_val rfl rfl rfl rfl (V_move rfl rfl) ?_
     refine G_splitD 66 rfl (fun hc3 => ?_) (fun hc3 => ?_)
     · (first | contradiction | (exact absurd rfl hc3) | (exfalso; omega) | (exact absurd (decide_eq_decide.2 (reqT_clean (may_kind (by simpa using ‹(!rmayQ p) = false›)) (may_kind (by simpa using ‹(!rmayQ q) = false›)))) hc3))
     refine G_val rfl rfl rfl rfl (V_move rfl rfl) ?_
     first
       | refine G_val rfl rfl rfl rfl (V_loadW (s := 17) rfl rfl (mem_at 1 rfl) Tryd.underlying27 rfl infLawTellRequests_27 rfl (by first | rfl | (simp [bcells_length, rqCells]; done) | (simp [bcells_length, rqCells]; omega) | (simp [bcells_length, *, rqCells]; done))) ?_
       | refine G_val rfl rfl rfl rfl (V_loadA (s := 17) rfl rfl (mem_at 1 rfl) Tryd.underlying27 rfl infLawTellRequests_27 rfl rfl (by first | rfl | (simp [bcells_length, rqCells]; done) | (simp [bcells_length, rqCells]; omega) | (simp [bcells_length, *, rqCells]; done))) ?_
     refine G_call (L2 := [_, _]) rfl rfl rfl rfl rfl rfl Tryd.call12 (rtl_request q hqT) [] [] rfl rfl ?_
     rintro v post ⟨rfl, rfl⟩
     show G _ _ _ [_, _] _
     refine G_val rfl rfl rfl rfl (V_sneq rfl rfl rfl) ?_
     refine G_val rfl rfl rfl rfl (V_pickF rfl rfl rfl) ?_
     refine G_done ?_
     refine G_ifD rfl (fun hc4 => ?_) (fun hc4 => ?_)
     · (first | contradiction | (exact absurd rfl hc4) | (exfalso; omega) | (exact absurd (decide_eq_decide.2 (reqT_clean (may_kind (by simpa using ‹(!rmayQ p) = false›)) (may_kind (by simpa using ‹(!rmayQ q) = false›)))) hc4))
     refine G_skip ?_
     refine G_seq ?_
     refine GH_start (Lq := [_, _]) (isq := [1, 0]) (m := 23) mixedK rfl rfl ?_
     first
       | refine GH_take 0 rfl rfl rfl rfl (by kernel_rfl) (by kernel_rfl) (by kernel_rfl) (fun _ _ => (V_loadW (s := 17) rfl rfl (mem_at 1 rfl) Tryd.underlying27 rfl infLawTellRequests_27 rfl (by first | rfl | (simp [bcells_length, rqCells]; done) | (simp [bcells_length, rqCells]; omega) | (simp [bcells_length, *, rqCells]; done)))) ?_
       | refine GH_take 0 rfl rfl rfl rfl (by kernel_rfl) (by kernel_rfl) (by kernel_rfl) (fun _ _ => (V_loadA (s := 17) rfl rfl (mem_at 1 rfl) Tryd.underlying27 rfl infLawTellRequests_27 rfl rfl (by first | rfl | (simp [bcells_length, rqCells]; done) | (simp [bcells_length, rqCells]; omega) | (simp [bcells_length, *, rqCells]; done)))) ?_
     refine GH_all [1] (by kernel_rfl) (by decide) ?_
     refine (And.intro ?_ trivial)
     · skip
       refine GHop_call (L2 := [_, _]) rfl rfl rfl rfl rfl rfl Tryd.call13 (rmsg_may p hp) [] [] rfl rfl [1, 0] (by rintro v post ⟨rfl, rfl⟩; exact ⟨_, rfl⟩) ?_
       rintro v post ⟨rfl, rfl⟩
       show GH _ _ _ _ _ _ _ [_, _] _
       refine GH_take 2 rfl rfl rfl rfl (by kernel_rfl) (by kernel_rfl) (by kernel_rfl) (fun _ _ => (V_not rfl rfl)) ?_
       refine GH_take 3 rfl rfl rfl rfl (by kernel_rfl) (by kernel_rfl) (by kernel_rfl) (fun _ _ => (V_move rfl rfl)) ?_
       refine GH_split 75 rfl (fun hc5 => ?_) (fun hc5 => ?_)
       · skip
         refine GH_takeOff 4 rfl rfl rfl rfl (by kernel_rfl) (by kernel_rfl) (by kernel_rfl) ?_
         refine GH_takeOff 5 rfl rfl rfl rfl (by kernel_rfl) (by kernel_rfl) (by kernel_rfl) ?_
         refine GH_takeOff 6 rfl rfl rfl rfl (by kernel_rfl) (by kernel_rfl) (by kernel_rfl) ?_
         refine GH_take 7 rfl rfl rfl rfl (by kernel_rfl) (by kernel_rfl) (by kernel_rfl) (fun _ _ => (V_pickT rfl rfl rfl)) ?_
         refine GH_take 8 rfl rfl rfl rfl (by kernel_rfl) (by kernel_rfl) (by kernel_rfl) (fun _ _ => (V_move rfl rfl)) ?_
         refine GH_takeOff 9 rfl rfl rfl rfl (by kernel_rfl) (by kernel_rfl) (by kernel_rfl) ?_
         refine GH_takeOff 10 rfl rfl rfl rfl (by kernel_rfl) (by kernel_rfl) (by kernel_rfl) ?_
         refine GH_takeOff 11 rfl rfl rfl rfl (by kernel_rfl) (by kernel_rfl) (by kernel_rfl) ?_
         refine GH_takeOff 12 rfl rfl rfl rfl (by kernel_rfl) (by kernel_rfl) (by kernel_rfl) ?_
         refine GH_takeOff 13 rfl rfl rfl rfl (by kernel_rfl) (by kernel_rfl) (by kernel_rfl) ?_
         refine GH_takeOff 14 rfl rfl rfl rfl (by kernel_rfl) (by kernel_rfl) (by kernel_rfl) ?_
         refine GH_takeOff 15 rfl rfl rfl rfl (by kernel_rfl) (by kernel_rfl) (by kernel_rfl) ?_
         refine GH_takeOff 16 rfl rfl rfl rfl (by kernel_rfl) (by kernel_rfl) (by kernel_rfl) ?_
         refine GH_takeOff 17 rfl rfl rfl rfl (by kernel_rfl) (by kernel_rfl) (by kernel_rfl) ?_
         refine GH_take 18 rfl rfl rfl rfl (by kernel_rfl) (by kernel_rfl) (by kernel_rfl) (fun _ _ => (V_pickT rfl rfl rfl)) ?_
         refine GH_take 19 rfl rfl rfl rfl (by kernel_rfl) (by kernel_rfl) (by kernel_rfl) (fun _ _ => (V_move rfl rfl)) ?_
         refine GH_all [20] (by kernel_rfl) (by decide) ?_
         refine (And.intro ?_ trivial)
         · skip
           refine GHop_call (L2 := [_, _]) rfl rfl rfl rfl rfl rfl Tryd.call6 (tell_live _ _) [] [0] rfl rfl [1, 0] (by rintro v post ⟨rfl, rfl⟩; exact ⟨_, rfl⟩) ?_
           rintro v post ⟨rfl, rfl⟩
           show GH _ _ _ _ _ _ _ [_, _] _
           refine GH_take 21 rfl rfl rfl rfl (by kernel_rfl) (by kernel_rfl) (by kernel_rfl) (fun _ _ => (V_pickT rfl rfl rfl)) ?_
           refine GH_take 22 rfl rfl rfl rfl (by kernel_rfl) (by kernel_rfl) (by kernel_rfl) (fun _ _ => (V_assign rfl rfl)) ?_
           refine GH_done (by kernel_rfl) ?_
           refine G_ret (post := []) Tryd.func4 rfl (RVs_cons (RV_tmp rfl) RVs_nil) [] rfl ?_
           dsimp only [packed]
           exact ⟨rfl, rfl⟩
       first
         | refine GH_take 4 rfl rfl rfl rfl (by kernel_rfl) (by kernel_rfl) (by kernel_rfl) (fun _ _ => (V_loadW (s := 17) rfl rfl (mem_at 2 rfl) Tryd.underlying27 rfl infLawTellRequests_27 rfl (by first | rfl | (simp [bcells_length, rqCells]; done) | (simp [bcells_length, rqCells]; omega) | (simp [bcells_length, *, rqCells]; done)))) ?_
         | refine GH_take 4 rfl rfl rfl rfl (by kernel_rfl) (by kernel_rfl) (by kernel_rfl) (fun _ _ => (V_loadA (s := 17) rfl rfl (mem_at 2 rfl) Tryd.underlying27 rfl infLawTellRequests_27 rfl rfl (by first | rfl | (simp [bcells_length, rqCells]; done) | (simp [bcells_length, rqCells]; omega) | (simp [bcells_length, *, rqCells]; done)))) ?_
       refine GH_all [5] (by kernel_rfl) (by decide) ?_
       refine (And.intro ?_ trivial)
       · skip
         refine GHop_call (L2 := [_, _]) rfl rfl rfl rfl rfl rfl Tryd.call13 (rmsg_may q hq) [] [] rfl rfl [1, 0] (by rintro v post ⟨rfl, rfl⟩; exact ⟨_, rfl⟩) ?_
         rintro v post ⟨rfl, rfl⟩
         show GH _ _ _ _ _ _ _ [_, _] _
         refine GH_take 6 rfl rfl rfl rfl (by kernel_rfl) (by kernel_rfl) (by kernel_rfl) (fun _ _ => (V_not rfl rfl)) ?_
         refine GH_take 7 rfl rfl rfl rfl (by kernel_rfl) (by kernel_rfl) (by kernel_rfl) (fun _ _ => (V_pickF rfl rfl rfl)) ?_
         refine GH_take 8 rfl rfl rfl rfl (by kernel_rfl) (by kernel_rfl) (by kernel_rfl) (fun _ _ => (V_move rfl rfl)) ?_
         refine GH_split 80 rfl (fun hc6 => ?_) (fun hc6 => ?_)
         · skip
           refine GH_takeOff 9 rfl rfl rfl rfl (by kernel_rfl) (by kernel_rfl) (by kernel_rfl) ?_
           refine GH_takeOff 10 rfl rfl rfl rfl (by kernel_rfl) (by kernel_rfl) (by kernel_rfl) ?_
           refine GH_takeOff 11 rfl rfl rfl rfl (by kernel_rfl) (by kernel_rfl) (by kernel_rfl) ?_
           refine GH_takeOff 12 rfl rfl rfl rfl (by kernel_rfl) (by kernel_rfl) (by kernel_rfl) ?_
           refine GH_takeOff 13 rfl rfl rfl rfl (by kernel_rfl) (by kernel_rfl) (by kernel_rfl) ?_
           refine GH_takeOff 14 rfl rfl rfl rfl (by kernel_rfl) (by kernel_rfl) (by kernel_rfl) ?_
           refine GH_takeOff 15 rfl rfl rfl rfl (by kernel_rfl) (by kernel_rfl) (by kernel_rfl) ?_
           refine GH_takeOff 16 rfl rfl rfl rfl (by kernel_rfl) (by kernel_rfl) (by kernel_rfl) ?_
           refine GH_takeOff 17 rfl rfl rfl rfl (by kernel_rfl) (by kernel_rfl) (by kernel_rfl) ?_
           refine GH_take 18 rfl rfl rfl rfl (by kernel_rfl) (by kernel_rfl) (by kernel_rfl) (fun _ _ => (V_pickT rfl rfl rfl)) ?_
           refine GH_take 19 rfl rfl rfl rfl (by kernel_rfl) (by kernel_rfl) (by kernel_rfl) (fun _ _ => (V_move rfl rfl)) ?_
           refine GH_all [20] (by kernel_rfl) (by decide) ?_
           refine (And.intro ?_ trivial)
           · skip
             refine GHop_call (L2 := [_, _]) rfl rfl rfl rfl rfl rfl Tryd.call6 (tell_live _ _) [] [0] rfl rfl [1, 0] (by rintro v post ⟨rfl, rfl⟩; exact ⟨_, rfl⟩) ?_
             rintro v post ⟨rfl, rfl⟩
             show GH _ _ _ _ _ _ _ [_, _] _
             refine GH_take 21 rfl rfl rfl rfl (by kernel_rfl) (by kernel_rfl) (by kernel_rfl) (fun _ _ => (V_pickT rfl rfl rfl)) ?_
             refine GH_take 22 rfl rfl rfl rfl (by kernel_rfl) (by kernel_rfl) (by kernel_rfl) (fun _ _ => (V_assign rfl rfl)) ?_
             refine GH_done (by kernel_rfl) ?_
             refine G_ret (post := []) Tryd.func4 rfl (RVs_cons (RV_tmp rfl) RVs_nil) [] rfl ?_
             dsimp only [packed]
             exact ⟨rfl, rfl⟩
         refine GH_take 9 rfl rfl rfl rfl (by kernel_rfl) (by kernel_rfl) (by kernel_rfl) (fun _ _ => (V_move rfl rfl)) ?_
         refine GH_take 10 rfl rfl rfl rfl (by kernel_rfl) (by kernel_rfl) (by kernel_rfl) (fun _ _ => (V_move rfl rfl)) ?_
         refine GH_take 11 rfl rfl rfl rfl (by kernel_rfl) (by kernel_rfl) (by kernel_rfl) (fun _ _ => (V_seql rfl rfl rfl)) ?_
         first
           | refine GH_take 12 rfl rfl rfl rfl (by kernel_rfl) (by kernel_rfl) (by kernel_rfl) (fun _ _ => (V_loadW (s := 17) rfl rfl (mem_at 1 rfl) Tryd.underlying27 rfl infLawTellRequests_27 rfl (by first | rfl | (simp [bcells_length, rqCells]; done) | (simp [bcells_length, rqCells]; omega) | (simp [bcells_length, *, rqCells]; done)))) ?_
           | refine GH_take 12 rfl rfl rfl rfl (by kernel_rfl) (by kernel_rfl) (by kernel_rfl) (fun _ _ => (V_loadA (s := 17) rfl rfl (mem_at 1 rfl) Tryd.underlying27 rfl infLawTellRequests_27 rfl rfl (by first | rfl | (simp [bcells_length, rqCells]; done) | (simp [bcells_length, rqCells]; omega) | (simp [bcells_length, *, rqCells]; done)))) ?_
         first
           | refine GH_take 14 rfl rfl rfl rfl (by kernel_rfl) (by kernel_rfl) (by kernel_rfl) (fun _ _ => (V_loadW (s := 17) rfl rfl (mem_at 2 rfl) Tryd.underlying27 rfl infLawTellRequests_27 rfl (by first | rfl | (simp [bcells_length, rqCells]; done) | (simp [bcells_length, rqCells]; omega) | (simp [bcells_length, *, rqCells]; done)))) ?_
           | refine GH_take 14 rfl rfl rfl rfl (by kernel_rfl) (by kernel_rfl) (by kernel_rfl) (fun _ _ => (V_loadA (s := 17) rfl rfl (mem_at 2 rfl) Tryd.underlying27 rfl infLawTellRequests_27 rfl rfl (by first | rfl | (simp [bcells_length, rqCells]; done) | (simp [bcells_length, rqCells]; omega) | (simp [bcells_length, *, rqCells]; done)))) ?_
         refine GH_all [13] (by kernel_rfl) (by decide) ?_
         refine (And.intro ?_ trivial)
         · skip
           refine GHop_call (L2 := [_, _]) rfl rfl rfl rfl rfl rfl Tryd.call14 (rmsg_clean p) [] [] rfl rfl [1, 0] (by rintro v post ⟨rfl, rfl⟩; exact ⟨_, rfl⟩) ?_
           rintro v post ⟨rfl, rfl⟩
           show GH _ _ _ _ _ _ _ [_, _] _
           refine GH_all [15] (by kernel_rfl) (by decide) ?_
           refine (And.intro ?_ trivial)
           · skip
             refine GHop_call (L2 := [_, _]) rfl rfl rfl rfl rfl rfl Tryd.call14 (rmsg_clean q) [] [] rfl rfl [1, 0] (by rintro v post ⟨rfl, rfl⟩; exact ⟨_, rfl⟩) ?_
             rintro v post ⟨rfl, rfl⟩
             show GH _ _ _ _ _ _ _ [_, _] _
             refine GH_take 16 rfl rfl rfl rfl (by kernel_rfl) (by kernel_rfl) (by kernel_rfl) (fun _ _ => (V_aggeql (m := 6) rfl Tryd.eqGuardType27 (by kernel_rfl) (by decide) (formed_of Tryd.underlying27 rfl (by kernel_rfl : Tryd.prog.cellsOf 27 = 17) (by first | rfl | (simp [bcells_length, rqCells]; done) | (simp [bcells_length, rqCells]; omega) | (simp [bcells_length, *, rqCells]; done))) (formed_of Tryd.underlying27 rfl (by kernel_rfl : Tryd.prog.cellsOf 27 = 17) (by first | rfl | (simp [bcells_length, rqCells]; done) | (simp [bcells_length, rqCells]; omega) | (simp [bcells_length, *, rqCells]; done))) rfl rfl (key_rq _ (refRq_ok hp)) (key_rq _ (refRq_ok hq)))) ?_
             refine GH_take 17 rfl rfl rfl rfl (by kernel_rfl) (by kernel_rfl) (by kernel_rfl) (fun _ _ => (V_beql rfl Tryd.underlying4 rfl rfl)) ?_
             refine GH_take 18 rfl rfl rfl rfl (by kernel_rfl) (by kernel_rfl) (by kernel_rfl) (fun _ _ => (V_pickF rfl rfl rfl)) ?_
             refine GH_take 19 rfl rfl rfl rfl (by kernel_rfl) (by kernel_rfl) (by kernel_rfl) (fun _ _ => (V_move rfl rfl)) ?_
             refine GH_splitD 91 rfl (fun hc7 => ?_) (fun hc7 => ?_)
             rotate_left
             · (first | contradiction | (exact absurd rfl hc7) | (exfalso; omega) | (exact absurd (decide_eq_decide.2 (reqT_clean (may_kind (by simpa using ‹(!rmayQ p) = false›)) (may_kind (by simpa using ‹(!rmayQ q) = false›)))) hc7))
             refine GH_all [20] (by kernel_rfl) (by decide) ?_
             refine (And.intro ?_ trivial)
             · skip
               refine GHop_call (L2 := [_, _]) rfl rfl rfl rfl rfl rfl Tryd.call6 (tell_live _ _) [] [0] rfl rfl [1, 0] (by rintro v post ⟨rfl, rfl⟩; exact ⟨_, rfl⟩) ?_
               rintro v post ⟨rfl, rfl⟩
               show GH _ _ _ _ _ _ _ [_, _] _
               refine GH_take 21 rfl rfl rfl rfl (by kernel_rfl) (by kernel_rfl) (by kernel_rfl) (fun _ _ => (V_pickT rfl rfl rfl)) ?_
               refine GH_take 22 rfl rfl rfl rfl (by kernel_rfl) (by kernel_rfl) (by kernel_rfl) (fun _ _ => (V_assign rfl rfl)) ?_
               refine GH_done (by kernel_rfl) ?_
               refine G_ret (post := []) Tryd.func4 rfl (RVs_cons (RV_tmp rfl) RVs_nil) [] rfl ?_
               dsimp only [packed]
               exact ⟨rfl, rfl⟩


set_option maxRecDepth 100000 in
theorem rq_light {W : World} {q : Rq} (h : Light Tryd.prog W 27 (rqCells q)) : ∀ i, 1 ≤ i ∧ i ≤ 6 → ((rqCut q).tx i).length ≤ 140737488351232 := by
  intro i hi
  rcases (by omega : i = 1 ∨ i = 2 ∨ i = 3 ∨ i = 4 ∨ i = 5 ∨ i = 6) with rfl | rfl | rfl | rfl | rfl | rfl
  · exact light_str (light_field (s := 1) (vs := [.string (bs (q.tx 1))]) h Tryd.underlying27 1 _ rfl (by kernel_rfl) rfl) Tryd.underlying9
  · exact light_str (light_field (s := 1) (vs := [.string (bs (q.tx 2))]) h Tryd.underlying27 2 _ rfl (by kernel_rfl) rfl) Tryd.underlying9
  · exact light_str (light_field (s := 1) (vs := [.string (bs (q.tx 3))]) h Tryd.underlying27 3 _ rfl (by kernel_rfl) rfl) Tryd.underlying9
  · exact light_str (light_field (s := 1) (vs := [.string (bs (q.tx 4))]) h Tryd.underlying27 4 _ rfl (by kernel_rfl) rfl) Tryd.underlying9
  · exact light_str (light_field (s := 1) (vs := [.string (bs (q.tx 5))]) h Tryd.underlying27 5 _ rfl (by kernel_rfl) rfl) Tryd.underlying9
  · exact light_str (light_field (s := 1) (vs := [.string (bs (q.tx 6))]) h Tryd.underlying27 6 _ rfl (by kernel_rfl) rfl) Tryd.underlying9
set_option maxRecDepth 100000 in
theorem tellRequests_walk : LawWalkW LaidN 4 Tryd.f4 := lawwalk_readsW (fun W base args hX hs hval => by
  obtain ⟨T0, r0, htab⟩ := laid_tab hX
  rw [Tryd.params4] at hs hval
  obtain ⟨l⟩ := args
  match l, hs with
  | [a0, a1], _ =>
    obtain ⟨op, _, wp⟩ := hval 0 27 a0 rfl rfl
    obtain ⟨oq, _, wq⟩ := hval 1 27 a1 rfl rfl
    obtain ⟨p, rfl, hp⟩ := rq_of op
    obtain ⟨q, rfl, hq⟩ := rq_of oq
    have okc : ∀ r : Rq, RqOk r → RqOk (rqCut r) := fun r hr => by
      obtain ⟨h1, h2, h3⟩ := hr
      refine ⟨h1, fun i => ?_, fun i => ?_⟩
      · unfold rqCut; simp only; split
        · exact h2 i
        · simp
      · unfold rqCut; simp only; split
        · exact h3 i
        · omega
    exact ⟨_, has_cons (has_nil _) (fun b hb => by cases hb; exact htab), tellRequests_all (rqCut p) (rqCut q) (okc p hp) (okc q hq) (rq_light wp) (rq_light wq) (fun h => (rqCut_ok hp h).1) (fun h => (rqCut_ok hq h).1) T0 r0⟩)


set_option maxRecDepth 100000 in
theorem tellRequests_lifted (os : Os) (started : os.Started) (H : Type) (enc : TypeId × Value → H) :
    ReturnsInHanded {} Tryd.checked os 4 .any (fun w args => (Rows.tellRequestsSpec.pre enc Tryd.prog Tryd.f4 [] false w args ∧ laidMetH Tryd.prog Rows.tellRequestsRow.laid w) ∧ sizedMet enc Tryd.prog Tryd.f4 (OpenSpec.ofChange Rows.tellRequestsSpec) false w args)
      (Rows.tellRequestsSpec.post enc Tryd.prog Tryd.f4 false true false false) := by
  refine returnsInHanded_of_change_and (C := Tryd.checked) (X := fun w _ => laidMetH Tryd.prog Rows.tellRequestsRow.laid w) (fun _ _ _ hh h => h.of_heap hh) Tryd.ownK started (by kernel_rfl) Tryd.func4
    (ChangeSpec.witness_shaped (enc := enc) (C := Tryd.checked) (os := os) (X := fun w _ => laidMetH Tryd.prog Rows.tellRequestsRow.laid w) false (World.laidAll Tryd.prog os Rows.tellRequestsRow.laid) #[.agg #[.int .i64 0, .string ByteArray.empty, .string ByteArray.empty, .string ByteArray.empty, .string ByteArray.empty, .string ByteArray.empty, .string ByteArray.empty, .int .i64 0, .int .i64 0, .int .i64 0, .int .i64 0, .int .i64 0, .int .i64 0, .int .i64 0, .int .i64 0, .int .i64 0, .bool false], .agg #[.int .i64 0, .string ByteArray.empty, .string ByteArray.empty, .string ByteArray.empty, .string ByteArray.empty, .string ByteArray.empty, .string ByteArray.empty, .int .i64 0, .int .i64 0, .int .i64 0, .int .i64 0, .int .i64 0, .int .i64 0, .int .i64 0, .int .i64 0, .int .i64 0, .bool false]] 8 (World.laidAll_os _ _ _)
      (World.shaped_of_ZipB (by kernel_rfl) (by kernel_rfl)) (by kernel_rfl) (by kernel_rfl) (by kernel_rfl)
      (by rw [MakeChecks.laidMetH_plain _ _ _ (by kernel_rfl)]; exact laidMet_laidAll _ (by kernel_rfl) (by kernel_rfl))) ?_
  intro W base args ds gs before hval hW _ hwt hX _
  exact law_endW (s := Rows.tellRequestsSpec) rfl (by kernel_rfl) (by kernel_rfl) (by decide +kernel) (fun ds h => by match ds, h with | [_, _], _ => rfl) tellRequests_walk W base args ds gs before hval hW hX (fun k hk => of_decide_eq_true (List.all_eq_true.1 hwt k hk))
theorem tellRequests_said : Rows.TellRequestsSaid :=
  OpenClaim.holds_of_wide 4 Tryd.f4 rfl rfl rfl rfl rfl rfl rfl ⟨rfl, rfl, rfl, rfl, rfl⟩ rfl rfl rfl rfl rfl (by kernel_rfl) Tryd.func4 (by kernel_rfl)
    (of_decide_eq_true (by kernel_rfl)) (by unfold Func.isWrapper; first | (rw [if_pos (by decide +kernel)]; kernel_rfl) | (rw [if_neg (by decide +kernel)]; exact ⟨rfl, rfl⟩))
    (fun os started H enc _ => tellRequests_lifted os started H enc)
theorem tellRequests_holds : Rows.TellRequestsCardSaid :=
  Claim7.holds_tied_plain_at .later [] _ _ _ _ tellRequests_said (fun _ h => by cases h) (by kernel_rfl) (fun _ h => by cases h) tellRequests_row_tie rfl ⟨rfl, rfl⟩ (by kernel_rfl) rfl
    (fun f fn hf hfn => by
      obtain rfl : f = 4 := Option.some.inj ((show Tryd.prog.funcNamed "billet/billetlaw45.TellRequests" = some 4 by kernel_rfl).symm.trans hf) |>.symm
      obtain rfl : fn = Tryd.f4 := (Option.some.inj (Tryd.func4.symm.trans hfn)).symm
      exact ⟨by kernel_rfl, fun j t ht => by
        rw [Tryd.params4] at ht
        have hm : t ∈ [27, 27] := by simpa using Array.mem_of_getElem? ht
        have hall : ([27, 27].all fun u => !Tryd.prog.wantsStandIn u) = true := by kernel_rfl
        exact (show Tryd.prog.wantsStandIn t = false by simpa using List.all_eq_true.1 hall t hm)⟩)
    (by kernel_rfl)
#print axioms tellRequests_holds

end
end Go.Proofs.YtkekkalgebgokaaDoor
