/- What the law DumpDecodes needs, part 4.  -/
import Derived.Test.YtjnaeoelnmhjfaaPkDumpDecodes1
import Derived.Test.YtjnaeoelnmhjfaaPkDumpDecodes2
import Derived.Test.YtjnaeoelnmhjfaaPkDumpDecodes3


set_option linter.unusedSimpArgs false
set_option linter.unusedVariables false
namespace Go.Proofs.Ytjnaeoelnmhjfaa
open Go Go.RowKit

section



theorem Rdg.map {α β : Type} {ea : α → List UInt8} {ga : α → Prop} {l l1 : List UInt8} {e e1 : Nat} {a : α} (h : Rdg ea ga l e a l1 e1) {eb : β → List UInt8} {gb : β → Prop} (b : β) (g : β → α) (hb : g b = a) (hi : ∀ x y, gb x → gb y → g x = g y → x = y) (hg : ∀ x, gb x → ga (g x)) (hg' : ga (g b) → gb b) (he : ∀ x, gb x → eb x = ea (g x)) : Rdg eb gb l e b l1 e1 := by
  subst hb
  refine ⟨fun h0 => ?_, fun w r h0 hw hl => ?_, h.len, h.err⟩
  · obtain ⟨x1, x2, x3⟩ := h.back h0
    exact ⟨x1, hg' x2, by rw [he _ (hg' x2)]; exact x3⟩
  · rw [he w hw] at hl
    obtain ⟨x1, x2, x3⟩ := h.forth _ _ h0 (hg w hw) hl
    exact ⟨x1, hi _ _ (hg' (h.back x1).2.1) hw x2, x3⟩
def GI (x : Int) : Prop := badI x = false
def GT (s : List UInt8) : Prop := badT s = false
def GU (n : Nat) : Prop := n < 18446744073709551616
def encU (n : Nat) : List UInt8 := chainI (n : Int)
theorem GI_iff {x : Int} : GI x ↔ 0 ≤ x ∧ x ≤ 1099511627776 := by unfold GI badI; rw [decide_eq_false_iff_not]; omega
theorem GT_iff {s : List UInt8} : GT s ↔ s.length ≤ 200 := by unfold GT badT; rw [decide_eq_false_iff_not]; omega
theorem rdg_I {l l1 : List UInt8} {e e1 n : Nat} (he : e ≤ 1000) (h : rdInt 1099511627776 l e = (n, l1, e1)) : Rdg encI GI l e (n : Int) l1 e1 := by
  have r := rdg_int 1099511627776 l e he (by omega)
  rw [h] at r
  refine ⟨fun h0 => ?_, fun w r' h0 hw hl => ?_, r.len, r.err⟩
  · obtain ⟨x1, x2, x3⟩ := r.back h0
    have x2 : (n : Int) ≤ 1099511627776 := x2
    refine ⟨x1, GI_iff.2 ⟨by omega, x2⟩, ?_⟩
    rw [encI_of (by omega) (by omega)]; exact x3
  · obtain ⟨g1, g2⟩ := GI_iff.1 hw
    obtain ⟨k, rfl⟩ := Int.eq_ofNat_of_zero_le g1
    rw [encI_of (by omega) (by omega)] at hl
    obtain ⟨x1, x2, x3⟩ := r.forth k r' h0 g2 hl
    exact ⟨x1, congrArg (fun z : Nat => (z : Int)) x2, x3⟩
theorem rdg_T {l l1 s : List UInt8} {e e1 : Nat} (he : e ≤ 1000) (h : rdStr 200 l e = (s, l1, e1)) : Rdg text GT l e s l1 e1 := by
  have r := rdg_str 200 l e he (by omega)
  rw [h] at r
  refine ⟨fun h0 => ?_, fun w r' h0 hw hl => ?_, r.len, r.err⟩
  · obtain ⟨x1, x2, x3⟩ := r.back h0
    have x2 : (s.length : Int) ≤ 200 := x2
    exact ⟨x1, GT_iff.2 (by omega), x3⟩
  · exact r.forth w r' h0 (by have := GT_iff.1 hw; show (w.length : Int) ≤ 200; omega) hl
theorem rdg_U {l l1 : List UInt8} {e e1 n : Nat} (he : e ≤ 1000) (h : rdNum l e = (n, l1, e1)) : Rdg encU GU l e n l1 e1 := by
  have r := rdg_num l e he
  rw [h] at r
  exact r
theorem rdg_B {l l1 : List UInt8} {e e1 : Nat} {b : Bool} (he : e ≤ 1000) (h : rdFlag l e = (b, l1, e1)) : Rdg encB (fun _ => True) l e b l1 e1 := by
  have r := rdg_flag l e he
  rw [h] at r
  exact r
def GIs (n : Nat) (xs : List Int) : Prop := xs.length = n ∧ ∀ x ∈ xs, GI x
def GTs (n : Nat) (xs : List (List UInt8)) : Prop := xs.length = n ∧ ∀ x ∈ xs, GT x
theorem rdg_Is {n : Nat} {xs : List Int} {l l1 : List UInt8} {e e1 : Nat} (h : RdgL encI GI n l e n xs l1 e1) : Rdg encIs (GIs n) l e xs l1 e1 := h.done
theorem rdg_Ts {n : Nat} {xs : List (List UInt8)} {l l1 : List UInt8} {e e1 : Nat} (h : RdgL text GT n l e n xs l1 e1) : Rdg encTs (GTs n) l e xs l1 e1 := h.done
theorem Xi {xs : List Int} : (∀ x ∈ xs, GI x) ↔ xs.any badI = false := by simp [List.any_eq_false, GI]
theorem gts_any {xs : List (List UInt8)} : (∀ x ∈ xs, GT x) ↔ xs.any badT = false := by simp [List.any_eq_false, GT]
def GL {α : Type} (g : α → Prop) (l : List α) : Prop := (l.length : Int) ≤ 1000 ∧ ∀ x ∈ l, g x
theorem rdg_L {α : Type} {enc : α → List UInt8} {g : α → Prop} {n : Nat} {vs : List α} {l l0 l1 : List UInt8} {e e0 e1 : Nat} (he : e ≤ 1000) (h0 : rdInt 1000 l e = (n, l0, e0)) (h : RdgL enc g n l0 e0 n vs l1 e1) : Rdg (encL enc) (GL g) l e vs l1 e1 := by
  have r := rdg_int 1000 l e he (by omega)
  rw [h0] at r
  exact rdg_list r h.done
theorem rdg_Lbad {α : Type} {enc : α → List UInt8} {g : α → Prop} {n i : Nat} {vs : List α} {l l0 l1 : List UInt8} {e e0 e1 : Nat} (he : e ≤ 1000) (h0 : rdInt 1000 l e = (n, l0, e0)) (h : RdgL enc g n l0 e0 i vs l1 e1) (h1 : e1 ≠ 0) (us : List α) : Rdg (encL enc) (GL g) l e us l1 e1 := by
  have r := rdg_int 1000 l e he (by omega)
  rw [h0] at r
  exact rdg_list r (h.bad h1)
theorem rd_n {l l1 : List UInt8} {e e1 n : Nat} (he : e ≤ 1000) (h : rdInt 1000 l e = (n, l1, e1)) : n ≤ 1000 ∧ l1.length ≤ l.length ∧ e1 ≤ 1000 := by
  have := rdInt_bd 1000 l e he (by omega)
  rw [h] at this
  obtain ⟨a, b, c⟩ := this
  exact ⟨by omega, b, c⟩
theorem badL_iff {α : Type} {f : α → Bool} {l : List α} : badL f l = false ↔ (l.length : Int) ≤ 1000 ∧ ∀ x ∈ l, f x = false := by
  unfold badL
  rw [Bool.or_eq_false_iff, decide_eq_false_iff_not]
  simp [List.any_eq_false, Int.not_lt]

def GOp (x : Op) : Prop := badOp x = false ∧ OkOp x
theorem gOp_iff {x : Op} : GOp x ↔ ([x.v0, x.v1, x.v2, x.v6, x.v7, x.v8, x.v9, x.v10, x.v11, x.v12, x.v13, x.v14].any badI = false ∧ [x.v3, x.v4, x.v5].any badT = false) ∧ OkOp x := by
  unfold GOp badOp
  simp only [Bool.or_eq_false_iff, and_assoc]
theorem rdgOp {l l1 l2 l3 l4 l5 : List UInt8} {e e1 e2 e3 e4 e5 : Nat} {x : Op} (r0 : Rdg encIs (GIs 12) l e [x.v0, x.v1, x.v2, x.v6, x.v7, x.v8, x.v9, x.v10, x.v11, x.v12, x.v13, x.v14] l1 e1) (r1 : Rdg encTs (GTs 3) l1 e1 [x.v3, x.v4, x.v5] l2 e2) (r2 : Rdg encU (GU) l2 e2 x.v15 l3 e3) (r3 : Rdg encU (GU) l3 e3 x.v16 l4 e4) (r4 : Rdg encU (GU) l4 e4 x.v17 l5 e5) : Rdg encOp GOp l e x l5 e5 := by
  refine Rdg.map ((((r0.pair r1).pair r2).pair r3).pair r4) x (fun x => (((([x.v0, x.v1, x.v2, x.v6, x.v7, x.v8, x.v9, x.v10, x.v11, x.v12, x.v13, x.v14], [x.v3, x.v4, x.v5]), x.v15), x.v16), x.v17)) rfl (fun x y _ _ h => ?_) (fun x h => ?_) (fun h => ?_) (fun x _ => ?_)
  · obtain ⟨x0, x1, x2, x3, x4, x5, x6, x7, x8, x9, x10, x11, x12, x13, x14, x15, x16, x17⟩ := x
    obtain ⟨y0, y1, y2, y3, y4, y5, y6, y7, y8, y9, y10, y11, y12, y13, y14, y15, y16, y17⟩ := y
    simp only [Prod.mk.injEq, List.cons.injEq, and_true] at h
    simp only [Op.mk.injEq]
    grind
  · obtain ⟨⟨b0, b1⟩, ⟨u2, u3, u4⟩⟩ := gOp_iff.1 h
    exact ⟨⟨⟨⟨⟨rfl, Xi.2 b0⟩, ⟨rfl, gts_any.2 b1⟩⟩, u2⟩, u3⟩, u4⟩
  · obtain ⟨⟨⟨⟨a0, a1⟩, a2⟩, a3⟩, a4⟩ := h
    exact gOp_iff.2 ⟨⟨Xi.1 a0.2, gts_any.1 a1.2⟩, ⟨a2, a3, a4⟩⟩
  · simp only [encOp, encU, List.append_assoc]
def GWk (x : Wk) : Prop := badWk x = false ∧ OkWk x
theorem gWk_iff {x : Wk} : GWk x ↔ ([x.v0, x.v1, x.v2].any badI = false ∧ [x.v3, x.v4].any badT = false) ∧ OkWk x := by
  unfold GWk badWk
  simp only [Bool.or_eq_false_iff, and_assoc]
theorem rdgWk {l l1 l2 l3 l4 : List UInt8} {e e1 e2 e3 e4 : Nat} {x : Wk} (r0 : Rdg encIs (GIs 3) l e [x.v0, x.v1, x.v2] l1 e1) (r1 : Rdg encTs (GTs 2) l1 e1 [x.v3, x.v4] l2 e2) (r2 : Rdg encB (fun _ => True) l2 e2 x.v5 l3 e3) (r3 : Rdg encU (GU) l3 e3 x.v6 l4 e4) : Rdg encWk GWk l e x l4 e4 := by
  refine Rdg.map (((r0.pair r1).pair r2).pair r3) x (fun x => ((([x.v0, x.v1, x.v2], [x.v3, x.v4]), x.v5), x.v6)) rfl (fun x y _ _ h => ?_) (fun x h => ?_) (fun h => ?_) (fun x _ => ?_)
  · obtain ⟨x0, x1, x2, x3, x4, x5, x6⟩ := x
    obtain ⟨y0, y1, y2, y3, y4, y5, y6⟩ := y
    simp only [Prod.mk.injEq, List.cons.injEq, and_true] at h
    simp only [Wk.mk.injEq]
    grind
  · obtain ⟨⟨b0, b1⟩, u3⟩ := gWk_iff.1 h
    exact ⟨⟨⟨⟨rfl, Xi.2 b0⟩, ⟨rfl, gts_any.2 b1⟩⟩, trivial⟩, u3⟩
  · obtain ⟨⟨⟨a0, a1⟩, a2⟩, a3⟩ := h
    exact gWk_iff.2 ⟨⟨Xi.1 a0.2, gts_any.1 a1.2⟩, a3⟩
  · simp only [encWk, encU, List.append_assoc]
def GIv (x : Iv) : Prop := badIv x = false ∧ OkIv x
theorem gIv_iff {x : Iv} : GIv x ↔ ([x.v0, x.v1, x.v3, x.v4].any badI = false ∧ [x.v2].any badT = false) ∧ OkIv x := by
  unfold GIv badIv
  simp only [Bool.or_eq_false_iff, and_assoc]
theorem rdgIv {l l1 l2 : List UInt8} {e e1 e2 : Nat} {x : Iv} (r0 : Rdg encIs (GIs 4) l e [x.v0, x.v1, x.v3, x.v4] l1 e1) (r1 : Rdg encTs (GTs 1) l1 e1 [x.v2] l2 e2) : Rdg encIv GIv l e x l2 e2 := by
  refine Rdg.map (r0.pair r1) x (fun x => ([x.v0, x.v1, x.v3, x.v4], [x.v2])) rfl (fun x y _ _ h => ?_) (fun x h => ?_) (fun h => ?_) (fun x _ => ?_)
  · obtain ⟨x0, x1, x2, x3, x4⟩ := x
    obtain ⟨y0, y1, y2, y3, y4⟩ := y
    simp only [Prod.mk.injEq, List.cons.injEq, and_true] at h
    simp only [Iv.mk.injEq]
    grind
  · obtain ⟨⟨b0, b1⟩, _⟩ := gIv_iff.1 h
    exact ⟨⟨rfl, Xi.2 b0⟩, ⟨rfl, gts_any.2 b1⟩⟩
  · obtain ⟨a0, a1⟩ := h
    exact gIv_iff.2 ⟨⟨Xi.1 a0.2, gts_any.1 a1.2⟩, trivial⟩
  · simp only [encIv, encU, List.append_assoc]
def GHr (x : Hr) : Prop := badHr x = false ∧ OkHr x
theorem gHr_iff {x : Hr} : GHr x ↔ ([x.v0].any badT = false ∧ [x.v1, x.v2, x.v3, x.v4, x.v5, x.v6, x.v7, x.v8, x.v9, x.v10, x.v11, x.v12, x.v13, x.v14, x.v15, x.v16].any badI = false) ∧ OkHr x := by
  unfold GHr badHr
  simp only [Bool.or_eq_false_iff, and_assoc]
theorem rdgHr {l l1 l2 : List UInt8} {e e1 e2 : Nat} {x : Hr} (r0 : Rdg encTs (GTs 1) l e [x.v0] l1 e1) (r1 : Rdg encIs (GIs 16) l1 e1 [x.v1, x.v2, x.v3, x.v4, x.v5, x.v6, x.v7, x.v8, x.v9, x.v10, x.v11, x.v12, x.v13, x.v14, x.v15, x.v16] l2 e2) : Rdg encHr GHr l e x l2 e2 := by
  refine Rdg.map (r0.pair r1) x (fun x => ([x.v0], [x.v1, x.v2, x.v3, x.v4, x.v5, x.v6, x.v7, x.v8, x.v9, x.v10, x.v11, x.v12, x.v13, x.v14, x.v15, x.v16])) rfl (fun x y _ _ h => ?_) (fun x h => ?_) (fun h => ?_) (fun x _ => ?_)
  · obtain ⟨x0, x1, x2, x3, x4, x5, x6, x7, x8, x9, x10, x11, x12, x13, x14, x15, x16⟩ := x
    obtain ⟨y0, y1, y2, y3, y4, y5, y6, y7, y8, y9, y10, y11, y12, y13, y14, y15, y16⟩ := y
    simp only [Prod.mk.injEq, List.cons.injEq, and_true] at h
    simp only [Hr.mk.injEq]
    grind
  · obtain ⟨⟨b0, b1⟩, _⟩ := gHr_iff.1 h
    exact ⟨⟨rfl, gts_any.2 b0⟩, ⟨rfl, Xi.2 b1⟩⟩
  · obtain ⟨a0, a1⟩ := h
    exact gHr_iff.2 ⟨⟨gts_any.1 a0.2, Xi.1 a1.2⟩, trivial⟩
  · simp only [encHr, encU, List.append_assoc]
def GLt (x : Lt) : Prop := badLt x = false ∧ OkLt x
theorem gLt_iff {x : Lt} : GLt x ↔ ([x.v0, x.v1, x.v2, x.v3].any badI = false ∧ [x.v4].any badT = false) ∧ OkLt x := by
  unfold GLt badLt
  simp only [Bool.or_eq_false_iff, and_assoc]
theorem rdgLt {l l1 l2 l3 : List UInt8} {e e1 e2 e3 : Nat} {x : Lt} (r0 : Rdg encIs (GIs 4) l e [x.v0, x.v1, x.v2, x.v3] l1 e1) (r1 : Rdg encTs (GTs 1) l1 e1 [x.v4] l2 e2) (r2 : Rdg encU (GU) l2 e2 x.v5 l3 e3) : Rdg encLt GLt l e x l3 e3 := by
  refine Rdg.map ((r0.pair r1).pair r2) x (fun x => (([x.v0, x.v1, x.v2, x.v3], [x.v4]), x.v5)) rfl (fun x y _ _ h => ?_) (fun x h => ?_) (fun h => ?_) (fun x _ => ?_)
  · obtain ⟨x0, x1, x2, x3, x4, x5⟩ := x
    obtain ⟨y0, y1, y2, y3, y4, y5⟩ := y
    simp only [Prod.mk.injEq, List.cons.injEq, and_true] at h
    simp only [Lt.mk.injEq]
    grind
  · obtain ⟨⟨b0, b1⟩, u2⟩ := gLt_iff.1 h
    exact ⟨⟨⟨rfl, Xi.2 b0⟩, ⟨rfl, gts_any.2 b1⟩⟩, u2⟩
  · obtain ⟨⟨a0, a1⟩, a2⟩ := h
    exact gLt_iff.2 ⟨⟨Xi.1 a0.2, gts_any.1 a1.2⟩, a2⟩
  · simp only [encLt, encU, List.append_assoc]
def GWt (x : Wt) : Prop := badWt x = false ∧ OkWt x
theorem gWt_iff {x : Wt} : GWt x ↔ ([x.v0].any badT = false ∧ [x.v1].any badI = false) ∧ OkWt x := by
  unfold GWt badWt
  simp only [Bool.or_eq_false_iff, and_assoc]
theorem rdgWt {l l1 l2 : List UInt8} {e e1 e2 : Nat} {x : Wt} (r0 : Rdg encTs (GTs 1) l e [x.v0] l1 e1) (r1 : Rdg encIs (GIs 1) l1 e1 [x.v1] l2 e2) : Rdg encWt GWt l e x l2 e2 := by
  refine Rdg.map (r0.pair r1) x (fun x => ([x.v0], [x.v1])) rfl (fun x y _ _ h => ?_) (fun x h => ?_) (fun h => ?_) (fun x _ => ?_)
  · obtain ⟨x0, x1⟩ := x
    obtain ⟨y0, y1⟩ := y
    simp only [Prod.mk.injEq, List.cons.injEq, and_true] at h
    simp only [Wt.mk.injEq]
    grind
  · obtain ⟨⟨b0, b1⟩, _⟩ := gWt_iff.1 h
    exact ⟨⟨rfl, gts_any.2 b0⟩, ⟨rfl, Xi.2 b1⟩⟩
  · obtain ⟨a0, a1⟩ := h
    exact gWt_iff.2 ⟨⟨gts_any.1 a0.2, Xi.1 a1.2⟩, trivial⟩
  · simp only [encWt, encU, List.append_assoc]
def GIt (x : It) : Prop := badIt x = false ∧ OkIt x
theorem gIt_iff {x : It} : GIt x ↔ ([x.v0, x.v1].any badI = false) ∧ OkIt x := by
  unfold GIt badIt
  exact Iff.rfl
theorem rdgIt {l l1 : List UInt8} {e e1 : Nat} {x : It} (r0 : Rdg encIs (GIs 2) l e [x.v0, x.v1] l1 e1) : Rdg encIt GIt l e x l1 e1 := by
  refine Rdg.map r0 x (fun x => [x.v0, x.v1]) rfl (fun x y _ _ h => ?_) (fun x h => ?_) (fun h => ?_) (fun x _ => ?_)
  · obtain ⟨x0, x1⟩ := x
    obtain ⟨y0, y1⟩ := y
    simp only [Prod.mk.injEq, List.cons.injEq, and_true] at h
    simp only [It.mk.injEq]
    grind
  · obtain ⟨b0, _⟩ := gIt_iff.1 h
    exact ⟨rfl, Xi.2 b0⟩
  · have a0 := h
    exact gIt_iff.2 ⟨Xi.1 a0.2, trivial⟩
  · simp only [encIt, encU, List.append_assoc]


/-- What a dump tells, plainly. -/
structure PF where
  v0 : Int
  v1 : Int
  v2 : Int
  l : List It
structure PT where
  v0 : Int
  v1 : Int
  v2 : Int
  g : Bool
  l : List PF
structure PC where
  v0 : Int
  g : Bool
  l : List PT
structure PP where
  n : List UInt8
  u : Int
  ev : Bool
  l : List PC
structure PS where
  v0 : Nat
  g : Bool
  v2 : Int
  v3 : Int
  v4 : Int
  v5 : Int
  v6 : Int
  li : List Op
  en : List Op
  wo : List Wk
  iv : List Iv
  po : List PP
  hi : List Hr
  le : List Lt
  wa : List Wt
def encPF (x : PF) : List UInt8 := encIs [x.v0, x.v1, x.v2] ++ encL encIt x.l
def badPF (x : PF) : Bool := [x.v0, x.v1, x.v2].any badI || badL badIt x.l
def encPT (x : PT) : List UInt8 := encIs [x.v0, x.v1, x.v2] ++ (encB x.g ++ encL encPF x.l)
def badPT (x : PT) : Bool := [x.v0, x.v1, x.v2].any badI || badL badPF x.l
def encPC (x : PC) : List UInt8 := encIs [x.v0] ++ (encB x.g ++ encL encPT x.l)
def badPC (x : PC) : Bool := [x.v0].any badI || badL badPT x.l
def encPP (x : PP) : List UInt8 := encTs [x.n] ++ (encIs [x.u] ++ (if x.ev then encL encPC x.l else []))
def badPP (x : PP) : Bool := [x.n].any badT || ([x.u].any badI || (if x.ev then badL badPC x.l else true))
def encPS (x : PS) : List UInt8 := encU x.v0 ++ (encB x.g ++ (encIs [x.v2, x.v3, x.v4, x.v5, x.v6] ++ (encL encOp x.li ++ (encL encOp x.en ++ (encL encWk x.wo ++ (encL encIv x.iv ++ (encL encPP x.po ++ (encL encHr x.hi ++ (encL encLt x.le ++ encL encWt x.wa)))))))))
def badPS (x : PS) : Bool := [x.v2, x.v3, x.v4, x.v5, x.v6].any badI || (badL badOp x.li || (badL badOp x.en || (badL badWk x.wo || (badL badIv x.iv || (badL badPP x.po || (badL badHr x.hi || (badL badLt x.le || badL badWt x.wa)))))))
def OkPS (x : PS) : Prop := x.v0 < 18446744073709551616 ∧ (∀ y ∈ x.li, OkOp y) ∧ (∀ y ∈ x.en, OkOp y) ∧ (∀ y ∈ x.wo, OkWk y) ∧ (∀ y ∈ x.le, OkLt y)
def GPF (x : PF) : Prop := badPF x = false
def GPT (x : PT) : Prop := badPT x = false
def GPC (x : PC) : Prop := badPC x = false
def GPP (x : PP) : Prop := badPP x = false ∧ x.ev = true
def GPS (x : PS) : Prop := badPS x = false ∧ OkPS x
theorem gl_it {l : List It} : GL GIt l ↔ badL badIt l = false := by rw [badL_iff]; exact ⟨fun h => ⟨h.1, fun x hx => (h.2 x hx).1⟩, fun h => ⟨h.1, fun x hx => ⟨h.2 x hx, trivial⟩⟩⟩
theorem gl_bad {α : Type} {f : α → Bool} {l : List α} : GL (fun x => f x = false) l ↔ badL f l = false := badL_iff.symm
theorem gl_iff {α : Type} {f : α → Bool} {ok : α → Prop} {l : List α} : GL (fun x => f x = false ∧ ok x) l ↔ badL f l = false ∧ ∀ x ∈ l, ok x := by
  rw [badL_iff]; exact ⟨fun h => ⟨⟨h.1, fun x hx => (h.2 x hx).1⟩, fun x hx => (h.2 x hx).2⟩, fun h => ⟨h.1.1, fun x hx => ⟨h.1.2 x hx, h.2 x hx⟩⟩⟩
theorem gl_pp {l : List PP} : GL GPP l ↔ badL badPP l = false := by
  refine gl_iff.trans ⟨fun h => h.1, fun h => ⟨h, fun x hx => ?_⟩⟩
  have := (badL_iff.1 h).2 x hx
  unfold badPP at this
  cases hev : x.ev with
  | true => rfl
  | false => rw [hev] at this; simp at this
theorem gPF_iff {x : PF} : GPF x ↔ [x.v0, x.v1, x.v2].any badI = false ∧ GL GIt x.l := by rw [gl_it]; unfold GPF badPF; rw [Bool.or_eq_false_iff]
theorem gPT_iff {x : PT} : GPT x ↔ [x.v0, x.v1, x.v2].any badI = false ∧ GL GPF x.l := by rw [show GL GPF x.l ↔ _ from gl_bad]; unfold GPT badPT; rw [Bool.or_eq_false_iff]
theorem gPC_iff {x : PC} : GPC x ↔ [x.v0].any badI = false ∧ GL GPT x.l := by rw [show GL GPT x.l ↔ _ from gl_bad]; unfold GPC badPC; rw [Bool.or_eq_false_iff]
theorem gPP_iff {x : PP} : GPP x ↔ [x.n].any badT = false ∧ [x.u].any badI = false ∧ GL GPC x.l ∧ x.ev = true := by
  rw [show GL GPC x.l ↔ _ from gl_bad]; unfold GPP badPP
  cases hev : x.ev <;> simp [Bool.or_eq_false_iff, and_assoc]
theorem rdgPF {l l1 l2 : List UInt8} {e e1 e2 : Nat} {x : PF} (r0 : Rdg encIs (GIs 3) l e [x.v0, x.v1, x.v2] l1 e1) (r1 : Rdg (encL encIt) (GL GIt) l1 e1 x.l l2 e2) : Rdg encPF GPF l e x l2 e2 := by
  refine Rdg.map (r0.pair r1) x (fun x => ([x.v0, x.v1, x.v2], x.l)) rfl (fun x y _ _ h => ?_) (fun x h => ?_) (fun h => ?_) (fun x _ => rfl)
  · obtain ⟨x0, x1, x2, x3⟩ := x
    obtain ⟨y0, y1, y2, y3⟩ := y
    simp only [Prod.mk.injEq, List.cons.injEq, and_true] at h
    simp only [PF.mk.injEq]; grind
  · obtain ⟨b0, b1⟩ := gPF_iff.1 h
    exact ⟨⟨rfl, Xi.2 b0⟩, b1⟩
  · exact gPF_iff.2 ⟨Xi.1 h.1.2, h.2⟩
theorem rdgPT {l l1 l2 l3 : List UInt8} {e e1 e2 e3 : Nat} {x : PT} (r0 : Rdg encIs (GIs 3) l e [x.v0, x.v1, x.v2] l1 e1) (r1 : Rdg encB (fun _ => True) l1 e1 x.g l2 e2) (r2 : Rdg (encL encPF) (GL GPF) l2 e2 x.l l3 e3) : Rdg encPT GPT l e x l3 e3 := by
  refine Rdg.map ((r0.pair r1).pair r2) x (fun x => (([x.v0, x.v1, x.v2], x.g), x.l)) rfl (fun x y _ _ h => ?_) (fun x h => ?_) (fun h => ?_) (fun x _ => by simp only [encPT, List.append_assoc])
  · obtain ⟨x0, x1, x2, x3, x4⟩ := x
    obtain ⟨y0, y1, y2, y3, y4⟩ := y
    simp only [Prod.mk.injEq, List.cons.injEq, and_true] at h
    simp only [PT.mk.injEq]; grind
  · obtain ⟨b0, b1⟩ := gPT_iff.1 h
    exact ⟨⟨⟨rfl, Xi.2 b0⟩, trivial⟩, b1⟩
  · exact gPT_iff.2 ⟨Xi.1 h.1.1.2, h.2⟩
theorem rdgPC {l l1 l2 l3 : List UInt8} {e e1 e2 e3 : Nat} {x : PC} (r0 : Rdg encIs (GIs 1) l e [x.v0] l1 e1) (r1 : Rdg encB (fun _ => True) l1 e1 x.g l2 e2) (r2 : Rdg (encL encPT) (GL GPT) l2 e2 x.l l3 e3) : Rdg encPC GPC l e x l3 e3 := by
  refine Rdg.map ((r0.pair r1).pair r2) x (fun x => (([x.v0], x.g), x.l)) rfl (fun x y _ _ h => ?_) (fun x h => ?_) (fun h => ?_) (fun x _ => by simp only [encPC, List.append_assoc])
  · obtain ⟨x0, x3, x4⟩ := x
    obtain ⟨y0, y3, y4⟩ := y
    simp only [Prod.mk.injEq, List.cons.injEq, and_true] at h
    simp only [PC.mk.injEq]; grind
  · obtain ⟨b0, b1⟩ := gPC_iff.1 h
    exact ⟨⟨⟨rfl, Xi.2 b0⟩, trivial⟩, b1⟩
  · exact gPC_iff.2 ⟨Xi.1 h.1.1.2, h.2⟩
theorem rdgPP {l l1 l2 l3 : List UInt8} {e e1 e2 e3 : Nat} {x : PP} (hx : x.ev = true) (r0 : Rdg encTs (GTs 1) l e [x.n] l1 e1) (r1 : Rdg encIs (GIs 1) l1 e1 [x.u] l2 e2) (r2 : Rdg (encL encPC) (GL GPC) l2 e2 x.l l3 e3) : Rdg encPP GPP l e x l3 e3 := by
  refine Rdg.map ((r0.pair r1).pair r2) x (fun x => (([x.n], [x.u]), x.l)) rfl (fun x y hx hy h => ?_) (fun x h => ?_) (fun h => ?_) (fun x h => by simp only [encPP, if_pos h.2, List.append_assoc])
  · obtain ⟨x0, x3, x4, x5⟩ := x
    obtain ⟨y0, y3, y4, y5⟩ := y
    have h1 := hx.2
    have h2 := hy.2
    simp only [Prod.mk.injEq, List.cons.injEq, and_true] at h h1 h2
    simp only [PP.mk.injEq]; grind
  · obtain ⟨b0, b1, b2, b3⟩ := gPP_iff.1 h
    exact ⟨⟨⟨rfl, gts_any.2 b0⟩, ⟨rfl, Xi.2 b1⟩⟩, b2⟩
  · exact gPP_iff.2 ⟨gts_any.1 h.1.1.2, Xi.1 h.1.2.2, h.2, hx⟩
theorem gl_op {l : List Op} : GL GOp l ↔ badL badOp l = false ∧ ∀ x ∈ l, OkOp x := gl_iff
theorem gl_wk {l : List Wk} : GL GWk l ↔ badL badWk l = false ∧ ∀ x ∈ l, OkWk x := gl_iff
theorem gl_lt {l : List Lt} : GL GLt l ↔ badL badLt l = false ∧ ∀ x ∈ l, OkLt x := gl_iff
theorem gl_iv {l : List Iv} : GL GIv l ↔ badL badIv l = false := gl_iff.trans ⟨fun h => h.1, fun h => ⟨h, fun _ _ => trivial⟩⟩
theorem gl_hr {l : List Hr} : GL GHr l ↔ badL badHr l = false := gl_iff.trans ⟨fun h => h.1, fun h => ⟨h, fun _ _ => trivial⟩⟩
theorem gl_wt {l : List Wt} : GL GWt l ↔ badL badWt l = false := gl_iff.trans ⟨fun h => h.1, fun h => ⟨h, fun _ _ => trivial⟩⟩
theorem gPS_iff {x : PS} : GPS x ↔ GU x.v0 ∧ [x.v2, x.v3, x.v4, x.v5, x.v6].any badI = false ∧ GL GOp x.li ∧ GL GOp x.en ∧ GL GWk x.wo ∧ GL GIv x.iv ∧ GL GPP x.po ∧ GL GHr x.hi ∧ GL GLt x.le ∧ GL GWt x.wa := by
  rw [gl_op, gl_op, gl_wk, gl_iv, gl_pp, gl_hr, gl_lt, gl_wt]
  unfold GPS badPS OkPS GU
  simp only [Bool.or_eq_false_iff]
  constructor
  · rintro ⟨⟨a0, a1, a2, a3, a4, a5, a6, a7, a8⟩, b0, b1, b2, b3, b4⟩
    exact ⟨b0, a0, ⟨a1, b1⟩, ⟨a2, b2⟩, ⟨a3, b3⟩, a4, a5, a6, ⟨a7, b4⟩, a8⟩
  · rintro ⟨b0, a0, ⟨a1, b1⟩, ⟨a2, b2⟩, ⟨a3, b3⟩, a4, a5, a6, ⟨a7, b4⟩, a8⟩
    exact ⟨⟨a0, a1, a2, a3, a4, a5, a6, a7, a8⟩, b0, b1, b2, b3, b4⟩
theorem rdgPS {l l1 l2 l3 l4 l5 l6 l7 l8 l9 la lb : List UInt8} {e e1 e2 e3 e4 e5 e6 e7 e8 e9 ea eb : Nat} {x : PS} (r0 : Rdg encU GU l e x.v0 l1 e1) (r1 : Rdg encB (fun _ => True) l1 e1 x.g l2 e2) (r2 : Rdg encIs (GIs 5) l2 e2 [x.v2, x.v3, x.v4, x.v5, x.v6] l3 e3)
    (r3 : Rdg (encL encOp) (GL GOp) l3 e3 x.li l4 e4) (r4 : Rdg (encL encOp) (GL GOp) l4 e4 x.en l5 e5) (r5 : Rdg (encL encWk) (GL GWk) l5 e5 x.wo l6 e6) (r6 : Rdg (encL encIv) (GL GIv) l6 e6 x.iv l7 e7) (r7 : Rdg (encL encPP) (GL GPP) l7 e7 x.po l8 e8) (r8 : Rdg (encL encHr) (GL GHr) l8 e8 x.hi l9 e9) (r9 : Rdg (encL encLt) (GL GLt) l9 e9 x.le la ea) (r10 : Rdg (encL encWt) (GL GWt) la ea x.wa lb eb) : Rdg encPS GPS l e x lb eb := by
  refine Rdg.map ((((((((((r0.pair r1).pair r2).pair r3).pair r4).pair r5).pair r6).pair r7).pair r8).pair r9).pair r10) x (fun x => ((((((((((x.v0, x.g), [x.v2, x.v3, x.v4, x.v5, x.v6]), x.li), x.en), x.wo), x.iv), x.po), x.hi), x.le), x.wa)) rfl (fun x y hx hy h => ?_) (fun x h => ?_) (fun h => ?_) (fun x h => by simp only [encPS, List.append_assoc])
  · obtain ⟨x0, x1, x2, x3, x4, x5, x6, x7, x8, x9, x10, x11, x12, x13, x14⟩ := x
    obtain ⟨y0, y1, y2, y3, y4, y5, y6, y7, y8, y9, y10, y11, y12, y13, y14⟩ := y
    simp only [Prod.mk.injEq, List.cons.injEq, and_true] at h
    simp only [PS.mk.injEq]; grind
  · obtain ⟨a0, a1, a2, a3, a4, a5, a6, a7, a8, a9⟩ := gPS_iff.1 h
    exact ⟨⟨⟨⟨⟨⟨⟨⟨⟨⟨a0, trivial⟩, ⟨rfl, Xi.2 a1⟩⟩, a2⟩, a3⟩, a4⟩, a5⟩, a6⟩, a7⟩, a8⟩, a9⟩
  · obtain ⟨⟨⟨⟨⟨⟨⟨⟨⟨⟨a0, _⟩, a1⟩, a2⟩, a3⟩, a4⟩, a5⟩, a6⟩, a7⟩, a8⟩, a9⟩ := h
    exact gPS_iff.2 ⟨a0, Xi.1 a1.2, a2, a3, a4, a5, a6, a7, a8, a9⟩

end
end Go.Proofs.Ytjnaeoelnmhjfaa

set_option linter.unusedSimpArgs false
set_option linter.unusedVariables false
namespace Go.Proofs.Ytjnaeoelnmhjfaa
open Go Go.RowKit

section



def vFl (x : Fl) : PF := ⟨x.v0, x.v1, x.v2, x.s.l⟩
def vTn (x : Tn) : PT := ⟨x.v0, x.v1, x.v2, x.g, x.s.l.map vFl⟩
def vCl (x : Cl) : PC := ⟨x.v0, x.g, x.s.l.map vTn⟩
def vPo (x : Po) : PP := ⟨x.n, x.u, decide (EvenPo x), if EvenPo x then (clsOf x).map vCl else []⟩
def vSt (x : St) : PS := ⟨x.v0, x.g, x.v2, x.v3, x.v4, x.v5, x.v6, x.li.l, x.en.l, x.wo.l, x.iv.l, x.po.l.map vPo, x.hi.l, x.le.l, x.wa.l⟩
theorem encL_map {α β : Type} {v : α → β} {f : α → List UInt8} {g : β → List UInt8} (h : ∀ x, f x = g (v x)) (l : List α) : encL f l = encL g (l.map v) := by
  have : f = g ∘ v := funext h
  unfold encL; rw [List.length_map, List.flatMap_map, this]; rfl
theorem badL_map {α β : Type} {v : α → β} {f : α → Bool} {g : β → Bool} (h : ∀ x, f x = g (v x)) (l : List α) : badL f l = badL g (l.map v) := by
  have : f = g ∘ v := funext h
  unfold badL; rw [List.length_map, List.any_map, this]
theorem encFl_v (x : Fl) : encFl x = encPF (vFl x) := rfl
theorem badFl_v (x : Fl) : badFl x = badPF (vFl x) := rfl
theorem encTn_v (x : Tn) : encTn x = encPT (vTn x) := by unfold encTn encPT vTn; rw [encL_map encFl_v]
theorem badTn_v (x : Tn) : badTn x = badPT (vTn x) := by unfold badTn badPT vTn; rw [badL_map badFl_v]
theorem encCl_v (x : Cl) : encCl x = encPC (vCl x) := by unfold encCl encPC vCl; rw [encL_map encTn_v]
theorem badCl_v (x : Cl) : badCl x = badPC (vCl x) := by unfold badCl badPC vCl; rw [badL_map badTn_v]
theorem encPo_v (x : Po) : encPo x = encPP (vPo x) := by
  unfold encPo encPP vPo
  by_cases h : EvenPo x
  · simp only [if_pos h, decide_eq_true h, if_true]; rw [encL_map encCl_v]
  · simp only [if_neg h, decide_eq_false h]; rfl
theorem badPo_v (x : Po) : badPo x = badPP (vPo x) := by
  unfold badPo badPP vPo
  by_cases h : EvenPo x
  · simp only [if_pos h, decide_eq_true h, if_true]; rw [badL_map badCl_v]
  · simp only [if_neg h, decide_eq_false h]; rfl
theorem encSt_v (x : St) : encSt x = encPS (vSt x) := by unfold encSt encPS vSt encU; rw [encL_map encPo_v]
theorem badSt_v (x : St) : badSt x = badPS (vSt x) := by unfold badSt badPS vSt; rw [badL_map badPo_v]
def dumpP (x : PS) : Value := if badPS x then .tuple #[.string (bs []), .int .i64 1] else .tuple #[.string (bs (encPS x)), .int .i64 0]
theorem dumpE_v (x : St) : dumpE x = dumpP (vSt x) := by unfold dumpE dumpP; rw [badSt_v, encSt_v]
theorem dumpP_ok {x : PS} (h : badPS x = false) : dumpP x = .tuple #[.string (bs (encPS x)), .int .i64 0] := by unfold dumpP; rw [h]; rfl
/-- A slice that is nil. -/
def zIns (α : Type) : Ins α := ⟨none, none, 0, 0, #[], 0, (0, 0), []⟩
theorem zIns_ok {α : Type} (sz : Nat) (f : α → List Value) : InsOk sz f (zIns α) := ⟨Nat.le_refl _, by simp [zIns], by simp [zIns], .inr ⟨rfl, rfl⟩⟩
/-- A slice that the call has, as one of memory. -/
def insOf {α : Type} (u : Sl) (T : TypeId) (ms : List α) : Ins α := ⟨u.ob.map fun b => ⟨b, 0, none⟩, u.ob, 0, u.cap, u.cs, T, u.fz, ms⟩
theorem insOf_k {α : Type} (u : Sl) (T : TypeId) (ms : List α) : insK (insOf u T ms) = (u.ob, .cells u.cs T u.fz) := rfl
theorem Xd {α : Type} (u : Sl) (T : TypeId) (ms : List α) : insV (insOf u T ms) = u.v ms.length := rfl
theorem Yh {α : Type} {sz : Nat} {f : α → List Value} {u : Sl} {T : TypeId} {ms : List α} (h : Own sz u (ms.flatMap f) ms.length) (hn : ms.length ≤ 1048576) : InsOk sz f (insOf u T ms) := ⟨h.le, h.max, hn, .inl ⟨rfl, h.sees⟩⟩
/-- Cells, of which some are written. -/
def putAll {α : Type} (f : α → Value) : Array Value → List Nat → List α → Array Value
  | cs, k :: ks, v :: vs => putAll f (cs.setIfInBounds k (f v)) ks vs
  | cs, _, _ => cs
theorem putAll_snoc {α : Type} (f : α → Value) : ∀ (cs : Array Value) (ks : List Nat) (vs : List α) (k : Nat) (v : α), ks.length = vs.length → putAll f cs (ks ++ [k]) (vs ++ [v]) = (putAll f cs ks vs).setIfInBounds k (f v)
  | cs, [], [], k, v, _ => rfl
  | cs, a :: ks, b :: vs, k, v, h => by
    show putAll f (cs.setIfInBounds a (f b)) (ks ++ [k]) (vs ++ [v]) = _
    rw [putAll_snoc f _ ks vs k v (by simpa using h)]
    rfl
theorem putAll_size {α : Type} (f : α → Value) : ∀ (cs : Array Value) (ks : List Nat) (vs : List α), (putAll f cs ks vs).size = cs.size
  | cs, [], vs => by simp [putAll]
  | cs, a :: ks, [] => by simp [putAll]
  | cs, a :: ks, b :: vs => by
    show (putAll f (cs.setIfInBounds a (f b)) ks vs).size = _
    rw [putAll_size f _ ks vs]; simp
theorem putAll_cons {α : Type} (f : α → Value) (l : List Value) (k : Nat) (ks : List Nat) (v : α) (vs : List α) : putAll f l.toArray (k :: ks) (v :: vs) = putAll f (l.set k (f v)).toArray ks vs := by
  show putAll f (l.toArray.setIfInBounds k (f v)) ks vs = _
  rw [List.setIfInBounds_toArray]
theorem putAll_nil {α : Type} (f : α → Value) (cs : Array Value) : putAll f cs [] [] = cs := rfl
theorem perm_all {α : Type} (M : List α) : M.Perm (M ++ []) := by simp
theorem set_at {cs : Array Value} {k : Nat} (v : Value) (h : k < cs.size) : (cs.setIfInBounds k v)[k]? = some v := by simp [h]
theorem set_set {cs : Array Value} {k : Nat} (v w : Value) : (cs.setIfInBounds k v).setIfInBounds k w = cs.setIfInBounds k w := by simp
theorem len_1 {α : Type} {xs : List α} (h : xs.length = 1) : ∃ a0, xs = [a0] := by
  match xs, h with
  | [a0], _ => exact ⟨_, rfl⟩
theorem len_2 {α : Type} {xs : List α} (h : xs.length = 2) : ∃ a0 a1, xs = [a0, a1] := by
  match xs, h with
  | [a0, a1], _ => exact ⟨_, _, rfl⟩
theorem len_3 {α : Type} {xs : List α} (h : xs.length = 3) : ∃ a0 a1 a2, xs = [a0, a1, a2] := by
  match xs, h with
  | [a0, a1, a2], _ => exact ⟨_, _, _, rfl⟩
theorem len_4 {α : Type} {xs : List α} (h : xs.length = 4) : ∃ a0 a1 a2 a3, xs = [a0, a1, a2, a3] := by
  match xs, h with
  | [a0, a1, a2, a3], _ => exact ⟨_, _, _, _, rfl⟩
theorem len_5 {α : Type} {xs : List α} (h : xs.length = 5) : ∃ a0 a1 a2 a3 a4, xs = [a0, a1, a2, a3, a4] := by
  match xs, h with
  | [a0, a1, a2, a3, a4], _ => exact ⟨_, _, _, _, _, rfl⟩
theorem len_12 {α : Type} {xs : List α} (h : xs.length = 12) : ∃ a0 a1 a2 a3 a4 a5 a6 a7 a8 a9 a10 a11, xs = [a0, a1, a2, a3, a4, a5, a6, a7, a8, a9, a10, a11] := by
  match xs, h with
  | [a0, a1, a2, a3, a4, a5, a6, a7, a8, a9, a10, a11], _ => exact ⟨_, _, _, _, _, _, _, _, _, _, _, _, rfl⟩

end
end Go.Proofs.Ytjnaeoelnmhjfaa

set_option linter.unusedSimpArgs false
set_option linter.unusedVariables false
namespace Go.Proofs.Ytjnaeoelnmhjfaa
open Go Go.RowKit

section
set_option maxRecDepth 100000 in
set_option maxHeartbeats 1000000 in
theorem cr_num (b br : Nat) (l : List UInt8) (e : Nat) (hl : l.length ≤ 140737488350000) (he : e ≤ 1000) (bx k : Nat) (cs : Array Value) (T : TypeId) (hk : k < cs.size) :
    Ct Try.prog 94 [.pointer (some ⟨b, 0, none⟩), .pointer (some ⟨bx, k, none⟩)] [(some b, .cells #[.pointer none, .slice none 0 0, .pointer (some ⟨br, 0, none⟩), .bool false] 80 (0, 0))] [(some br, .cells #[.string (bs l), .int .i64 ((e : Nat) : Int)] 169 (0, 0)), (some bx, .cells (cs) T (0, 0))] fun v post => ∃ n l1 e1, Rdg encU GU l e n l1 e1 ∧ v = .tuple #[] ∧ post = [(some br, .cells #[.string (bs l1), .int .i64 ((e1 : Nat) : Int)] 169 (0, 0)), (some bx, .cells (cs.setIfInBounds k (.int .u64 (n : Int))) T (0, 0))] := by
 obtain ⟨n, l1, e1, h1⟩ : ∃ a_ l_ e_, rdNum l e = (a_, l_, e_) := ⟨_, _, _, rfl⟩
 refine Yu Try.func94 rfl rfl (fun w0 => ?_)
 show G _ _ [(0, _), (1, _)] _ _
 refine Zh ?_
 refine Zh ?_
 refine Zd (l := [0, 1, 2, 3, 4]) rfl ?_
 refine Za rfl rfl rfl rfl (Zc rfl rfl) ?_
 refine Za rfl rfl rfl rfl (Ze rfl rfl) ?_
 refine Za rfl rfl rfl rfl (Zb (fo := 2) rfl Try.underlying80 rfl i_74 rfl rfl rfl) ?_
 refine Za rfl rfl rfl rfl (Zj rfl rfl (Zf 0 rfl) rfl Try.underlying74 rfl) ?_
 refine Za rfl rfl rfl rfl (V_pneqN rfl Try.underlying74 rfl rfl) ?_
 refine Zg ?_
 refine G_then rfl ?_
 refine Zh ?_
 refine Zd (l := [0, 1, 2, 3, 4, 5, 6, 7]) rfl ?_
 refine Za rfl rfl rfl rfl (Zc rfl rfl) ?_
 refine Za rfl rfl rfl rfl (Zc rfl rfl) ?_
 refine Za rfl rfl rfl rfl (Ze rfl rfl) ?_
 refine Za rfl rfl rfl rfl (Zb (fo := 2) rfl Try.underlying80 rfl i_74 rfl rfl rfl) ?_
 refine Za rfl rfl rfl rfl (Zj rfl rfl (Zf 0 rfl) rfl Try.underlying74 rfl) ?_
 refine Zq (L2 := [_]) rfl rfl rfl rfl rfl rfl Try.call133 ((rd_num br l e (by omega) (by omega)).weaken (fun v post h => by rewrite [h1] at h; exact h)) [0] [] rfl rfl ?_
 rintro v post ⟨rfl, rfl⟩
 show G _ _ _ [_, _] _
 refine Za rfl rfl rfl rfl (Ze rfl rfl) ?_
 refine Yj (l1 := [_]) (L' := [_, _]) rfl rfl rfl rfl (Zm rfl rfl rfl (Zf 1 rfl) (by first | exact of_decide_eq_true rfl | omega | (simp [cOp, cWk, cIv, cHr, cLt, cWt, cIt, cFl, cTn, cCl, cPo, cSt, cDt, cDs]; done) | (simp [cOp, cWk, cIv, cHr, cLt, cWt, cIt, cFl, cTn, cCl, cPo, cSt, cDt, cDs]; omega) | (simp [cOp, cWk, cIv, cHr, cLt, cWt, cIt, cFl, cTn, cCl, cPo, cSt, cDt, cDs] at *; omega)) i_23 rfl rfl) rfl ?_
 refine Zg ?_
 refine Yy (post := [_, _]) Try.func94 rfl Zp [0, 0] rfl ?_
 dsimp only [packed]
 exact ⟨n, l1, e1, rdg_U he h1, rfl, rfl⟩

set_option maxRecDepth 100000 in
set_option maxHeartbeats 1000000 in
theorem cr_flag (b br : Nat) (l : List UInt8) (e : Nat) (hl : l.length ≤ 140737488350000) (he : e ≤ 1000) (bx k : Nat) (cs : Array Value) (T : TypeId) (hk : k < cs.size) :
    Ct Try.prog 95 [.pointer (some ⟨b, 0, none⟩), .pointer (some ⟨bx, k, none⟩)] [(some b, .cells #[.pointer none, .slice none 0 0, .pointer (some ⟨br, 0, none⟩), .bool false] 80 (0, 0))] [(some br, .cells #[.string (bs l), .int .i64 ((e : Nat) : Int)] 169 (0, 0)), (some bx, .cells (cs) T (0, 0))] fun v post => ∃ n l1 e1, Rdg encB (fun _ => True) l e n l1 e1 ∧ v = .tuple #[] ∧ post = [(some br, .cells #[.string (bs l1), .int .i64 ((e1 : Nat) : Int)] 169 (0, 0)), (some bx, .cells (cs.setIfInBounds k (.bool n)) T (0, 0))] := by
 obtain ⟨n, l1, e1, h1⟩ : ∃ a_ l_ e_, rdFlag l e = (a_, l_, e_) := ⟨_, _, _, rfl⟩
 refine Yu Try.func95 rfl rfl (fun w0 => ?_)
 show G _ _ [(0, _), (1, _)] _ _
 refine Zs ?_
 refine Zh ?_
 refine Zd (l := [0, 1, 2, 3, 4, 5]) rfl ?_
 refine Za rfl rfl rfl rfl (Zc rfl rfl) ?_
 refine Za rfl rfl rfl rfl (Ze rfl rfl) ?_
 refine Za rfl rfl rfl rfl (Zb (fo := 2) rfl Try.underlying80 rfl i_74 rfl rfl rfl) ?_
 refine Za rfl rfl rfl rfl (Zj rfl rfl (Zf 0 rfl) rfl Try.underlying74 rfl) ?_
 refine Za rfl rfl rfl rfl (V_pneqN rfl Try.underlying74 rfl rfl) ?_
 refine Za rfl rfl rfl rfl (Zk rfl rfl) ?_
 refine Zg ?_
 refine G_then rfl ?_
 refine Zd (l := [0, 1, 2, 3, 4, 5, 6, 7]) rfl ?_
 refine Za rfl rfl rfl rfl (Zc rfl rfl) ?_
 refine Za rfl rfl rfl rfl (Zc rfl rfl) ?_
 refine Za rfl rfl rfl rfl (Ze rfl rfl) ?_
 refine Za rfl rfl rfl rfl (Zb (fo := 2) rfl Try.underlying80 rfl i_74 rfl rfl rfl) ?_
 refine Za rfl rfl rfl rfl (Zj rfl rfl (Zf 0 rfl) rfl Try.underlying74 rfl) ?_
 refine Zq (L2 := [_]) rfl rfl rfl rfl rfl rfl Try.call141 ((rd_flag br l e (by omega) (by omega)).weaken (fun v post h => by rewrite [h1] at h; exact h)) [0] [] rfl rfl ?_
 rintro v post ⟨rfl, rfl⟩
 show G _ _ _ [_, _] _
 refine Za rfl rfl rfl rfl (Ze rfl rfl) ?_
 refine Yj (l1 := [_]) (L' := [_, _]) rfl rfl rfl rfl (Zm rfl rfl rfl (Zf 1 rfl) (by first | exact of_decide_eq_true rfl | omega | (simp [cOp, cWk, cIv, cHr, cLt, cWt, cIt, cFl, cTn, cCl, cPo, cSt, cDt, cDs]; done) | (simp [cOp, cWk, cIv, cHr, cLt, cWt, cIt, cFl, cTn, cCl, cPo, cSt, cDt, cDs]; omega) | (simp [cOp, cWk, cIv, cHr, cLt, cWt, cIt, cFl, cTn, cCl, cPo, cSt, cDt, cDs] at *; omega)) i_4 rfl rfl) rfl ?_
 refine Zg ?_
 refine Zv ?_
 refine G_end (post := [_, _]) Try.func95 rfl Zp [0, 0] rfl ?_
 dsimp only [packed]
 exact ⟨n, l1, e1, rdg_B he h1, rfl, rfl⟩


theorem put_next {α : Type} (f : α → Value) (cs : Array Value) {ks : List Nat} {xs : List α} {i y : Nat} (hy : ks[i]? = some y) (hn : xs.length = i) (v : α) : putAll f cs (ks.take (i + 1)) (xs ++ [v]) = (putAll f cs (ks.take i) xs).setIfInBounds y (f v) := by
  obtain ⟨hi, rfl⟩ := List.getElem?_eq_some_iff.1 hy
  rw [List.take_succ_eq_append_getElem hi]
  exact putAll_snoc f cs (ks.take i) xs _ v (by simp; omega)

set_option maxRecDepth 100000 in
set_option maxHeartbeats 1000000 in
theorem cr_ints (b br : Nat) (l : List UInt8) (e : Nat) (hl : l.length ≤ 140737488350000) (he : e ≤ 1000) (o1 : Option Nat) (p1 q1 : Nat) (c1 : Array Value) (T1 : TypeId) (f1 : Nat × Nat) (bx : Nat) (cs : Array Value) (T : TypeId) (ks : List Nat) (hs : Sees 1 o1 p1 q1 c1 (ks.map fun y => .pointer (some ⟨bx, y, none⟩)) ks.length) (hk : ∀ y ∈ ks, y < cs.size) :
    Ct Try.prog 96 [.pointer (some ⟨b, 0, none⟩), sv o1 p1 ks.length q1] [(o1, .cells c1 T1 f1), (some b, .cells #[.pointer none, .slice none 0 0, .pointer (some ⟨br, 0, none⟩), .bool false] 80 (0, 0))] [(some br, .cells #[.string (bs l), .int .i64 ((e : Nat) : Int)] 169 (0, 0)), (some bx, .cells (cs) T (0, 0))] fun v post => ∃ xs l1 e1, xs.length = ks.length ∧ Rdg encIs (GIs ks.length) l e xs l1 e1 ∧ v = .tuple #[] ∧ post = [(some br, .cells #[.string (bs l1), .int .i64 ((e1 : Nat) : Int)] 169 (0, 0)), (some bx, .cells (putAll (fun z : Int => .int .i64 z) cs ks xs) T (0, 0))] := by
 have hl1 := hs.le
 have hl2 := hs.max
 refine Yu Try.func96 rfl rfl (fun w0 => ?_)
 show G _ _ [(0, _), (1, _)] _ _
 refine Zh ?_
 refine Zd (l := [0, 1, 2]) rfl ?_
 refine Za rfl rfl rfl rfl (Zc rfl rfl) ?_
 refine Za rfl rfl rfl rfl (Yp rfl rfl Try.underlying241 rfl) ?_
 refine Za rfl rfl rfl rfl (Zc rfl rfl) ?_
 refine Zg ?_
 refine Zs ?_
 refine Yi ?he1 [0, 0] ?hl1 (Xb (X := Nat × List (Int) × List UInt8 × Nat) (fun x_ => match x_ with | ⟨i, xs, l1, e1⟩ => i ≤ ks.length ∧ RdgL encI GI ks.length l e i xs l1 e1) (fun x_ => match x_ with | ⟨i, xs, l1, e1⟩ => ks.length - i) (fun x_ => match x_ with | ⟨i, xs, l1, e1⟩ => [(0, .pointer (some ⟨b, 0, none⟩)), (6, sv o1 p1 ks.length q1), (7, .int .i64 (ks.length : Int)), (8, .int .i64 (i : Int))]) (fun x_ => match x_ with | ⟨i, xs, l1, e1⟩ => [(some br, .cells #[.string (bs l1), .int .i64 ((e1 : Nat) : Int)] 169 (0, 0)), (some bx, .cells (putAll (fun z : Int => .int .i64 z) cs (ks.take i) xs) T (0, 0))]) ?round1 (0, [], l, e) ?h01)
 case he1 => exact (And.intro rfl (And.intro rfl (And.intro rfl (And.intro rfl trivial))))
 case hl1 => exact ⟨_, rfl⟩
 case h01 => exact ⟨Nat.zero_le _, .zero he⟩
 case round1 =>
  intro x_ hJ ih
  try dsimp only at hJ ih
  obtain ⟨i, xs, l1, e1⟩ := x_
  try dsimp only at hJ ih
  obtain ⟨hi, hx⟩ := hJ
  show G _ _ [(0, .pointer (some ⟨b, 0, none⟩)), (6, sv o1 p1 ks.length q1), (7, .int .i64 (ks.length : Int)), (8, .int .i64 (i : Int))] [(some br, .cells #[.string (bs l1), .int .i64 ((e1 : Nat) : Int)] 169 (0, 0)), (some bx, .cells (putAll (fun z : Int => .int .i64 z) cs (ks.take i) xs) T (0, 0))] _
  refine Zh ?_
  refine Zd (l := [0]) rfl ?_
  refine Za rfl rfl rfl rfl (Xn rfl rfl rfl) ?_
  refine Zg ?_
  refine Zh ?_
  refine Yk rfl (fun hc1 => ?_) (fun hc1 => ?_)
  ·
   refine Zu ?_
   refine Zh ?_
   refine Zs ?_
   refine Zh ?_
   obtain ⟨y, hy⟩ := getI (show i < ks.length by omega)
   obtain ⟨bo1, rfl⟩ := hs.isSome (by omega)
   have hyk := hk y (List.mem_of_getElem? hy)
   have hps := putAll_size (fun z : Int => .int .i64 z) cs (ks.take i) xs
   have hl3 := hx.len
   have he3 := hx.err
   obtain ⟨n, l2, e2, h1⟩ : ∃ a_ l_ e_, rdInt 1099511627776 l1 e1 = (a_, l_, e_) := ⟨_, _, _, rfl⟩
   refine Zd (l := [0, 1, 2]) rfl ?_
   refine Za rfl rfl rfl rfl (Zo (s := 1) rfl Try.underlying241 i_176 rfl rfl rfl rfl (by omega)) ?_
   refine Za rfl rfl rfl rfl (Zj rfl rfl (Zf 0 rfl) (Zt (ptr_at hs hy)) Try.underlying176 rfl) ?_
   refine Za rfl rfl rfl rfl (Zk rfl rfl) ?_
   refine Zg ?_
   refine Zh ?_
   refine Zh ?_
   refine Zd (l := [0, 1, 2, 3, 4]) rfl ?_
   refine Za rfl rfl rfl rfl (Zc rfl rfl) ?_
   refine Za rfl rfl rfl rfl (Ze rfl rfl) ?_
   refine Za rfl rfl rfl rfl (Zb (fo := 2) rfl Try.underlying80 rfl i_74 rfl rfl rfl) ?_
   refine Za rfl rfl rfl rfl (Zj rfl rfl (Zf 1 rfl) rfl Try.underlying74 rfl) ?_
   refine Za rfl rfl rfl rfl (V_pneqN rfl Try.underlying74 rfl rfl) ?_
   refine Zg ?_
   refine G_then rfl ?_
   refine Zh ?_
   refine Zd (l := [0, 1, 2, 3, 4, 5, 6, 7]) rfl ?_
   refine Za rfl rfl rfl rfl (Zc rfl rfl) ?_
   refine Za rfl rfl rfl rfl (Zc rfl rfl) ?_
   refine Za rfl rfl rfl rfl (Ze rfl rfl) ?_
   refine Za rfl rfl rfl rfl (Zb (fo := 2) rfl Try.underlying80 rfl i_74 rfl rfl rfl) ?_
   refine Za rfl rfl rfl rfl (Zj rfl rfl (Zf 1 rfl) rfl Try.underlying74 rfl) ?_
   refine Zq (L2 := [_]) rfl rfl rfl rfl rfl rfl Try.call84 ((rd_int br l1 e1 1099511627776 (by omega) (by omega) (by omega)).weaken (fun v post h => by rewrite [h1] at h; exact h)) [0] [] rfl rfl ?_
   rintro v post ⟨rfl, rfl⟩
   show G _ _ _ [_, _] _
   refine Za rfl rfl rfl rfl (Ze rfl rfl) ?_
   refine Yj (l1 := [_]) (L' := [_, _]) rfl rfl rfl rfl (Zm rfl rfl rfl (Zf 1 rfl) (by first | exact of_decide_eq_true rfl | omega | (simp [cOp, cWk, cIv, cHr, cLt, cWt, cIt, cFl, cTn, cCl, cPo, cSt, cDt, cDs]; done) | (simp [cOp, cWk, cIv, cHr, cLt, cWt, cIt, cFl, cTn, cCl, cPo, cSt, cDt, cDs]; omega) | (simp [cOp, cWk, cIv, cHr, cLt, cWt, cIt, cFl, cTn, cCl, cPo, cSt, cDt, cDs] at *; omega)) i_3 rfl rfl) rfl ?_
   refine Zg ?_
   refine Yr rfl ?_
   refine Zd (l := [0, 1]) rfl ?_
   refine Za rfl rfl rfl rfl ((Xe rfl rfl rfl).int (Zw (by omega))) ?_
   refine Za rfl rfl rfl rfl (Zc rfl rfl) ?_
   refine Zg ?_
   have hnx := put_next (fun z : Int => .int .i64 z) cs hy hx.num (n : Int)
   refine Yi ?_ [0, 0] ?_ (ih (i + 1, xs ++ [(n : Int)], l2, e2) ?_ ?_)
   · (refine (And.intro ?_ (And.intro ?_ (And.intro ?_ (And.intro ?_ trivial)))) <;> first | rfl | exact Zl (by omega) | exact Zl (by simp))
   · exact ⟨_, by rw [← hnx]; rfl⟩
   · exact ⟨by omega, hx.next (rdg_I he3 h1) (by omega)⟩
   · (first | omega | (dsimp only; omega))
  refine Yr rfl ?_
  refine G_end (post := [_, _]) Try.func96 rfl Zp [0, 0] rfl ?_
  dsimp only [packed]
  obtain rfl : i = ks.length := by omega
  have e_ : ks.take ks.length = ks := List.take_length
  rw [e_]
  exact ⟨xs, l1, e1, hx.num, rdg_Is hx, rfl, rfl⟩

set_option maxRecDepth 100000 in
set_option maxHeartbeats 1000000 in
theorem cr_texts (b br : Nat) (l : List UInt8) (e : Nat) (hl : l.length ≤ 140737488350000) (he : e ≤ 1000) (o1 : Option Nat) (p1 q1 : Nat) (c1 : Array Value) (T1 : TypeId) (f1 : Nat × Nat) (bx : Nat) (cs : Array Value) (T : TypeId) (ks : List Nat) (hs : Sees 1 o1 p1 q1 c1 (ks.map fun y => .pointer (some ⟨bx, y, none⟩)) ks.length) (hk : ∀ y ∈ ks, y < cs.size) :
    Ct Try.prog 142 [.pointer (some ⟨b, 0, none⟩), sv o1 p1 ks.length q1] [(o1, .cells c1 T1 f1), (some b, .cells #[.pointer none, .slice none 0 0, .pointer (some ⟨br, 0, none⟩), .bool false] 80 (0, 0))] [(some br, .cells #[.string (bs l), .int .i64 ((e : Nat) : Int)] 169 (0, 0)), (some bx, .cells (cs) T (0, 0))] fun v post => ∃ xs l1 e1, xs.length = ks.length ∧ Rdg encTs (GTs ks.length) l e xs l1 e1 ∧ v = .tuple #[] ∧ post = [(some br, .cells #[.string (bs l1), .int .i64 ((e1 : Nat) : Int)] 169 (0, 0)), (some bx, .cells (putAll (fun z : List UInt8 => .string (bs z)) cs ks xs) T (0, 0))] := by
 have hl1 := hs.le
 have hl2 := hs.max
 refine Yu Try.func142 rfl rfl (fun w0 => ?_)
 show G _ _ [(0, _), (1, _)] _ _
 refine Zh ?_
 refine Zd (l := [0, 1, 2]) rfl ?_
 refine Za rfl rfl rfl rfl (Zc rfl rfl) ?_
 refine Za rfl rfl rfl rfl (Yp rfl rfl Try.underlying278 rfl) ?_
 refine Za rfl rfl rfl rfl (Zc rfl rfl) ?_
 refine Zg ?_
 refine Zs ?_
 refine Yi ?he1 [0, 0] ?hl1 (Xb (X := Nat × List (List UInt8) × List UInt8 × Nat) (fun x_ => match x_ with | ⟨i, xs, l1, e1⟩ => i ≤ ks.length ∧ RdgL text GT ks.length l e i xs l1 e1) (fun x_ => match x_ with | ⟨i, xs, l1, e1⟩ => ks.length - i) (fun x_ => match x_ with | ⟨i, xs, l1, e1⟩ => [(0, .pointer (some ⟨b, 0, none⟩)), (6, sv o1 p1 ks.length q1), (7, .int .i64 (ks.length : Int)), (8, .int .i64 (i : Int))]) (fun x_ => match x_ with | ⟨i, xs, l1, e1⟩ => [(some br, .cells #[.string (bs l1), .int .i64 ((e1 : Nat) : Int)] 169 (0, 0)), (some bx, .cells (putAll (fun z : List UInt8 => .string (bs z)) cs (ks.take i) xs) T (0, 0))]) ?round1 (0, [], l, e) ?h01)
 case he1 => exact (And.intro rfl (And.intro rfl (And.intro rfl (And.intro rfl trivial))))
 case hl1 => exact ⟨_, rfl⟩
 case h01 => exact ⟨Nat.zero_le _, .zero he⟩
 case round1 =>
  intro x_ hJ ih
  try dsimp only at hJ ih
  obtain ⟨i, xs, l1, e1⟩ := x_
  try dsimp only at hJ ih
  obtain ⟨hi, hx⟩ := hJ
  show G _ _ [(0, .pointer (some ⟨b, 0, none⟩)), (6, sv o1 p1 ks.length q1), (7, .int .i64 (ks.length : Int)), (8, .int .i64 (i : Int))] [(some br, .cells #[.string (bs l1), .int .i64 ((e1 : Nat) : Int)] 169 (0, 0)), (some bx, .cells (putAll (fun z : List UInt8 => .string (bs z)) cs (ks.take i) xs) T (0, 0))] _
  refine Zh ?_
  refine Zd (l := [0]) rfl ?_
  refine Za rfl rfl rfl rfl (Xn rfl rfl rfl) ?_
  refine Zg ?_
  refine Zh ?_
  refine Yk rfl (fun hc1 => ?_) (fun hc1 => ?_)
  ·
   refine Zu ?_
   refine Zh ?_
   refine Zs ?_
   refine Zh ?_
   obtain ⟨y, hy⟩ := getI (show i < ks.length by omega)
   obtain ⟨bo1, rfl⟩ := hs.isSome (by omega)
   have hyk := hk y (List.mem_of_getElem? hy)
   have hps := putAll_size (fun z : List UInt8 => .string (bs z)) cs (ks.take i) xs
   have hl3 := hx.len
   have he3 := hx.err
   obtain ⟨n, l2, e2, h1⟩ : ∃ a_ l_ e_, rdStr 200 l1 e1 = (a_, l_, e_) := ⟨_, _, _, rfl⟩
   refine Zd (l := [0, 1, 2]) rfl ?_
   refine Za rfl rfl rfl rfl (Zo (s := 1) rfl Try.underlying278 i_244 rfl rfl rfl rfl (by omega)) ?_
   refine Za rfl rfl rfl rfl (Zj rfl rfl (Zf 0 rfl) (Zt (ptr_at hs hy)) Try.underlying244 rfl) ?_
   refine Za rfl rfl rfl rfl (Zk rfl rfl) ?_
   refine Zg ?_
   refine Zh ?_
   refine Zh ?_
   refine Zd (l := [0, 1, 2, 3, 4]) rfl ?_
   refine Za rfl rfl rfl rfl (Zc rfl rfl) ?_
   refine Za rfl rfl rfl rfl (Ze rfl rfl) ?_
   refine Za rfl rfl rfl rfl (Zb (fo := 2) rfl Try.underlying80 rfl i_74 rfl rfl rfl) ?_
   refine Za rfl rfl rfl rfl (Zj rfl rfl (Zf 1 rfl) rfl Try.underlying74 rfl) ?_
   refine Za rfl rfl rfl rfl (V_pneqN rfl Try.underlying74 rfl rfl) ?_
   refine Zg ?_
   refine G_then rfl ?_
   refine Zh ?_
   refine Zd (l := [0, 1, 2, 3, 4, 5, 6, 7]) rfl ?_
   refine Za rfl rfl rfl rfl (Zc rfl rfl) ?_
   refine Za rfl rfl rfl rfl (Zc rfl rfl) ?_
   refine Za rfl rfl rfl rfl (Ze rfl rfl) ?_
   refine Za rfl rfl rfl rfl (Zb (fo := 2) rfl Try.underlying80 rfl i_74 rfl rfl rfl) ?_
   refine Za rfl rfl rfl rfl (Zj rfl rfl (Zf 1 rfl) rfl Try.underlying74 rfl) ?_
   refine Zq (L2 := [_]) rfl rfl rfl rfl rfl rfl Try.call134 ((rd_str br l1 e1 200 (by omega) (by omega) (by omega)).weaken (fun v post h => by rewrite [h1] at h; exact h)) [0] [] rfl rfl ?_
   rintro v post ⟨rfl, rfl⟩
   show G _ _ _ [_, _] _
   refine Za rfl rfl rfl rfl (Ze rfl rfl) ?_
   refine Yj (l1 := [_]) (L' := [_, _]) rfl rfl rfl rfl (Zm rfl rfl rfl (Zf 1 rfl) (by first | exact of_decide_eq_true rfl | omega | (simp [cOp, cWk, cIv, cHr, cLt, cWt, cIt, cFl, cTn, cCl, cPo, cSt, cDt, cDs]; done) | (simp [cOp, cWk, cIv, cHr, cLt, cWt, cIt, cFl, cTn, cCl, cPo, cSt, cDt, cDs]; omega) | (simp [cOp, cWk, cIv, cHr, cLt, cWt, cIt, cFl, cTn, cCl, cPo, cSt, cDt, cDs] at *; omega)) i_9 rfl rfl) rfl ?_
   refine Zg ?_
   refine Yr rfl ?_
   refine Zd (l := [0, 1]) rfl ?_
   refine Za rfl rfl rfl rfl ((Xe rfl rfl rfl).int (Zw (by omega))) ?_
   refine Za rfl rfl rfl rfl (Zc rfl rfl) ?_
   refine Zg ?_
   have hnx := put_next (fun z : List UInt8 => .string (bs z)) cs hy hx.num n
   refine Yi ?_ [0, 0] ?_ (ih (i + 1, xs ++ [n], l2, e2) ?_ ?_)
   · (refine (And.intro ?_ (And.intro ?_ (And.intro ?_ (And.intro ?_ trivial)))) <;> first | rfl | exact Zl (by omega) | exact Zl (by simp))
   · exact ⟨_, by rw [← hnx]; rfl⟩
   · exact ⟨by omega, hx.next (rdg_T he3 h1) (by omega)⟩
   · (first | omega | (dsimp only; omega))
  refine Yr rfl ?_
  refine G_end (post := [_, _]) Try.func142 rfl Zp [0, 0] rfl ?_
  dsimp only [packed]
  obtain rfl : i = ks.length := by omega
  have e_ : ks.take ks.length = ks := List.take_length
  rw [e_]
  exact ⟨xs, l1, e1, hx.num, rdg_Ts hx, rfl, rfl⟩

theorem cr_intsL (b br : Nat) (l : List UInt8) (e : Nat) (hl : l.length ≤ 140737488350000) (he : e ≤ 1000) (b2 : Nat) (T2 : TypeId) (bx : Nat) (cs : Array Value) (T : TypeId) (ks : List Nat) (hn : ks.length ≤ 1000) (hk : ∀ y ∈ ks, y < cs.size) :
    Ct Try.prog 96 [.pointer (some ⟨b, 0, none⟩), .slice (some ⟨b2, 0, none⟩) ks.length ks.length] [(some b2, .cells (ks.map fun y => Value.pointer (some ⟨bx, y, none⟩)).toArray T2 (0, 0)), (some b, .cells #[.pointer none, .slice none 0 0, .pointer (some ⟨br, 0, none⟩), .bool false] 80 (0, 0))] [(some br, .cells #[.string (bs l), .int .i64 ((e : Nat) : Int)] 169 (0, 0)), (some bx, .cells (cs) T (0, 0))]
      (fun v post => ∃ xs l1 e1, xs.length = ks.length ∧ Rdg encIs (GIs ks.length) l e xs l1 e1 ∧ v = .tuple #[] ∧ post = [(some br, .cells #[.string (bs l1), .int .i64 ((e1 : Nat) : Int)] 169 (0, 0)), (some bx, .cells (putAll (fun z : Int => .int .i64 z) cs ks xs) T (0, 0))]) :=
  cr_ints b br l e hl he (some b2) 0 ks.length _ T2 (0, 0) bx cs T ks ⟨by simp, Nat.le_refl _, by omega, by rw [Nat.mul_one, List.drop_zero]; exact List.take_of_length_le (by simp), fun h => by cases h⟩ hk
theorem cr_textsL (b br : Nat) (l : List UInt8) (e : Nat) (hl : l.length ≤ 140737488350000) (he : e ≤ 1000) (b2 : Nat) (T2 : TypeId) (bx : Nat) (cs : Array Value) (T : TypeId) (ks : List Nat) (hn : ks.length ≤ 1000) (hk : ∀ y ∈ ks, y < cs.size) :
    Ct Try.prog 142 [.pointer (some ⟨b, 0, none⟩), .slice (some ⟨b2, 0, none⟩) ks.length ks.length] [(some b2, .cells (ks.map fun y => Value.pointer (some ⟨bx, y, none⟩)).toArray T2 (0, 0)), (some b, .cells #[.pointer none, .slice none 0 0, .pointer (some ⟨br, 0, none⟩), .bool false] 80 (0, 0))] [(some br, .cells #[.string (bs l), .int .i64 ((e : Nat) : Int)] 169 (0, 0)), (some bx, .cells (cs) T (0, 0))]
      (fun v post => ∃ xs l1 e1, xs.length = ks.length ∧ Rdg encTs (GTs ks.length) l e xs l1 e1 ∧ v = .tuple #[] ∧ post = [(some br, .cells #[.string (bs l1), .int .i64 ((e1 : Nat) : Int)] 169 (0, 0)), (some bx, .cells (putAll (fun z : List UInt8 => .string (bs z)) cs ks xs) T (0, 0))]) :=
  cr_texts b br l e hl he (some b2) 0 ks.length _ T2 (0, 0) bx cs T ks ⟨by simp, Nat.le_refl _, by omega, by rw [Nat.mul_one, List.drop_zero]; exact List.take_of_length_le (by simp), fun h => by cases h⟩ hk

end
end Go.Proofs.Ytjnaeoelnmhjfaa

set_option linter.unusedSimpArgs false
set_option linter.unusedVariables false
namespace Go.Proofs.Ytjnaeoelnmhjfaa
open Go Go.RowKit

section
theorem cIt_sz (x : It) : (cIt x).toArray.size = 2 := rfl
set_option maxRecDepth 100000 in
set_option maxHeartbeats 1000000 in
theorem cr_item (b br : Nat) (l : List UInt8) (e : Nat) (hl : l.length ≤ 140737488350000) (he : e ≤ 1000) (bx : Nat) (x : It) (T : TypeId) :
    Ct Try.prog 179 [.pointer (some ⟨b, 0, none⟩), .pointer (some ⟨bx, 0, none⟩)] [(some b, .cells #[.pointer none, .slice none 0 0, .pointer (some ⟨br, 0, none⟩), .bool false] 80 (0, 0))] [(some br, .cells #[.string (bs l), .int .i64 ((e : Nat) : Int)] 169 (0, 0)), (some bx, .cells ((cIt x).toArray) T (0, 0))] fun v post => ∃ m l1 e1, Rdg encIt GIt l e m l1 e1 ∧ v = .tuple #[] ∧ post = [(some br, .cells #[.string (bs l1), .int .i64 ((e1 : Nat) : Int)] 169 (0, 0)), (some bx, .cells ((cIt m).toArray) T (0, 0))] := by
 refine Yu Try.func179 rfl rfl (fun w0 => ?_)
 show G _ _ [(0, _), (1, _)] _ _
 refine Yf (Lq := []) (isq := []) (m := 9) Yo rfl rfl ?_
 refine Zi 0 rfl rfl rfl rfl (by kernel_rfl) (fun _ _ => Zc rfl rfl) ?_
 refine Zi 1 rfl rfl rfl rfl (by kernel_rfl) (fun _ _ => Zc rfl rfl) ?_
 refine Zi 2 rfl rfl rfl rfl (by kernel_rfl) (fun _ _ => Ze rfl rfl) ?_
 refine Zi 3 rfl rfl rfl rfl (by kernel_rfl) (fun _ _ => Zb (fo := 0) rfl Try.underlying262 rfl i_3 rfl rfl rfl) ?_
 refine Zi 4 rfl rfl rfl rfl (by kernel_rfl) (fun _ _ => Zc rfl rfl) ?_
 refine Zi 5 rfl rfl rfl rfl (by kernel_rfl) (fun _ _ => Ze rfl rfl) ?_
 refine Zi 6 rfl rfl rfl rfl (by kernel_rfl) (fun _ _ => Zb (fo := 1) rfl Try.underlying262 rfl i_3 rfl rfl rfl) ?_
 refine GH_all [7] (by kernel_rfl) (by decide) ?_
 refine (And.intro ?_ trivial)
 ·
  refine Yl rfl rfl rfl rfl (Zn (s := 1) (cs := [_, _]) rfl Try.underlying241 i_176 rfl rfl rfl rfl rfl rfl rfl rfl rfl) [] (fun _ => ⟨_, rfl⟩) (fun b11 => ?_)
  refine GH_all [8] (by kernel_rfl) (by decide) ?_
  refine (And.intro ?_ trivial)
  ·
   refine Ye (L2 := [_]) rfl rfl rfl rfl rfl rfl Try.call96 (cr_intsL b br l e (by omega) (by omega) _ _ bx (cIt x).toArray T [0, 1] (by simp) (by intro y hy; simp only [cIt_sz]; simp only [List.mem_cons, List.not_mem_nil, or_false] at hy; omega)) [1, 1] [1, 0] rfl rfl [] (by rintro v post ⟨xs0, l1, e1, hxs, r0, rfl, rfl⟩; exact ⟨_, rfl⟩) ?_
   rintro v post ⟨xs0, l1, e1, hxs, r0, rfl, rfl⟩
   show GH _ _ _ _ _ _ _ [_, _, _] _
   obtain ⟨a0, a1, rfl⟩ := len_2 hxs
   rw [show putAll (fun z : Int => Value.int .i64 z) (cIt x).toArray [0, 1] [a0, a1] = (cIt ⟨a0, a1⟩).toArray by unfold cIt; simp only [putAll_cons, putAll_nil, List.set_cons_succ, List.set_cons_zero]]
   have hl1_ := r0.len
   have he1_ := r0.err
   refine Ya (by kernel_rfl) ?_
   refine G_end (post := [_, _]) Try.func179 rfl Zp [0, 0] rfl ?_
   dsimp only [packed]
   exact ⟨⟨a0, a1⟩, l1, e1, rdgIt r0, rfl, rfl⟩

theorem cIv_sz (x : Iv) : (cIv x).toArray.size = 5 := rfl
set_option maxRecDepth 100000 in
set_option maxHeartbeats 1000000 in
theorem cr_inv (b br : Nat) (l : List UInt8) (e : Nat) (hl : l.length ≤ 140737488350000) (he : e ≤ 1000) (bx : Nat) (x : Iv) (T : TypeId) :
    Ct Try.prog 102 [.pointer (some ⟨b, 0, none⟩), .pointer (some ⟨bx, 0, none⟩)] [(some b, .cells #[.pointer none, .slice none 0 0, .pointer (some ⟨br, 0, none⟩), .bool false] 80 (0, 0))] [(some br, .cells #[.string (bs l), .int .i64 ((e : Nat) : Int)] 169 (0, 0)), (some bx, .cells ((cIv x).toArray) T (0, 0))] fun v post => ∃ m l1 e1, Rdg encIv GIv l e m l1 e1 ∧ v = .tuple #[] ∧ post = [(some br, .cells #[.string (bs l1), .int .i64 ((e1 : Nat) : Int)] 169 (0, 0)), (some bx, .cells ((cIv m).toArray) T (0, 0))] := by
 refine Yu Try.func102 rfl rfl (fun w0 => ?_)
 show G _ _ [(0, _), (1, _)] _ _
 refine Zh ?_
 refine Yf (Lq := []) (isq := []) (m := 15) Yo rfl rfl ?_
 refine Zi 0 rfl rfl rfl rfl (by kernel_rfl) (fun _ _ => Zc rfl rfl) ?_
 refine Zi 1 rfl rfl rfl rfl (by kernel_rfl) (fun _ _ => Zc rfl rfl) ?_
 refine Zi 2 rfl rfl rfl rfl (by kernel_rfl) (fun _ _ => Ze rfl rfl) ?_
 refine Zi 3 rfl rfl rfl rfl (by kernel_rfl) (fun _ _ => Zb (fo := 0) rfl Try.underlying95 rfl i_3 rfl rfl rfl) ?_
 refine Zi 4 rfl rfl rfl rfl (by kernel_rfl) (fun _ _ => Zc rfl rfl) ?_
 refine Zi 5 rfl rfl rfl rfl (by kernel_rfl) (fun _ _ => Ze rfl rfl) ?_
 refine Zi 6 rfl rfl rfl rfl (by kernel_rfl) (fun _ _ => Zb (fo := 1) rfl Try.underlying95 rfl i_3 rfl rfl rfl) ?_
 refine Zi 7 rfl rfl rfl rfl (by kernel_rfl) (fun _ _ => Zc rfl rfl) ?_
 refine Zi 8 rfl rfl rfl rfl (by kernel_rfl) (fun _ _ => Ze rfl rfl) ?_
 refine Zi 9 rfl rfl rfl rfl (by kernel_rfl) (fun _ _ => Zb (fo := 3) rfl Try.underlying95 rfl i_3 rfl rfl rfl) ?_
 refine Zi 10 rfl rfl rfl rfl (by kernel_rfl) (fun _ _ => Zc rfl rfl) ?_
 refine Zi 11 rfl rfl rfl rfl (by kernel_rfl) (fun _ _ => Ze rfl rfl) ?_
 refine Zi 12 rfl rfl rfl rfl (by kernel_rfl) (fun _ _ => Zb (fo := 4) rfl Try.underlying95 rfl i_3 rfl rfl rfl) ?_
 refine GH_all [13] (by kernel_rfl) (by decide) ?_
 refine (And.intro ?_ trivial)
 ·
  refine Yl rfl rfl rfl rfl (Zn (s := 1) (cs := [_, _, _, _]) rfl Try.underlying241 i_176 rfl rfl rfl rfl rfl rfl rfl rfl rfl) [] (fun _ => ⟨_, rfl⟩) (fun b17 => ?_)
  refine GH_all [14] (by kernel_rfl) (by decide) ?_
  refine (And.intro ?_ trivial)
  ·
   refine Ye (L2 := [_]) rfl rfl rfl rfl rfl rfl Try.call96 (cr_intsL b br l e (by omega) (by omega) _ _ bx (cIv x).toArray T [0, 1, 3, 4] (by simp) (by intro y hy; simp only [cIv_sz]; simp only [List.mem_cons, List.not_mem_nil, or_false] at hy; omega)) [1, 1] [1, 0] rfl rfl [] (by rintro v post ⟨xs0, l1, e1, hxs, r0, rfl, rfl⟩; exact ⟨_, rfl⟩) ?_
   rintro v post ⟨xs0, l1, e1, hxs, r0, rfl, rfl⟩
   show GH _ _ _ _ _ _ _ [_, _, _] _
   obtain ⟨a0, a1, a3, a4, rfl⟩ := len_4 hxs
   rw [show putAll (fun z : Int => Value.int .i64 z) (cIv x).toArray [0, 1, 3, 4] [a0, a1, a3, a4] = (cIv ⟨a0, a1, x.v2, a3, a4⟩).toArray by unfold cIv; simp only [putAll_cons, putAll_nil, List.set_cons_succ, List.set_cons_zero]]
   have hl1_ := r0.len
   have he1_ := r0.err
   refine Ya (by kernel_rfl) ?_
   refine Zd (l := [0, 1, 2, 3, 4, 5]) rfl ?_
   refine Za rfl rfl rfl rfl (Zc rfl rfl) ?_
   refine Za rfl rfl rfl rfl (Zc rfl rfl) ?_
   refine Za rfl rfl rfl rfl (Ze rfl rfl) ?_
   refine Za rfl rfl rfl rfl (Zb (fo := 2) rfl Try.underlying95 rfl i_9 rfl rfl rfl) ?_
   refine Yw rfl rfl rfl rfl (Zn (s := 1) (cs := [_]) rfl Try.underlying278 i_244 rfl rfl rfl rfl rfl rfl rfl rfl rfl) (fun b23 => ?_)
   refine Zq (L2 := [_, _]) rfl rfl rfl rfl rfl rfl Try.call142 (cr_textsL b br l1 e1 (by omega) (by omega) _ _ bx (cIv ⟨a0, a1, x.v2, a3, a4⟩).toArray T [2] (by simp) (by intro y hy; simp only [cIv_sz]; simp only [List.mem_cons, List.not_mem_nil, or_false] at hy; omega)) [1, 1] [1, 0] rfl rfl ?_
   rintro v post ⟨xs1, l2, e2, hxs, r1, rfl, rfl⟩
   show G _ _ _ [_, _, _, _] _
   obtain ⟨a2, rfl⟩ := len_1 hxs
   rw [show putAll (fun z : List UInt8 => Value.string (bs z)) (cIv ⟨a0, a1, x.v2, a3, a4⟩).toArray [2] [a2] = (cIv ⟨a0, a1, a2, a3, a4⟩).toArray by unfold cIv; simp only [putAll_cons, putAll_nil, List.set_cons_succ, List.set_cons_zero]]
   have hl2_ := r1.len
   have he2_ := r1.err
   refine Zg ?_
   refine G_end (post := [_, _]) Try.func102 rfl Zp [0, 0] rfl ?_
   dsimp only [packed]
   exact ⟨⟨a0, a1, a2, a3, a4⟩, l2, e2, rdgIv r0 r1, rfl, rfl⟩

theorem cLt_sz (x : Lt) : (cLt x).toArray.size = 6 := rfl
set_option maxRecDepth 100000 in
set_option maxHeartbeats 1000000 in
theorem cr_letter (b br : Nat) (l : List UInt8) (e : Nat) (hl : l.length ≤ 140737488350000) (he : e ≤ 1000) (bx : Nat) (x : Lt) (T : TypeId) :
    Ct Try.prog 108 [.pointer (some ⟨b, 0, none⟩), .pointer (some ⟨bx, 0, none⟩)] [(some b, .cells #[.pointer none, .slice none 0 0, .pointer (some ⟨br, 0, none⟩), .bool false] 80 (0, 0))] [(some br, .cells #[.string (bs l), .int .i64 ((e : Nat) : Int)] 169 (0, 0)), (some bx, .cells ((cLt x).toArray) T (0, 0))] fun v post => ∃ m l1 e1, Rdg encLt GLt l e m l1 e1 ∧ v = .tuple #[] ∧ post = [(some br, .cells #[.string (bs l1), .int .i64 ((e1 : Nat) : Int)] 169 (0, 0)), (some bx, .cells ((cLt m).toArray) T (0, 0))] := by
 refine Yu Try.func108 rfl rfl (fun w0 => ?_)
 show G _ _ [(0, _), (1, _)] _ _
 refine Zh ?_
 refine Yf (Lq := []) (isq := []) (m := 15) Yo rfl rfl ?_
 refine Zi 0 rfl rfl rfl rfl (by kernel_rfl) (fun _ _ => Zc rfl rfl) ?_
 refine Zi 1 rfl rfl rfl rfl (by kernel_rfl) (fun _ _ => Zc rfl rfl) ?_
 refine Zi 2 rfl rfl rfl rfl (by kernel_rfl) (fun _ _ => Ze rfl rfl) ?_
 refine Zi 3 rfl rfl rfl rfl (by kernel_rfl) (fun _ _ => Zb (fo := 0) rfl Try.underlying143 rfl i_3 rfl rfl rfl) ?_
 refine Zi 4 rfl rfl rfl rfl (by kernel_rfl) (fun _ _ => Zc rfl rfl) ?_
 refine Zi 5 rfl rfl rfl rfl (by kernel_rfl) (fun _ _ => Ze rfl rfl) ?_
 refine Zi 6 rfl rfl rfl rfl (by kernel_rfl) (fun _ _ => Zb (fo := 1) rfl Try.underlying143 rfl i_3 rfl rfl rfl) ?_
 refine Zi 7 rfl rfl rfl rfl (by kernel_rfl) (fun _ _ => Zc rfl rfl) ?_
 refine Zi 8 rfl rfl rfl rfl (by kernel_rfl) (fun _ _ => Ze rfl rfl) ?_
 refine Zi 9 rfl rfl rfl rfl (by kernel_rfl) (fun _ _ => Zb (fo := 2) rfl Try.underlying143 rfl i_3 rfl rfl rfl) ?_
 refine Zi 10 rfl rfl rfl rfl (by kernel_rfl) (fun _ _ => Zc rfl rfl) ?_
 refine Zi 11 rfl rfl rfl rfl (by kernel_rfl) (fun _ _ => Ze rfl rfl) ?_
 refine Zi 12 rfl rfl rfl rfl (by kernel_rfl) (fun _ _ => Zb (fo := 3) rfl Try.underlying143 rfl i_3 rfl rfl rfl) ?_
 refine GH_all [13] (by kernel_rfl) (by decide) ?_
 refine (And.intro ?_ trivial)
 ·
  refine Yl rfl rfl rfl rfl (Zn (s := 1) (cs := [_, _, _, _]) rfl Try.underlying241 i_176 rfl rfl rfl rfl rfl rfl rfl rfl rfl) [] (fun _ => ⟨_, rfl⟩) (fun b17 => ?_)
  refine GH_all [14] (by kernel_rfl) (by decide) ?_
  refine (And.intro ?_ trivial)
  ·
   refine Ye (L2 := [_]) rfl rfl rfl rfl rfl rfl Try.call96 (cr_intsL b br l e (by omega) (by omega) _ _ bx (cLt x).toArray T [0, 1, 2, 3] (by simp) (by intro y hy; simp only [cLt_sz]; simp only [List.mem_cons, List.not_mem_nil, or_false] at hy; omega)) [1, 1] [1, 0] rfl rfl [] (by rintro v post ⟨xs0, l1, e1, hxs, r0, rfl, rfl⟩; exact ⟨_, rfl⟩) ?_
   rintro v post ⟨xs0, l1, e1, hxs, r0, rfl, rfl⟩
   show GH _ _ _ _ _ _ _ [_, _, _] _
   obtain ⟨a0, a1, a2, a3, rfl⟩ := len_4 hxs
   rw [show putAll (fun z : Int => Value.int .i64 z) (cLt x).toArray [0, 1, 2, 3] [a0, a1, a2, a3] = (cLt ⟨a0, a1, a2, a3, x.v4, x.v5⟩).toArray by unfold cLt; simp only [putAll_cons, putAll_nil, List.set_cons_succ, List.set_cons_zero]]
   have hl1_ := r0.len
   have he1_ := r0.err
   refine Ya (by kernel_rfl) ?_
   refine Zh ?_
   refine Zd (l := [0, 1, 2, 3, 4, 5]) rfl ?_
   refine Za rfl rfl rfl rfl (Zc rfl rfl) ?_
   refine Za rfl rfl rfl rfl (Zc rfl rfl) ?_
   refine Za rfl rfl rfl rfl (Ze rfl rfl) ?_
   refine Za rfl rfl rfl rfl (Zb (fo := 4) rfl Try.underlying143 rfl i_9 rfl rfl rfl) ?_
   refine Yw rfl rfl rfl rfl (Zn (s := 1) (cs := [_]) rfl Try.underlying278 i_244 rfl rfl rfl rfl rfl rfl rfl rfl rfl) (fun b23 => ?_)
   refine Zq (L2 := [_, _]) rfl rfl rfl rfl rfl rfl Try.call142 (cr_textsL b br l1 e1 (by omega) (by omega) _ _ bx (cLt ⟨a0, a1, a2, a3, x.v4, x.v5⟩).toArray T [4] (by simp) (by intro y hy; simp only [cLt_sz]; simp only [List.mem_cons, List.not_mem_nil, or_false] at hy; omega)) [1, 1] [1, 0] rfl rfl ?_
   rintro v post ⟨xs1, l2, e2, hxs, r1, rfl, rfl⟩
   show G _ _ _ [_, _, _, _] _
   obtain ⟨a4, rfl⟩ := len_1 hxs
   rw [show putAll (fun z : List UInt8 => Value.string (bs z)) (cLt ⟨a0, a1, a2, a3, x.v4, x.v5⟩).toArray [4] [a4] = (cLt ⟨a0, a1, a2, a3, a4, x.v5⟩).toArray by unfold cLt; simp only [putAll_cons, putAll_nil, List.set_cons_succ, List.set_cons_zero]]
   have hl2_ := r1.len
   have he2_ := r1.err
   refine Zg ?_
   refine Zd (l := [0, 1, 2, 3, 4]) rfl ?_
   refine Za rfl rfl rfl rfl (Zc rfl rfl) ?_
   refine Za rfl rfl rfl rfl (Zc rfl rfl) ?_
   refine Za rfl rfl rfl rfl (Ze rfl rfl) ?_
   refine Za rfl rfl rfl rfl (Zb (fo := 5) rfl Try.underlying143 rfl i_23 rfl rfl rfl) ?_
   refine Zq (L2 := [_, _]) rfl rfl rfl rfl rfl rfl Try.call94 (cr_num b br l2 e2 (by omega) (by omega) bx 5 (cLt ⟨a0, a1, a2, a3, a4, x.v5⟩).toArray T (by rw [cLt_sz]; omega)) [0, 0] [0] rfl rfl ?_
   rintro v post ⟨a5, l3, e3, r2, rfl, rfl⟩
   show G _ _ _ [_, _, _, _] _
   rw [show ((cLt ⟨a0, a1, a2, a3, a4, x.v5⟩).toArray).setIfInBounds 5 (.int .u64 (a5 : Int)) = (cLt ⟨a0, a1, a2, a3, a4, a5⟩).toArray from rfl]
   have hl3_ := r2.len
   have he3_ := r2.err
   refine Zg ?_
   refine G_end (post := [_, _]) Try.func108 rfl Zp [0, 0] rfl ?_
   dsimp only [packed]
   exact ⟨⟨a0, a1, a2, a3, a4, a5⟩, l3, e3, rdgLt r0 r1 r2, rfl, rfl⟩

theorem cWt_sz (x : Wt) : (cWt x).toArray.size = 2 := rfl
set_option maxRecDepth 100000 in
set_option maxHeartbeats 1000000 in
theorem cr_watcher (b br : Nat) (l : List UInt8) (e : Nat) (hl : l.length ≤ 140737488350000) (he : e ≤ 1000) (bx : Nat) (x : Wt) (T : TypeId) :
    Ct Try.prog 110 [.pointer (some ⟨b, 0, none⟩), .pointer (some ⟨bx, 0, none⟩)] [(some b, .cells #[.pointer none, .slice none 0 0, .pointer (some ⟨br, 0, none⟩), .bool false] 80 (0, 0))] [(some br, .cells #[.string (bs l), .int .i64 ((e : Nat) : Int)] 169 (0, 0)), (some bx, .cells ((cWt x).toArray) T (0, 0))] fun v post => ∃ m l1 e1, Rdg encWt GWt l e m l1 e1 ∧ v = .tuple #[] ∧ post = [(some br, .cells #[.string (bs l1), .int .i64 ((e1 : Nat) : Int)] 169 (0, 0)), (some bx, .cells ((cWt m).toArray) T (0, 0))] := by
 refine Yu Try.func110 rfl rfl (fun w0 => ?_)
 show G _ _ [(0, _), (1, _)] _ _
 refine Zh ?_
 refine Zd (l := [0, 1, 2, 3, 4, 5]) rfl ?_
 refine Za rfl rfl rfl rfl (Zc rfl rfl) ?_
 refine Za rfl rfl rfl rfl (Zc rfl rfl) ?_
 refine Za rfl rfl rfl rfl (Ze rfl rfl) ?_
 refine Za rfl rfl rfl rfl (Zb (fo := 0) rfl Try.underlying145 rfl i_9 rfl rfl rfl) ?_
 refine Yw rfl rfl rfl rfl (Zn (s := 1) (cs := [_]) rfl Try.underlying278 i_244 rfl rfl rfl rfl rfl rfl rfl rfl rfl) (fun b8 => ?_)
 refine Zq (L2 := [_]) rfl rfl rfl rfl rfl rfl Try.call142 (cr_textsL b br l e (by omega) (by omega) _ _ bx (cWt x).toArray T [0] (by simp) (by intro y hy; simp only [cWt_sz]; simp only [List.mem_cons, List.not_mem_nil, or_false] at hy; omega)) [1, 1] [1, 0] rfl rfl ?_
 rintro v post ⟨xs0, l1, e1, hxs, r0, rfl, rfl⟩
 show G _ _ _ [_, _, _] _
 obtain ⟨a0, rfl⟩ := len_1 hxs
 rw [show putAll (fun z : List UInt8 => Value.string (bs z)) (cWt x).toArray [0] [a0] = (cWt ⟨a0, x.v1⟩).toArray by unfold cWt; simp only [putAll_cons, putAll_nil, List.set_cons_succ, List.set_cons_zero]]
 have hl1_ := r0.len
 have he1_ := r0.err
 refine Zg ?_
 refine Zd (l := [0, 1, 2, 3, 4, 5]) rfl ?_
 refine Za rfl rfl rfl rfl (Zc rfl rfl) ?_
 refine Za rfl rfl rfl rfl (Zc rfl rfl) ?_
 refine Za rfl rfl rfl rfl (Ze rfl rfl) ?_
 refine Za rfl rfl rfl rfl (Zb (fo := 1) rfl Try.underlying145 rfl i_3 rfl rfl rfl) ?_
 refine Yw rfl rfl rfl rfl (Zn (s := 1) (cs := [_]) rfl Try.underlying241 i_176 rfl rfl rfl rfl rfl rfl rfl rfl rfl) (fun b14 => ?_)
 refine Zq (L2 := [_, _]) rfl rfl rfl rfl rfl rfl Try.call96 (cr_intsL b br l1 e1 (by omega) (by omega) _ _ bx (cWt ⟨a0, x.v1⟩).toArray T [1] (by simp) (by intro y hy; simp only [cWt_sz]; simp only [List.mem_cons, List.not_mem_nil, or_false] at hy; omega)) [1, 1] [1, 0] rfl rfl ?_
 rintro v post ⟨xs1, l2, e2, hxs, r1, rfl, rfl⟩
 show G _ _ _ [_, _, _, _] _
 obtain ⟨a1, rfl⟩ := len_1 hxs
 rw [show putAll (fun z : Int => Value.int .i64 z) (cWt ⟨a0, x.v1⟩).toArray [1] [a1] = (cWt ⟨a0, a1⟩).toArray by unfold cWt; simp only [putAll_cons, putAll_nil, List.set_cons_succ, List.set_cons_zero]]
 have hl2_ := r1.len
 have he2_ := r1.err
 refine Zg ?_
 refine G_end (post := [_, _]) Try.func110 rfl Zp [0, 0] rfl ?_
 dsimp only [packed]
 exact ⟨⟨a0, a1⟩, l2, e2, rdgWt r0 r1, rfl, rfl⟩

theorem cWk_sz (x : Wk) : (cWk x).toArray.size = 7 := rfl
set_option maxRecDepth 100000 in
set_option maxHeartbeats 1000000 in
theorem cr_worker (b br : Nat) (l : List UInt8) (e : Nat) (hl : l.length ≤ 140737488350000) (he : e ≤ 1000) (bx : Nat) (x : Wk) (T : TypeId) :
    Ct Try.prog 100 [.pointer (some ⟨b, 0, none⟩), .pointer (some ⟨bx, 0, none⟩)] [(some b, .cells #[.pointer none, .slice none 0 0, .pointer (some ⟨br, 0, none⟩), .bool false] 80 (0, 0))] [(some br, .cells #[.string (bs l), .int .i64 ((e : Nat) : Int)] 169 (0, 0)), (some bx, .cells ((cWk x).toArray) T (0, 0))] fun v post => ∃ m l1 e1, Rdg encWk GWk l e m l1 e1 ∧ v = .tuple #[] ∧ post = [(some br, .cells #[.string (bs l1), .int .i64 ((e1 : Nat) : Int)] 169 (0, 0)), (some bx, .cells ((cWk m).toArray) T (0, 0))] := by
 refine Yu Try.func100 rfl rfl (fun w0 => ?_)
 show G _ _ [(0, _), (1, _)] _ _
 refine Zh ?_
 refine Yf (Lq := []) (isq := []) (m := 12) Yo rfl rfl ?_
 refine Zi 0 rfl rfl rfl rfl (by kernel_rfl) (fun _ _ => Zc rfl rfl) ?_
 refine Zi 1 rfl rfl rfl rfl (by kernel_rfl) (fun _ _ => Zc rfl rfl) ?_
 refine Zi 2 rfl rfl rfl rfl (by kernel_rfl) (fun _ _ => Ze rfl rfl) ?_
 refine Zi 3 rfl rfl rfl rfl (by kernel_rfl) (fun _ _ => Zb (fo := 0) rfl Try.underlying92 rfl i_3 rfl rfl rfl) ?_
 refine Zi 4 rfl rfl rfl rfl (by kernel_rfl) (fun _ _ => Zc rfl rfl) ?_
 refine Zi 5 rfl rfl rfl rfl (by kernel_rfl) (fun _ _ => Ze rfl rfl) ?_
 refine Zi 6 rfl rfl rfl rfl (by kernel_rfl) (fun _ _ => Zb (fo := 1) rfl Try.underlying92 rfl i_3 rfl rfl rfl) ?_
 refine Zi 7 rfl rfl rfl rfl (by kernel_rfl) (fun _ _ => Zc rfl rfl) ?_
 refine Zi 8 rfl rfl rfl rfl (by kernel_rfl) (fun _ _ => Ze rfl rfl) ?_
 refine Zi 9 rfl rfl rfl rfl (by kernel_rfl) (fun _ _ => Zb (fo := 2) rfl Try.underlying92 rfl i_3 rfl rfl rfl) ?_
 refine GH_all [10] (by kernel_rfl) (by decide) ?_
 refine (And.intro ?_ trivial)
 ·
  refine Yl rfl rfl rfl rfl (Zn (s := 1) (cs := [_, _, _]) rfl Try.underlying241 i_176 rfl rfl rfl rfl rfl rfl rfl rfl rfl) [] (fun _ => ⟨_, rfl⟩) (fun b14 => ?_)
  refine GH_all [11] (by kernel_rfl) (by decide) ?_
  refine (And.intro ?_ trivial)
  ·
   refine Ye (L2 := [_]) rfl rfl rfl rfl rfl rfl Try.call96 (cr_intsL b br l e (by omega) (by omega) _ _ bx (cWk x).toArray T [0, 1, 2] (by simp) (by intro y hy; simp only [cWk_sz]; simp only [List.mem_cons, List.not_mem_nil, or_false] at hy; omega)) [1, 1] [1, 0] rfl rfl [] (by rintro v post ⟨xs0, l1, e1, hxs, r0, rfl, rfl⟩; exact ⟨_, rfl⟩) ?_
   rintro v post ⟨xs0, l1, e1, hxs, r0, rfl, rfl⟩
   show GH _ _ _ _ _ _ _ [_, _, _] _
   obtain ⟨a0, a1, a2, rfl⟩ := len_3 hxs
   rw [show putAll (fun z : Int => Value.int .i64 z) (cWk x).toArray [0, 1, 2] [a0, a1, a2] = (cWk ⟨a0, a1, a2, x.v3, x.v4, x.v5, x.v6⟩).toArray by unfold cWk; simp only [putAll_cons, putAll_nil, List.set_cons_succ, List.set_cons_zero]]
   have hl1_ := r0.len
   have he1_ := r0.err
   refine Ya (by kernel_rfl) ?_
   refine Zh ?_
   refine Yf (Lq := []) (isq := []) (m := 9) Yo rfl rfl ?_
   refine Zi 0 rfl rfl rfl rfl (by kernel_rfl) (fun _ _ => Zc rfl rfl) ?_
   refine Zi 1 rfl rfl rfl rfl (by kernel_rfl) (fun _ _ => Zc rfl rfl) ?_
   refine Zi 2 rfl rfl rfl rfl (by kernel_rfl) (fun _ _ => Ze rfl rfl) ?_
   refine Zi 3 rfl rfl rfl rfl (by kernel_rfl) (fun _ _ => Zb (fo := 3) rfl Try.underlying92 rfl i_9 rfl rfl rfl) ?_
   refine Zi 4 rfl rfl rfl rfl (by kernel_rfl) (fun _ _ => Zc rfl rfl) ?_
   refine Zi 5 rfl rfl rfl rfl (by kernel_rfl) (fun _ _ => Ze rfl rfl) ?_
   refine Zi 6 rfl rfl rfl rfl (by kernel_rfl) (fun _ _ => Zb (fo := 4) rfl Try.underlying92 rfl i_9 rfl rfl rfl) ?_
   refine GH_all [7] (by kernel_rfl) (by decide) ?_
   refine (And.intro ?_ trivial)
   ·
    refine Yl rfl rfl rfl rfl (Zn (s := 1) (cs := [_, _]) rfl Try.underlying278 i_244 rfl rfl rfl rfl rfl rfl rfl rfl rfl) [] (fun _ => ⟨_, rfl⟩) (fun b23 => ?_)
    refine GH_all [8] (by kernel_rfl) (by decide) ?_
    refine (And.intro ?_ trivial)
    ·
     refine Ye (L2 := [_, _]) rfl rfl rfl rfl rfl rfl Try.call142 (cr_textsL b br l1 e1 (by omega) (by omega) _ _ bx (cWk ⟨a0, a1, a2, x.v3, x.v4, x.v5, x.v6⟩).toArray T [3, 4] (by simp) (by intro y hy; simp only [cWk_sz]; simp only [List.mem_cons, List.not_mem_nil, or_false] at hy; omega)) [1, 1] [1, 0] rfl rfl [] (by rintro v post ⟨xs1, l2, e2, hxs, r1, rfl, rfl⟩; exact ⟨_, rfl⟩) ?_
     rintro v post ⟨xs1, l2, e2, hxs, r1, rfl, rfl⟩
     show GH _ _ _ _ _ _ _ [_, _, _, _] _
     obtain ⟨a3, a4, rfl⟩ := len_2 hxs
     rw [show putAll (fun z : List UInt8 => Value.string (bs z)) (cWk ⟨a0, a1, a2, x.v3, x.v4, x.v5, x.v6⟩).toArray [3, 4] [a3, a4] = (cWk ⟨a0, a1, a2, a3, a4, x.v5, x.v6⟩).toArray by unfold cWk; simp only [putAll_cons, putAll_nil, List.set_cons_succ, List.set_cons_zero]]
     have hl2_ := r1.len
     have he2_ := r1.err
     refine Ya (by kernel_rfl) ?_
     refine Zh ?_
     refine Zd (l := [0, 1, 2, 3, 4]) rfl ?_
     refine Za rfl rfl rfl rfl (Zc rfl rfl) ?_
     refine Za rfl rfl rfl rfl (Zc rfl rfl) ?_
     refine Za rfl rfl rfl rfl (Ze rfl rfl) ?_
     refine Za rfl rfl rfl rfl (Zb (fo := 5) rfl Try.underlying92 rfl i_4 rfl rfl rfl) ?_
     refine Zq (L2 := [_, _]) rfl rfl rfl rfl rfl rfl Try.call95 (cr_flag b br l2 e2 (by omega) (by omega) bx 5 (cWk ⟨a0, a1, a2, a3, a4, x.v5, x.v6⟩).toArray T (by rw [cWk_sz]; omega)) [0, 0] [0] rfl rfl ?_
     rintro v post ⟨a5, l3, e3, r2, rfl, rfl⟩
     show G _ _ _ [_, _, _, _] _
     rw [show ((cWk ⟨a0, a1, a2, a3, a4, x.v5, x.v6⟩).toArray).setIfInBounds 5 (.bool a5) = (cWk ⟨a0, a1, a2, a3, a4, a5, x.v6⟩).toArray from rfl]
     have hl3_ := r2.len
     have he3_ := r2.err
     refine Zg ?_
     refine Zd (l := [0, 1, 2, 3, 4]) rfl ?_
     refine Za rfl rfl rfl rfl (Zc rfl rfl) ?_
     refine Za rfl rfl rfl rfl (Zc rfl rfl) ?_
     refine Za rfl rfl rfl rfl (Ze rfl rfl) ?_
     refine Za rfl rfl rfl rfl (Zb (fo := 6) rfl Try.underlying92 rfl i_23 rfl rfl rfl) ?_
     refine Zq (L2 := [_, _]) rfl rfl rfl rfl rfl rfl Try.call94 (cr_num b br l3 e3 (by omega) (by omega) bx 6 (cWk ⟨a0, a1, a2, a3, a4, a5, x.v6⟩).toArray T (by rw [cWk_sz]; omega)) [0, 0] [0] rfl rfl ?_
     rintro v post ⟨a6, l4, e4, r3, rfl, rfl⟩
     show G _ _ _ [_, _, _, _] _
     rw [show ((cWk ⟨a0, a1, a2, a3, a4, a5, x.v6⟩).toArray).setIfInBounds 6 (.int .u64 (a6 : Int)) = (cWk ⟨a0, a1, a2, a3, a4, a5, a6⟩).toArray from rfl]
     have hl4_ := r3.len
     have he4_ := r3.err
     refine Zg ?_
     refine G_end (post := [_, _]) Try.func100 rfl Zp [0, 0] rfl ?_
     dsimp only [packed]
     exact ⟨⟨a0, a1, a2, a3, a4, a5, a6⟩, l4, e4, rdgWk r0 r1 r2 r3, rfl, rfl⟩

theorem cOp_sz (x : Op) : (cOp x).toArray.size = 18 := rfl
set_option maxRecDepth 100000 in
set_option maxHeartbeats 1000000 in
theorem cr_op (b br : Nat) (l : List UInt8) (e : Nat) (hl : l.length ≤ 140737488350000) (he : e ≤ 1000) (bx : Nat) (x : Op) (T : TypeId) :
    Ct Try.prog 98 [.pointer (some ⟨b, 0, none⟩), .pointer (some ⟨bx, 0, none⟩)] [(some b, .cells #[.pointer none, .slice none 0 0, .pointer (some ⟨br, 0, none⟩), .bool false] 80 (0, 0))] [(some br, .cells #[.string (bs l), .int .i64 ((e : Nat) : Int)] 169 (0, 0)), (some bx, .cells ((cOp x).toArray) T (0, 0))] fun v post => ∃ m l1 e1, Rdg encOp GOp l e m l1 e1 ∧ v = .tuple #[] ∧ post = [(some br, .cells #[.string (bs l1), .int .i64 ((e1 : Nat) : Int)] 169 (0, 0)), (some bx, .cells ((cOp m).toArray) T (0, 0))] := by
 refine Yu Try.func98 rfl rfl (fun w0 => ?_)
 show G _ _ [(0, _), (1, _)] _ _
 refine Zh ?_
 refine Yf (Lq := []) (isq := []) (m := 39) Yo rfl rfl ?_
 refine Zi 0 rfl rfl rfl rfl (by kernel_rfl) (fun _ _ => Zc rfl rfl) ?_
 refine Zi 1 rfl rfl rfl rfl (by kernel_rfl) (fun _ _ => Zc rfl rfl) ?_
 refine Zi 2 rfl rfl rfl rfl (by kernel_rfl) (fun _ _ => Ze rfl rfl) ?_
 refine Zi 3 rfl rfl rfl rfl (by kernel_rfl) (fun _ _ => Zb (fo := 0) rfl Try.underlying137 rfl i_3 rfl rfl rfl) ?_
 refine Zi 4 rfl rfl rfl rfl (by kernel_rfl) (fun _ _ => Zc rfl rfl) ?_
 refine Zi 5 rfl rfl rfl rfl (by kernel_rfl) (fun _ _ => Ze rfl rfl) ?_
 refine Zi 6 rfl rfl rfl rfl (by kernel_rfl) (fun _ _ => Zb (fo := 1) rfl Try.underlying137 rfl i_3 rfl rfl rfl) ?_
 refine Zi 7 rfl rfl rfl rfl (by kernel_rfl) (fun _ _ => Zc rfl rfl) ?_
 refine Zi 8 rfl rfl rfl rfl (by kernel_rfl) (fun _ _ => Ze rfl rfl) ?_
 refine Zi 9 rfl rfl rfl rfl (by kernel_rfl) (fun _ _ => Zb (fo := 2) rfl Try.underlying137 rfl i_3 rfl rfl rfl) ?_
 refine Zi 10 rfl rfl rfl rfl (by kernel_rfl) (fun _ _ => Zc rfl rfl) ?_
 refine Zi 11 rfl rfl rfl rfl (by kernel_rfl) (fun _ _ => Ze rfl rfl) ?_
 refine Zi 12 rfl rfl rfl rfl (by kernel_rfl) (fun _ _ => Zb (fo := 6) rfl Try.underlying137 rfl i_3 rfl rfl rfl) ?_
 refine Zi 13 rfl rfl rfl rfl (by kernel_rfl) (fun _ _ => Zc rfl rfl) ?_
 refine Zi 14 rfl rfl rfl rfl (by kernel_rfl) (fun _ _ => Ze rfl rfl) ?_
 refine Zi 15 rfl rfl rfl rfl (by kernel_rfl) (fun _ _ => Zb (fo := 7) rfl Try.underlying137 rfl i_3 rfl rfl rfl) ?_
 refine Zi 16 rfl rfl rfl rfl (by kernel_rfl) (fun _ _ => Zc rfl rfl) ?_
 refine Zi 17 rfl rfl rfl rfl (by kernel_rfl) (fun _ _ => Ze rfl rfl) ?_
 refine Zi 18 rfl rfl rfl rfl (by kernel_rfl) (fun _ _ => Zb (fo := 8) rfl Try.underlying137 rfl i_3 rfl rfl rfl) ?_
 refine Zi 19 rfl rfl rfl rfl (by kernel_rfl) (fun _ _ => Zc rfl rfl) ?_
 refine Zi 20 rfl rfl rfl rfl (by kernel_rfl) (fun _ _ => Ze rfl rfl) ?_
 refine Zi 21 rfl rfl rfl rfl (by kernel_rfl) (fun _ _ => Zb (fo := 9) rfl Try.underlying137 rfl i_3 rfl rfl rfl) ?_
 refine Zi 22 rfl rfl rfl rfl (by kernel_rfl) (fun _ _ => Zc rfl rfl) ?_
 refine Zi 23 rfl rfl rfl rfl (by kernel_rfl) (fun _ _ => Ze rfl rfl) ?_
 refine Zi 24 rfl rfl rfl rfl (by kernel_rfl) (fun _ _ => Zb (fo := 10) rfl Try.underlying137 rfl i_3 rfl rfl rfl) ?_
 refine Zi 25 rfl rfl rfl rfl (by kernel_rfl) (fun _ _ => Zc rfl rfl) ?_
 refine Zi 26 rfl rfl rfl rfl (by kernel_rfl) (fun _ _ => Ze rfl rfl) ?_
 refine Zi 27 rfl rfl rfl rfl (by kernel_rfl) (fun _ _ => Zb (fo := 11) rfl Try.underlying137 rfl i_3 rfl rfl rfl) ?_
 refine Zi 28 rfl rfl rfl rfl (by kernel_rfl) (fun _ _ => Zc rfl rfl) ?_
 refine Zi 29 rfl rfl rfl rfl (by kernel_rfl) (fun _ _ => Ze rfl rfl) ?_
 refine Zi 30 rfl rfl rfl rfl (by kernel_rfl) (fun _ _ => Zb (fo := 12) rfl Try.underlying137 rfl i_3 rfl rfl rfl) ?_
 refine Zi 31 rfl rfl rfl rfl (by kernel_rfl) (fun _ _ => Zc rfl rfl) ?_
 refine Zi 32 rfl rfl rfl rfl (by kernel_rfl) (fun _ _ => Ze rfl rfl) ?_
 refine Zi 33 rfl rfl rfl rfl (by kernel_rfl) (fun _ _ => Zb (fo := 13) rfl Try.underlying137 rfl i_3 rfl rfl rfl) ?_
 refine Zi 34 rfl rfl rfl rfl (by kernel_rfl) (fun _ _ => Zc rfl rfl) ?_
 refine Zi 35 rfl rfl rfl rfl (by kernel_rfl) (fun _ _ => Ze rfl rfl) ?_
 refine Zi 36 rfl rfl rfl rfl (by kernel_rfl) (fun _ _ => Zb (fo := 14) rfl Try.underlying137 rfl i_3 rfl rfl rfl) ?_
 refine GH_all [37] (by kernel_rfl) (by decide) ?_
 refine (And.intro ?_ trivial)
 ·
  refine Yl rfl rfl rfl rfl (Zn (s := 1) (cs := [_, _, _, _, _, _, _, _, _, _, _, _]) rfl Try.underlying241 i_176 rfl rfl rfl rfl rfl rfl rfl rfl rfl) [] (fun _ => ⟨_, rfl⟩) (fun b41 => ?_)
  refine GH_all [38] (by kernel_rfl) (by decide) ?_
  refine (And.intro ?_ trivial)
  ·
   refine Ye (L2 := [_]) rfl rfl rfl rfl rfl rfl Try.call96 (cr_intsL b br l e (by omega) (by omega) _ _ bx (cOp x).toArray T [0, 1, 2, 6, 7, 8, 9, 10, 11, 12, 13, 14] (by simp) (by intro y hy; simp only [cOp_sz]; simp only [List.mem_cons, List.not_mem_nil, or_false] at hy; omega)) [1, 1] [1, 0] rfl rfl [] (by rintro v post ⟨xs0, l1, e1, hxs, r0, rfl, rfl⟩; exact ⟨_, rfl⟩) ?_
   rintro v post ⟨xs0, l1, e1, hxs, r0, rfl, rfl⟩
   show GH _ _ _ _ _ _ _ [_, _, _] _
   obtain ⟨a0, a1, a2, a6, a7, a8, a9, a10, a11, a12, a13, a14, rfl⟩ := len_12 hxs
   rw [show putAll (fun z : Int => Value.int .i64 z) (cOp x).toArray [0, 1, 2, 6, 7, 8, 9, 10, 11, 12, 13, 14] [a0, a1, a2, a6, a7, a8, a9, a10, a11, a12, a13, a14] = (cOp ⟨a0, a1, a2, x.v3, x.v4, x.v5, a6, a7, a8, a9, a10, a11, a12, a13, a14, x.v15, x.v16, x.v17⟩).toArray by unfold cOp; simp only [putAll_cons, putAll_nil, List.set_cons_succ, List.set_cons_zero]]
   have hl1_ := r0.len
   have he1_ := r0.err
   refine Ya (by kernel_rfl) ?_
   refine Zh ?_
   refine Yf (Lq := []) (isq := []) (m := 15) Yo rfl rfl ?_
   refine Zi 0 rfl rfl rfl rfl (by kernel_rfl) (fun _ _ => Zc rfl rfl) ?_
   refine Zi 1 rfl rfl rfl rfl (by kernel_rfl) (fun _ _ => Zc rfl rfl) ?_
   refine Zi 2 rfl rfl rfl rfl (by kernel_rfl) (fun _ _ => Ze rfl rfl) ?_
   refine Zi 3 rfl rfl rfl rfl (by kernel_rfl) (fun _ _ => Zb (fo := 3) rfl Try.underlying137 rfl i_135 rfl rfl rfl) ?_
   refine Zi 4 rfl rfl rfl rfl (by kernel_rfl) (fun _ _ => Zb (fo := 3) rfl Try.underlying135 rfl i_9 rfl rfl rfl) ?_
   refine Zi 5 rfl rfl rfl rfl (by kernel_rfl) (fun _ _ => Zc rfl rfl) ?_
   refine Zi 6 rfl rfl rfl rfl (by kernel_rfl) (fun _ _ => Ze rfl rfl) ?_
   refine Zi 7 rfl rfl rfl rfl (by kernel_rfl) (fun _ _ => Zb (fo := 3) rfl Try.underlying137 rfl i_135 rfl rfl rfl) ?_
   refine Zi 8 rfl rfl rfl rfl (by kernel_rfl) (fun _ _ => Zb (fo := 4) rfl Try.underlying135 rfl i_9 rfl rfl rfl) ?_
   refine Zi 9 rfl rfl rfl rfl (by kernel_rfl) (fun _ _ => Zc rfl rfl) ?_
   refine Zi 10 rfl rfl rfl rfl (by kernel_rfl) (fun _ _ => Ze rfl rfl) ?_
   refine Zi 11 rfl rfl rfl rfl (by kernel_rfl) (fun _ _ => Zb (fo := 3) rfl Try.underlying137 rfl i_135 rfl rfl rfl) ?_
   refine Zi 12 rfl rfl rfl rfl (by kernel_rfl) (fun _ _ => Zb (fo := 5) rfl Try.underlying135 rfl i_9 rfl rfl rfl) ?_
   refine GH_all [13] (by kernel_rfl) (by decide) ?_
   refine (And.intro ?_ trivial)
   ·
    refine Yl rfl rfl rfl rfl (Zn (s := 1) (cs := [_, _, _]) rfl Try.underlying278 i_244 rfl rfl rfl rfl rfl rfl rfl rfl rfl) [] (fun _ => ⟨_, rfl⟩) (fun b56 => ?_)
    refine GH_all [14] (by kernel_rfl) (by decide) ?_
    refine (And.intro ?_ trivial)
    ·
     refine Ye (L2 := [_, _]) rfl rfl rfl rfl rfl rfl Try.call142 (cr_textsL b br l1 e1 (by omega) (by omega) _ _ bx (cOp ⟨a0, a1, a2, x.v3, x.v4, x.v5, a6, a7, a8, a9, a10, a11, a12, a13, a14, x.v15, x.v16, x.v17⟩).toArray T [3, 4, 5] (by simp) (by intro y hy; simp only [cOp_sz]; simp only [List.mem_cons, List.not_mem_nil, or_false] at hy; omega)) [1, 1] [1, 0] rfl rfl [] (by rintro v post ⟨xs1, l2, e2, hxs, r1, rfl, rfl⟩; exact ⟨_, rfl⟩) ?_
     rintro v post ⟨xs1, l2, e2, hxs, r1, rfl, rfl⟩
     show GH _ _ _ _ _ _ _ [_, _, _, _] _
     obtain ⟨a3, a4, a5, rfl⟩ := len_3 hxs
     rw [show putAll (fun z : List UInt8 => Value.string (bs z)) (cOp ⟨a0, a1, a2, x.v3, x.v4, x.v5, a6, a7, a8, a9, a10, a11, a12, a13, a14, x.v15, x.v16, x.v17⟩).toArray [3, 4, 5] [a3, a4, a5] = (cOp ⟨a0, a1, a2, a3, a4, a5, a6, a7, a8, a9, a10, a11, a12, a13, a14, x.v15, x.v16, x.v17⟩).toArray by unfold cOp; simp only [putAll_cons, putAll_nil, List.set_cons_succ, List.set_cons_zero]]
     have hl2_ := r1.len
     have he2_ := r1.err
     refine Ya (by kernel_rfl) ?_
     refine Zh ?_
     refine Zd (l := [0, 1, 2, 3, 4]) rfl ?_
     refine Za rfl rfl rfl rfl (Zc rfl rfl) ?_
     refine Za rfl rfl rfl rfl (Zc rfl rfl) ?_
     refine Za rfl rfl rfl rfl (Ze rfl rfl) ?_
     refine Za rfl rfl rfl rfl (Zb (fo := 15) rfl Try.underlying137 rfl i_23 rfl rfl rfl) ?_
     refine Zq (L2 := [_, _]) rfl rfl rfl rfl rfl rfl Try.call94 (cr_num b br l2 e2 (by omega) (by omega) bx 15 (cOp ⟨a0, a1, a2, a3, a4, a5, a6, a7, a8, a9, a10, a11, a12, a13, a14, x.v15, x.v16, x.v17⟩).toArray T (by rw [cOp_sz]; omega)) [0, 0] [0] rfl rfl ?_
     rintro v post ⟨a15, l3, e3, r2, rfl, rfl⟩
     show G _ _ _ [_, _, _, _] _
     rw [show ((cOp ⟨a0, a1, a2, a3, a4, a5, a6, a7, a8, a9, a10, a11, a12, a13, a14, x.v15, x.v16, x.v17⟩).toArray).setIfInBounds 15 (.int .u64 (a15 : Int)) = (cOp ⟨a0, a1, a2, a3, a4, a5, a6, a7, a8, a9, a10, a11, a12, a13, a14, a15, x.v16, x.v17⟩).toArray from rfl]
     have hl3_ := r2.len
     have he3_ := r2.err
     refine Zg ?_
     refine Zh ?_
     refine Zd (l := [0, 1, 2, 3, 4]) rfl ?_
     refine Za rfl rfl rfl rfl (Zc rfl rfl) ?_
     refine Za rfl rfl rfl rfl (Zc rfl rfl) ?_
     refine Za rfl rfl rfl rfl (Ze rfl rfl) ?_
     refine Za rfl rfl rfl rfl (Zb (fo := 16) rfl Try.underlying137 rfl i_23 rfl rfl rfl) ?_
     refine Zq (L2 := [_, _]) rfl rfl rfl rfl rfl rfl Try.call94 (cr_num b br l3 e3 (by omega) (by omega) bx 16 (cOp ⟨a0, a1, a2, a3, a4, a5, a6, a7, a8, a9, a10, a11, a12, a13, a14, a15, x.v16, x.v17⟩).toArray T (by rw [cOp_sz]; omega)) [0, 0] [0] rfl rfl ?_
     rintro v post ⟨a16, l4, e4, r3, rfl, rfl⟩
     show G _ _ _ [_, _, _, _] _
     rw [show ((cOp ⟨a0, a1, a2, a3, a4, a5, a6, a7, a8, a9, a10, a11, a12, a13, a14, a15, x.v16, x.v17⟩).toArray).setIfInBounds 16 (.int .u64 (a16 : Int)) = (cOp ⟨a0, a1, a2, a3, a4, a5, a6, a7, a8, a9, a10, a11, a12, a13, a14, a15, a16, x.v17⟩).toArray from rfl]
     have hl4_ := r3.len
     have he4_ := r3.err
     refine Zg ?_
     refine Zd (l := [0, 1, 2, 3, 4]) rfl ?_
     refine Za rfl rfl rfl rfl (Zc rfl rfl) ?_
     refine Za rfl rfl rfl rfl (Zc rfl rfl) ?_
     refine Za rfl rfl rfl rfl (Ze rfl rfl) ?_
     refine Za rfl rfl rfl rfl (Zb (fo := 17) rfl Try.underlying137 rfl i_23 rfl rfl rfl) ?_
     refine Zq (L2 := [_, _]) rfl rfl rfl rfl rfl rfl Try.call94 (cr_num b br l4 e4 (by omega) (by omega) bx 17 (cOp ⟨a0, a1, a2, a3, a4, a5, a6, a7, a8, a9, a10, a11, a12, a13, a14, a15, a16, x.v17⟩).toArray T (by rw [cOp_sz]; omega)) [0, 0] [0] rfl rfl ?_
     rintro v post ⟨a17, l5, e5, r4, rfl, rfl⟩
     show G _ _ _ [_, _, _, _] _
     rw [show ((cOp ⟨a0, a1, a2, a3, a4, a5, a6, a7, a8, a9, a10, a11, a12, a13, a14, a15, a16, x.v17⟩).toArray).setIfInBounds 17 (.int .u64 (a17 : Int)) = (cOp ⟨a0, a1, a2, a3, a4, a5, a6, a7, a8, a9, a10, a11, a12, a13, a14, a15, a16, a17⟩).toArray from rfl]
     have hl5_ := r4.len
     have he5_ := r4.err
     refine Zg ?_
     refine G_end (post := [_, _]) Try.func98 rfl Zp [0, 0] rfl ?_
     dsimp only [packed]
     exact ⟨⟨a0, a1, a2, a3, a4, a5, a6, a7, a8, a9, a10, a11, a12, a13, a14, a15, a16, a17⟩, l5, e5, rdgOp r0 r1 r2 r3 r4, rfl, rfl⟩


theorem len_16 {α : Type} {xs : List α} (h : xs.length = 16) : ∃ a0 a1 a2 a3 a4 a5 a6 a7 a8 a9 a10 a11 a12 a13 a14 a15, xs = [a0, a1, a2, a3, a4, a5, a6, a7, a8, a9, a10, a11, a12, a13, a14, a15] := by
  match xs, h with
  | [a0, a1, a2, a3, a4, a5, a6, a7, a8, a9, a10, a11, a12, a13, a14, a15], _ => exact ⟨_, _, _, _, _, _, _, _, _, _, _, _, _, _, _, _, rfl⟩
/-- A key, and the first ones of its numbers. -/
def hrC (s : List UInt8) (ys : List Int) : Array Value := (.string (bs s) :: ys.map fun z => Value.int .i64 z).toArray
theorem hrC_size (s : List UInt8) (ys : List Int) : (hrC s ys).size = ys.length + 1 := by simp [hrC]
theorem hrC_set {s : List UInt8} {ys : List Int} {i : Nat} {v : Int} : (hrC s ys).setIfInBounds (1 + i * 1) (.int .i64 v) = hrC s (ys.set i v) := by
  unfold hrC
  rw [Nat.mul_one, Nat.add_comm, List.setIfInBounds_toArray, List.set_cons_succ, List.map_set]
theorem set_next {α : Type} {xs ys : List α} {i : Nat} {v : α} (hn : xs.length = i) (h : i < ys.length) : (xs ++ ys.drop i).set i v = (xs ++ [v]) ++ ys.drop (i + 1) := by
  rw [List.set_append_right _ _ (by omega), hn, Nat.sub_self, List.drop_eq_getElem_cons h, List.set_cons_zero]; simp
theorem rdgHr2 {l l1 l2 : List UInt8} {e e1 e2 : Nat} {s : List UInt8} {xs : List Int} (hn : xs.length = 16) (r0 : Rdg encTs (GTs 1) l e [s] l1 e1) (r1 : Rdg encIs (GIs 16) l1 e1 xs l2 e2) : ∃ m : Hr, hrC s xs = (cHr m).toArray ∧ Rdg encHr GHr l e m l2 e2 := by
  obtain ⟨a0, a1, a2, a3, a4, a5, a6, a7, a8, a9, a10, a11, a12, a13, a14, a15, rfl⟩ := len_16 hn
  exact ⟨⟨s, a0, a1, a2, a3, a4, a5, a6, a7, a8, a9, a10, a11, a12, a13, a14, a15⟩, rfl, rdgHr r0 r1⟩
theorem cHr_sz (x : Hr) : (cHr x).toArray.size = 17 := rfl
theorem rdg_cat {n : Nat} {l l1 l2 : List UInt8} {e e1 e2 i : Nat} {xs : List Int} {v : Int} (h : RdgL encI GI n l e i xs l1 e1) (h1 : Rdg encIs (GIs 1) l1 e1 [v] l2 e2) (hi : i < n) : RdgL encI GI n l e (i + 1) (xs ++ [v]) l2 e2 :=
  h.next (Rdg.map h1 v (fun x => [x]) rfl (fun x y _ _ h => by simpa using h) (fun x h => ⟨rfl, fun y hy => by rw [List.mem_singleton.1 hy]; exact h⟩) (fun h => h.2 v List.mem_cons_self) (fun x _ => by simp [encIs])) hi

set_option maxRecDepth 100000 in
set_option maxHeartbeats 1000000 in
theorem cr_row (b br : Nat) (l : List UInt8) (e : Nat) (hl : l.length ≤ 140737488350000) (he : e ≤ 1000) (bx : Nat) (x : Hr) (T : TypeId) :
    Ct Try.prog 106 [.pointer (some ⟨b, 0, none⟩), .pointer (some ⟨bx, 0, none⟩)] [(some b, .cells #[.pointer none, .slice none 0 0, .pointer (some ⟨br, 0, none⟩), .bool false] 80 (0, 0))] [(some br, .cells #[.string (bs l), .int .i64 ((e : Nat) : Int)] 169 (0, 0)), (some bx, .cells ((cHr x).toArray) T (0, 0))] fun v post => ∃ m l1 e1, Rdg encHr GHr l e m l1 e1 ∧ v = .tuple #[] ∧ post = [(some br, .cells #[.string (bs l1), .int .i64 ((e1 : Nat) : Int)] 169 (0, 0)), (some bx, .cells ((cHr m).toArray) T (0, 0))] := by
 obtain ⟨ys, hyl, hys⟩ : ∃ ys : List Int, ys.length = 16 ∧ ∀ s : List UInt8, (cHr x).toArray.setIfInBounds 0 (.string (bs s)) = hrC s ys := ⟨[x.v1, x.v2, x.v3, x.v4, x.v5, x.v6, x.v7, x.v8, x.v9, x.v10, x.v11, x.v12, x.v13, x.v14, x.v15, x.v16], rfl, fun s => rfl⟩
 refine Yu Try.func106 rfl rfl (fun w0 => ?_)
 show G _ _ [(0, _), (1, _)] _ _
 refine Zh ?_
 refine Zd (l := [0, 1, 2, 3, 4, 5]) rfl ?_
 refine Za rfl rfl rfl rfl (Zc rfl rfl) ?_
 refine Za rfl rfl rfl rfl (Zc rfl rfl) ?_
 refine Za rfl rfl rfl rfl (Ze rfl rfl) ?_
 refine Za rfl rfl rfl rfl (Zb (fo := 0) rfl Try.underlying141 rfl i_9 rfl rfl rfl) ?_
 refine Yw rfl rfl rfl rfl (Zn (s := 1) (cs := [_]) rfl Try.underlying278 i_244 rfl rfl rfl rfl rfl rfl rfl rfl rfl) (fun b9 => ?_)
 refine Zq (L2 := [_]) rfl rfl rfl rfl rfl rfl Try.call142 (cr_textsL b br l e (by omega) (by omega) _ _ bx (cHr x).toArray T [0] (by simp) (by intro y hy; simp only [cHr_sz]; simp only [List.mem_cons, List.not_mem_nil, or_false] at hy; omega)) [1, 1] [1, 0] rfl rfl ?_
 rintro v post ⟨xs0, l1, e1, hxs, r0, rfl, rfl⟩
 show G _ _ _ [_, _, _] _
 obtain ⟨a0, rfl⟩ := len_1 hxs
 rw [show putAll (fun z : List UInt8 => Value.string (bs z)) (cHr x).toArray [0] [a0] = (cHr x).toArray.setIfInBounds 0 (.string (bs a0)) from rfl, hys a0]
 have hl1_ := r0.len
 have he1_ := r0.err
 refine Zg ?_
 refine Zh ?_
 refine Zd (l := [0]) rfl ?_
 refine Za rfl rfl rfl rfl (Zc rfl rfl) ?_
 refine Zg ?_
 refine Zs ?_
 refine Yi ?he2 [0, 0] ?hl2 (Xb (X := Nat × List Int × List UInt8 × Nat) (fun x_ => match x_ with | ⟨i, xs, l2, e2⟩ => i ≤ 16 ∧ RdgL encI GI 16 l1 e1 i xs l2 e2) (fun x_ => match x_ with | ⟨i, xs, l2, e2⟩ => 16 - i) (fun x_ => match x_ with | ⟨i, xs, l2, e2⟩ => [(0, .pointer (some ⟨b, 0, none⟩)), (1, .pointer (some ⟨bx, 0, none⟩)), (11, .int .i64 (i : Int))]) (fun x_ => match x_ with | ⟨i, xs, l2, e2⟩ => [(some br, .cells #[.string (bs l2), .int .i64 ((e2 : Nat) : Int)] 169 (0, 0)), (some bx, .cells (hrC a0 (xs ++ ys.drop i)) T (0, 0))]) ?round2 (0, [], l1, e1) ?h02)
 case he2 => exact (And.intro rfl (And.intro rfl (And.intro rfl trivial)))
 case hl2 => exact ⟨_, rfl⟩
 case h02 => exact ⟨Nat.zero_le _, .zero he1_⟩
 case round2 =>
  intro x_ hJ ih
  try dsimp only at hJ ih
  obtain ⟨i, xs, l2, e2⟩ := x_
  try dsimp only at hJ ih
  obtain ⟨hi, hx⟩ := hJ
  show G _ _ [(0, .pointer (some ⟨b, 0, none⟩)), (1, .pointer (some ⟨bx, 0, none⟩)), (11, .int .i64 (i : Int))] [(some br, .cells #[.string (bs l2), .int .i64 ((e2 : Nat) : Int)] 169 (0, 0)), (some bx, .cells (hrC a0 (xs ++ ys.drop i)) T (0, 0))] _
  refine Zh ?_
  refine Zd (l := [0]) rfl ?_
  refine Za rfl rfl rfl rfl (Xn rfl rfl rfl) ?_
  refine Zg ?_
  refine Zh ?_
  refine Yk rfl (fun hc1 => ?_) (fun hc1 => ?_)
  ·
   refine Zu ?_
   refine Zh ?_
   refine Zs ?_
   refine Zh ?_
   refine Zd (l := [0, 1]) rfl ?_
   refine Za rfl rfl rfl rfl (Zc rfl rfl) ?_
   refine Za rfl rfl rfl rfl (Zk rfl rfl) ?_
   refine Zg ?_
   have hlx := hx.num
   have hl2 := hx.len
   have he2 := hx.err
   have hsz := hrC_size a0 (xs ++ ys.drop i)
   rw [List.length_append, List.length_drop] at hsz
   refine Zd (l := [0, 1, 2, 3, 4, 5, 6, 7]) rfl ?_
   refine Za rfl rfl rfl rfl (Zc rfl rfl) ?_
   refine Za rfl rfl rfl rfl (Zc rfl rfl) ?_
   refine Za rfl rfl rfl rfl (Zc rfl rfl) ?_
   refine Za rfl rfl rfl rfl (Ze rfl rfl) ?_
   refine Za rfl rfl rfl rfl (Zb (fo := 1) rfl Try.underlying141 rfl i_139 rfl rfl rfl) ?_
   refine Za rfl rfl rfl rfl (V_aindexAddr rfl Try.underlying139 i_3 rfl rfl rfl (by omega) (by omega)) ?_
   refine Yw rfl rfl rfl rfl (Zn (s := 1) (cs := [_]) rfl Try.underlying241 i_176 rfl rfl rfl rfl rfl rfl rfl rfl rfl) (fun b20 => ?_)
   refine Zq (L2 := [_]) rfl rfl rfl rfl rfl rfl Try.call96 (cr_intsL b br l2 e2 (by omega) (by omega) _ _ bx (hrC a0 (xs ++ ys.drop i)) T [1 + i * 1] (by simp) (by intro y hy; simp only [List.mem_cons, List.not_mem_nil, or_false] at hy; omega)) [1, 1] [1, 0] rfl rfl ?_
   rintro v post ⟨xs0, l3, e3, hxs2, r1, rfl, rfl⟩
   show G _ _ _ [_, _, _] _
   obtain ⟨a1, rfl⟩ := len_1 hxs2
   rw [show putAll (fun z : Int => Value.int .i64 z) (hrC a0 (xs ++ ys.drop i)) [1 + i * 1] [a1] = (hrC a0 (xs ++ ys.drop i)).setIfInBounds (1 + i * 1) (.int .i64 a1) from rfl, hrC_set, set_next hx.num (by omega)]
   refine Zg ?_
   refine Zv ?_
   refine Zd (l := [0, 1]) rfl ?_
   refine Za rfl rfl rfl rfl ((Xe rfl rfl rfl).int (Zw (by omega))) ?_
   refine Za rfl rfl rfl rfl (Zc rfl rfl) ?_
   refine Zg ?_
   refine Yi ?_ [0, 0] ?_ (ih (i + 1, xs ++ [a1], l3, e3) ?_ ?_)
   · (refine (And.intro ?_ (And.intro ?_ (And.intro ?_ trivial))) <;> first | rfl | exact Zl (by omega) | exact Zl (by simp))
   · exact ⟨_, rfl⟩
   · exact ⟨by omega, rdg_cat hx r1 (by omega)⟩
   · (first | omega | (dsimp only; omega))
  refine Yr rfl ?_
  refine G_end (post := [_, _]) Try.func106 rfl Zp [0, 0] rfl ?_
  dsimp only [packed]
  obtain rfl : i = 16 := by omega
  obtain ⟨m, hm, hr⟩ := rdgHr2 hx.num r0 (rdg_Is hx)
  rw [List.drop_eq_nil_of_le (by omega), List.append_nil, hm]
  exact ⟨m, l2, e2, hr, rfl, rfl⟩

end
end Go.Proofs.Ytjnaeoelnmhjfaa

set_option linter.unusedSimpArgs false
set_option linter.unusedVariables false
namespace Go.Proofs.Ytjnaeoelnmhjfaa
open Go Go.RowKit

section
theorem set_self {cs : Array Value} {k : Nat} {v : Value} (h : cs[k]? = some v) : cs.setIfInBounds k v = cs := by
  obtain ⟨hk, rfl⟩ := Array.getElem?_eq_some_iff.1 h
  apply Array.ext_getElem?; intro i
  rw [Array.getElem?_setIfInBounds]
  by_cases hi : k = i
  · subst hi; simp [hk]
  · rw [if_neg hi]
theorem oks_nx {α : Type} {ok : α → Prop} {ms : List α} {m : α} (h : ∀ x ∈ ms, ok x) (hm : ok m) : ∀ x ∈ ms ++ [m], ok x := by
  intro x hx
  rcases List.mem_append.1 hx with hx | hx
  · exact h x hx
  · rw [List.mem_singleton.1 hx]; exact hm
theorem sub_next {α : Type} {K : α → List HBk} {ms : List α} {m : α} {M M0 M1 : List HBk} (hM : ∀ z ∈ ms.flatMap K, z ∈ M) (hM0 : ∀ z ∈ K m, z ∈ M0) (h1 : ∀ z ∈ M, z ∈ M1) (h2 : ∀ z ∈ M0, z ∈ M1) : ∀ z ∈ (ms ++ [m]).flatMap K, z ∈ M1 := by
  intro z hz
  rw [List.flatMap_append, List.flatMap_singleton] at hz
  rcases List.mem_append.1 hz with hz | hz
  · exact h1 z (hM z hz)
  · exact h2 z (hM0 z hz)
theorem sub_hd {α : Type} {l M : List α} {a : α} (h : ∀ z ∈ l, z ∈ M) : ∀ z ∈ a :: l, z ∈ a :: M := by
  intro z hz
  rcases List.mem_cons.1 hz with rfl | hz
  · exact List.mem_cons_self
  · exact List.mem_cons_of_mem _ (h z hz)
theorem at_lt {cs : Array Value} {k : Nat} {v : Value} (h : cs[k]? = some v) : k < cs.size := (Array.getElem?_eq_some_iff.1 h).1

set_option maxRecDepth 100000 in
set_option maxHeartbeats 2000000 in
theorem cr_listIt (b br : Nat) (l : List UInt8) (e : Nat) (hl : l.length ≤ 140737488350000) (he : e ≤ 1000) (bx k : Nat) (cs : Array Value) (T : TypeId) (hk : cs[k]? = some (.slice none 0 0)) :
    Ct Try.prog 178 [.pointer (some ⟨b, 0, none⟩), .pointer (some ⟨bx, k, none⟩), .func (.func 179) #[.pointer (some ⟨b, 0, none⟩)] #[]] [(some b, .cells #[.pointer none, .slice none 0 0, .pointer (some ⟨br, 0, none⟩), .bool false] 80 (0, 0))] [(some br, .cells #[.string (bs l), .int .i64 ((e : Nat) : Int)] 169 (0, 0)), (some bx, .cells (cs) T (0, 0))] fun v post => ∃ (s : Ins It) (l1 : List UInt8) (e1 : Nat), InsOk 2 cIt s ∧ s.l.length ≤ 1000 ∧ Rdg (encL encIt) (GL GIt) l e s.l l1 e1 ∧ v = .tuple #[] ∧ post = [(some br, .cells #[.string (bs l1), .int .i64 ((e1 : Nat) : Int)] 169 (0, 0)), (some bx, .cells (cs.setIfInBounds k (insV s)) T (0, 0)), insK s] := by
 obtain ⟨n, l0, e0, h0⟩ : ∃ a_ l_ e_, rdInt 1000 l e = (a_, l_, e_) := ⟨_, _, _, rfl⟩
 obtain ⟨hn, hl0, he0⟩ := rd_n he h0
 have hks := at_lt hk
 have hcs : cs.setIfInBounds k (slNil.v 0) = cs := set_self hk
 refine Yu Try.func178 rfl rfl (fun w0 => ?_)
 show G _ _ [(0, _), (1, _), (2, _)] _ _
 refine Zh ?_
 refine Zh ?_
 refine Zd (l := [0, 1, 2, 3, 4]) rfl ?_
 refine Za rfl rfl rfl rfl (Zc rfl rfl) ?_
 refine Za rfl rfl rfl rfl (Ze rfl rfl) ?_
 refine Za rfl rfl rfl rfl (Zb (fo := 2) rfl Try.underlying80 rfl i_74 rfl rfl rfl) ?_
 refine Za rfl rfl rfl rfl (Zj rfl rfl (Zf 0 rfl) rfl Try.underlying74 rfl) ?_
 refine Za rfl rfl rfl rfl (V_peqlN rfl Try.underlying74 rfl rfl) ?_
 refine Zg ?_
 refine Xu rfl ?_
 refine Zu ?_
 refine Zh ?_
 refine Xq (.cells #[] 262 (0, 0)) ?_
 refine Zd (l := [0, 1, 2, 3, 4, 5]) rfl ?_
 refine Za rfl rfl rfl rfl (Zc rfl rfl) ?_
 refine Za rfl rfl rfl rfl (Ze rfl rfl) ?_
 refine Za rfl rfl rfl rfl (Zb (fo := 2) rfl Try.underlying80 rfl i_74 rfl rfl rfl) ?_
 refine Za rfl rfl rfl rfl (Zj rfl rfl (Zf 0 rfl) rfl Try.underlying74 rfl) ?_
 refine Zq (L2 := [_, _]) rfl rfl rfl rfl rfl rfl Try.call84 ((rd_int br l e 1000 (by omega) (by omega) (by omega)).weaken (fun v post h => by rewrite [h0] at h; exact h)) [1] [] rfl rfl ?_
 rintro v post ⟨rfl, rfl⟩
 show G _ _ _ [_, _, _] _
 refine Za rfl rfl rfl rfl (Zc rfl rfl) ?_
 refine Zg ?_
 refine Zs ?_
 refine Yi ?he10 [0, 1, 0] ?hl10 (Xb (X := Nat × Sl × List It × List UInt8 × Nat) (fun x_ => match x_ with | ⟨i, u, ms, l1, e1⟩ => i ≤ n ∧ ms.length = i ∧ Own 2 u (ms.flatMap cIt) i ∧ RdgL encIt GIt n l0 e0 i ms l1 e1) (fun x_ => match x_ with | ⟨i, u, ms, l1, e1⟩ => n - i) (fun x_ => match x_ with | ⟨i, u, ms, l1, e1⟩ => [(0, .pointer (some ⟨b, 0, none⟩)), (1, .pointer (some ⟨bx, k, none⟩)), (2, .func (.func 179) #[.pointer (some ⟨b, 0, none⟩)] #[]), (58, .int .i64 (n : Int)), (59, .int .i64 (i : Int))]) (fun x_ => match x_ with | ⟨i, u, ms, l1, e1⟩ => [(some br, .cells #[.string (bs l1), .int .i64 ((e1 : Nat) : Int)] 169 (0, 0)), (some bx, .cells (cs.setIfInBounds k (u.v i)) T (0, 0)), (u.ob, .cells u.cs 262 u.fz)]) ?round10 (0, slNil, [], l0, e0) ?h010)
 case he10 => exact (And.intro rfl (And.intro rfl (And.intro rfl (And.intro rfl (And.intro rfl trivial)))))
 case hl10 => exact ⟨_, by show tk _ _ = some ([_, (some bx, .cells (cs.setIfInBounds k (slNil.v 0)) T (0, 0)), _], _); rw [hcs]; rfl⟩
 case h010 => exact ⟨Nat.zero_le _, rfl, own_nil 2, .zero he0⟩
 case round10 =>
  intro x_ hJ ih
  try dsimp only at hJ ih
  obtain ⟨i, u, ms, l1, e1⟩ := x_
  try dsimp only at hJ ih
  obtain ⟨hi, hml, hu, hx⟩ := hJ
  show G _ _ [(0, .pointer (some ⟨b, 0, none⟩)), (1, .pointer (some ⟨bx, k, none⟩)), (2, .func (.func 179) #[.pointer (some ⟨b, 0, none⟩)] #[]), (58, .int .i64 (n : Int)), (59, .int .i64 (i : Int))] [(some br, .cells #[.string (bs l1), .int .i64 ((e1 : Nat) : Int)] 169 (0, 0)), (some bx, .cells (cs.setIfInBounds k (u.v i)) T (0, 0)), (u.ob, .cells u.cs 262 u.fz)] _
  have hl1 := hx.len
  have he1 := hx.err
  refine Zh ?_
  refine Zd (l := [0]) rfl ?_
  refine Za rfl rfl rfl rfl (Xn rfl rfl rfl) ?_
  refine Zg ?_
  refine Zh ?_
  refine Yk rfl (fun hc1 => ?_) (fun hc1 => ?_)
  ·
   refine Zu ?_
   refine Zh ?_
   refine Zs ?_
   refine Zh ?_
   refine Zh ?_
   refine Zd (l := [0, 1, 2, 3, 4, 5]) rfl ?_
   refine Za rfl rfl rfl rfl (Zc rfl rfl) ?_
   refine Za rfl rfl rfl rfl (Ze rfl rfl) ?_
   refine Za rfl rfl rfl rfl (Zb (fo := 2) rfl Try.underlying80 rfl i_74 rfl rfl rfl) ?_
   refine Za rfl rfl rfl rfl (Zj rfl rfl (Zf 0 rfl) rfl Try.underlying74 rfl) ?_
   refine Zq (L2 := [_, _, _]) rfl rfl rfl rfl rfl rfl Try.call86 (rd_err _ _ _) [] [1] rfl rfl ?_
   rintro v post ⟨rfl, rfl⟩
   show G _ _ _ [_, _, _] _
   refine Za rfl rfl rfl rfl (V_neq rfl rfl rfl) ?_
   refine Zg ?_
   refine Yk rfl (fun hc2 => ?_) (fun hc2 => ?_)
   ·
    refine Yy (post := [_, _, _]) Try.func178 rfl Zp [0, 0, 0] rfl ?_
    dsimp only [packed]
    first
      | exact ⟨insOf u 262 ms, l1, e1, Yh (by rw [hml]; exact hu) (by omega), by show ms.length ≤ _; omega, rdg_Lbad he h0 hx (by omega) _, rfl, by (try simp only [Xd, hml]); first | done | rfl⟩
      | (obtain rfl : i = n := by omega
         exact ⟨insOf u 262 ms, l1, e1, Yh (by rw [hml]; exact hu) (by omega), by show ms.length ≤ _; omega, rdg_L he h0 hx, rfl, by (try simp only [Xd, hml]); first | done | rfl⟩)
   refine Zu ?_
   refine Zh ?_
   refine Zd (l := [0]) rfl ?_
   refine Yw rfl rfl rfl rfl (Ym rfl i_262 rfl) (fun b8 => ?_)
   refine Zg ?_
   refine Zh ?_
   refine Zd (l := [0, 1]) rfl ?_
   refine Za rfl rfl rfl rfl (Zc rfl rfl) ?_
   refine G_callB (L2 := [_, _]) rfl rfl rfl rfl rfl rfl Try.call179 rfl (cr_item b br l1 e1 (by omega) (by omega) _ (⟨0, 0⟩ : It) _) [1, 0] [0] rfl rfl ?_
   rintro v post ⟨m, l2, e2, hm, rfl, rfl⟩
   show G _ _ _ [_, _, _, _] _
   refine Zg ?_
   refine Yf (Lq := [_]) (isq := [1]) (m := 9) Yo rfl rfl ?_
   refine Zi 0 rfl rfl rfl rfl (by kernel_rfl) (fun _ _ => Zc rfl rfl) ?_
   refine Zi 1 rfl rfl rfl rfl (by kernel_rfl) (fun _ _ => Zc rfl rfl) ?_
   refine Zi 2 rfl rfl rfl rfl (by kernel_rfl) (fun _ _ => Ze rfl rfl) ?_
   refine Zi 4 rfl rfl rfl rfl (by kernel_rfl) (fun _ _ => V_loadW (s := 2) rfl rfl (Zf 1 rfl) Try.underlying262 rfl i_262 rfl (by rfl)) ?_
   refine GH_all [3, 5] (by kernel_rfl) (by decide) ?_
   refine (And.intro ?_ (And.intro ?_ trivial))
   ·
    refine Xo rfl rfl rfl rfl (Zj rfl rfl (Zf 3 rfl) (Zt (set_at (u.v i) hks)) Try.underlying215 rfl) ?_
    refine GH_all [5] (by kernel_rfl) (by decide) ?_
    refine (And.intro ?_ trivial)
    ·
     refine Yl rfl rfl rfl rfl (Zn (s := 2) (cs := [_, _]) rfl Try.underlying215 i_262 rfl rfl rfl rfl rfl rfl rfl rfl rfl) [2] (fun _ => ⟨_, rfl⟩) (fun b74 => ?_)
     refine GH_all [6] (by kernel_rfl) (by decide) ?_
     refine (And.intro ?_ trivial)
     ·
      refine Yq (l1 := [_, _, _, _]) (s := u) (nn := i) (m := 1) (news := (cIt m)) (bt := 16) rfl rfl rfl rfl Try.underlying215 Try.underlying215 (by first | exact .inl rfl | exact .inr ⟨_, rfl⟩) i_262 rfl rfl rfl rfl rfl rfl hu rfl (Yg (Zf 1 rfl) rfl rfl (by simp [cIt, Value.oneCell'])) (by omega) (by omega) [2] (fun _ => ⟨_, rfl⟩) ?_
      intro u1 hu1 _
      show GH _ _ _ _ _ _ _ [_, _, _, _, _] _
      refine Zi 7 rfl rfl rfl rfl (by kernel_rfl) (fun _ _ => Ze rfl rfl) ?_
      refine GH_all [8] (by kernel_rfl) (by decide) ?_
      refine (And.intro ?_ trivial)
      ·
       refine Xk (l1 := [_, _, _]) (L' := [_, _, _, _, _]) rfl rfl rfl rfl (Zm rfl rfl rfl (Zf 3 rfl) (by first | exact of_decide_eq_true rfl | omega | (simp [cOp, cWk, cIv, cHr, cLt, cWt, cIt, cFl, cTn, cCl, cPo, cSt, cDt, cDs, Sl.v]; done) | (simp [cOp, cWk, cIv, cHr, cLt, cWt, cIt, cFl, cTn, cCl, cPo, cSt, cDt, cDs, Sl.v]; omega) | (simp [cOp, cWk, cIv, cHr, cLt, cWt, cIt, cFl, cTn, cCl, cPo, cSt, cDt, cDs, Sl.v] at *; omega)) i_215 rfl rfl) rfl [2] rfl ?_
       refine Ya (by kernel_rfl) ?_
       refine Zv ?_
       refine Zd (l := [0, 1]) rfl ?_
       refine Za rfl rfl rfl rfl ((Xe rfl rfl rfl).int (Zw (by omega))) ?_
       refine Za rfl rfl rfl rfl (Zc rfl rfl) ?_
       refine Zg ?_
       rw [set_set]
       refine Yi ?_ [1, 2, 2] ?_ (ih (i + 1, u1, ms ++ [m], l2, e2) ?_ ?_)
       · (refine (And.intro ?_ (And.intro ?_ (And.intro ?_ (And.intro ?_ (And.intro ?_ trivial))))) <;> first | rfl | exact Zl (by omega) | exact Zl (by simp))
       · exact ⟨_, rfl⟩
       · exact ⟨by omega, by simp [hml], by rw [List.flatMap_append, List.flatMap_singleton]; exact hu1, hx.next hm (by omega)⟩
       · (first | omega | (dsimp only; omega))
   ·
    refine Yl rfl rfl rfl rfl (Zn (s := 2) (cs := [_, _]) rfl Try.underlying215 i_262 rfl rfl rfl rfl rfl rfl rfl rfl rfl) [2] (fun _ => ⟨_, rfl⟩) (fun b74 => ?_)
    refine GH_all [3] (by kernel_rfl) (by decide) ?_
    refine (And.intro ?_ trivial)
    ·
     refine Xo rfl rfl rfl rfl (Zj rfl rfl (Zf 4 rfl) (Zt (set_at (u.v i) hks)) Try.underlying215 rfl) ?_
     refine GH_all [6] (by kernel_rfl) (by decide) ?_
     refine (And.intro ?_ trivial)
     ·
      refine Yq (l1 := [_, _, _, _]) (s := u) (nn := i) (m := 1) (news := (cIt m)) (bt := 16) rfl rfl rfl rfl Try.underlying215 Try.underlying215 (by first | exact .inl rfl | exact .inr ⟨_, rfl⟩) i_262 rfl rfl rfl rfl rfl rfl hu rfl (Yg (Zf 1 rfl) rfl rfl (by simp [cIt, Value.oneCell'])) (by omega) (by omega) [2] (fun _ => ⟨_, rfl⟩) ?_
      intro u1 hu1 _
      show GH _ _ _ _ _ _ _ [_, _, _, _, _] _
      refine Zi 7 rfl rfl rfl rfl (by kernel_rfl) (fun _ _ => Ze rfl rfl) ?_
      refine GH_all [8] (by kernel_rfl) (by decide) ?_
      refine (And.intro ?_ trivial)
      ·
       refine Xk (l1 := [_, _, _]) (L' := [_, _, _, _, _]) rfl rfl rfl rfl (Zm rfl rfl rfl (Zf 3 rfl) (by first | exact of_decide_eq_true rfl | omega | (simp [cOp, cWk, cIv, cHr, cLt, cWt, cIt, cFl, cTn, cCl, cPo, cSt, cDt, cDs, Sl.v]; done) | (simp [cOp, cWk, cIv, cHr, cLt, cWt, cIt, cFl, cTn, cCl, cPo, cSt, cDt, cDs, Sl.v]; omega) | (simp [cOp, cWk, cIv, cHr, cLt, cWt, cIt, cFl, cTn, cCl, cPo, cSt, cDt, cDs, Sl.v] at *; omega)) i_215 rfl rfl) rfl [2] rfl ?_
       refine Ya (by kernel_rfl) ?_
       refine Zv ?_
       refine Zd (l := [0, 1]) rfl ?_
       refine Za rfl rfl rfl rfl ((Xe rfl rfl rfl).int (Zw (by omega))) ?_
       refine Za rfl rfl rfl rfl (Zc rfl rfl) ?_
       refine Zg ?_
       rw [set_set]
       refine Yi ?_ [1, 2, 2] ?_ (ih (i + 1, u1, ms ++ [m], l2, e2) ?_ ?_)
       · (refine (And.intro ?_ (And.intro ?_ (And.intro ?_ (And.intro ?_ (And.intro ?_ trivial))))) <;> first | rfl | exact Zl (by omega) | exact Zl (by simp))
       · exact ⟨_, rfl⟩
       · exact ⟨by omega, by simp [hml], by rw [List.flatMap_append, List.flatMap_singleton]; exact hu1, hx.next hm (by omega)⟩
       · (first | omega | (dsimp only; omega))
  refine Yr rfl ?_
  refine G_end (post := [_, _, _]) Try.func178 rfl Zp [0, 0, 0] rfl ?_
  dsimp only [packed]
  first
    | exact ⟨insOf u 262 ms, l1, e1, Yh (by rw [hml]; exact hu) (by omega), by show ms.length ≤ _; omega, rdg_Lbad he h0 hx (by omega) _, rfl, by (try simp only [Xd, hml]); first | done | rfl⟩
    | (obtain rfl : i = n := by omega
       exact ⟨insOf u 262 ms, l1, e1, Yh (by rw [hml]; exact hu) (by omega), by show ms.length ≤ _; omega, rdg_L he h0 hx, rfl, by (try simp only [Xd, hml]); first | done | rfl⟩)

set_option maxRecDepth 100000 in
set_option maxHeartbeats 2000000 in
theorem cr_listOp (b br : Nat) (l : List UInt8) (e : Nat) (hl : l.length ≤ 140737488350000) (he : e ≤ 1000) (bx k : Nat) (cs : Array Value) (T : TypeId) (hk : cs[k]? = some (.slice none 0 0)) :
    Ct Try.prog 97 [.pointer (some ⟨b, 0, none⟩), .pointer (some ⟨bx, k, none⟩), .func (.func 98) #[.pointer (some ⟨b, 0, none⟩)] #[]] [(some b, .cells #[.pointer none, .slice none 0 0, .pointer (some ⟨br, 0, none⟩), .bool false] 80 (0, 0))] [(some br, .cells #[.string (bs l), .int .i64 ((e : Nat) : Int)] 169 (0, 0)), (some bx, .cells (cs) T (0, 0))] fun v post => ∃ (s : Ins Op) (l1 : List UInt8) (e1 : Nat), InsOk 18 cOp s ∧ s.l.length ≤ 1000 ∧ Rdg (encL encOp) (GL GOp) l e s.l l1 e1 ∧ v = .tuple #[] ∧ post = [(some br, .cells #[.string (bs l1), .int .i64 ((e1 : Nat) : Int)] 169 (0, 0)), (some bx, .cells (cs.setIfInBounds k (insV s)) T (0, 0)), insK s] := by
 obtain ⟨n, l0, e0, h0⟩ : ∃ a_ l_ e_, rdInt 1000 l e = (a_, l_, e_) := ⟨_, _, _, rfl⟩
 obtain ⟨hn, hl0, he0⟩ := rd_n he h0
 have hks := at_lt hk
 have hcs : cs.setIfInBounds k (slNil.v 0) = cs := set_self hk
 refine Yu Try.func97 rfl rfl (fun w0 => ?_)
 show G _ _ [(0, _), (1, _), (2, _)] _ _
 refine Zh ?_
 refine Zh ?_
 refine Zd (l := [0, 1, 2, 3, 4]) rfl ?_
 refine Za rfl rfl rfl rfl (Zc rfl rfl) ?_
 refine Za rfl rfl rfl rfl (Ze rfl rfl) ?_
 refine Za rfl rfl rfl rfl (Zb (fo := 2) rfl Try.underlying80 rfl i_74 rfl rfl rfl) ?_
 refine Za rfl rfl rfl rfl (Zj rfl rfl (Zf 0 rfl) rfl Try.underlying74 rfl) ?_
 refine Za rfl rfl rfl rfl (V_peqlN rfl Try.underlying74 rfl rfl) ?_
 refine Zg ?_
 refine Xu rfl ?_
 refine Zu ?_
 refine Zh ?_
 refine Xq (.cells #[] 137 (0, 0)) ?_
 refine Zd (l := [0, 1, 2, 3, 4, 5]) rfl ?_
 refine Za rfl rfl rfl rfl (Zc rfl rfl) ?_
 refine Za rfl rfl rfl rfl (Ze rfl rfl) ?_
 refine Za rfl rfl rfl rfl (Zb (fo := 2) rfl Try.underlying80 rfl i_74 rfl rfl rfl) ?_
 refine Za rfl rfl rfl rfl (Zj rfl rfl (Zf 0 rfl) rfl Try.underlying74 rfl) ?_
 refine Zq (L2 := [_, _]) rfl rfl rfl rfl rfl rfl Try.call84 ((rd_int br l e 1000 (by omega) (by omega) (by omega)).weaken (fun v post h => by rewrite [h0] at h; exact h)) [1] [] rfl rfl ?_
 rintro v post ⟨rfl, rfl⟩
 show G _ _ _ [_, _, _] _
 refine Za rfl rfl rfl rfl (Zc rfl rfl) ?_
 refine Zg ?_
 refine Zs ?_
 refine Yi ?he10 [0, 1, 0] ?hl10 (Xb (X := Nat × Sl × List Op × List UInt8 × Nat) (fun x_ => match x_ with | ⟨i, u, ms, l1, e1⟩ => i ≤ n ∧ ms.length = i ∧ Own 18 u (ms.flatMap cOp) i ∧ RdgL encOp GOp n l0 e0 i ms l1 e1) (fun x_ => match x_ with | ⟨i, u, ms, l1, e1⟩ => n - i) (fun x_ => match x_ with | ⟨i, u, ms, l1, e1⟩ => [(0, .pointer (some ⟨b, 0, none⟩)), (1, .pointer (some ⟨bx, k, none⟩)), (2, .func (.func 98) #[.pointer (some ⟨b, 0, none⟩)] #[]), (58, .int .i64 (n : Int)), (59, .int .i64 (i : Int))]) (fun x_ => match x_ with | ⟨i, u, ms, l1, e1⟩ => [(some br, .cells #[.string (bs l1), .int .i64 ((e1 : Nat) : Int)] 169 (0, 0)), (some bx, .cells (cs.setIfInBounds k (u.v i)) T (0, 0)), (u.ob, .cells u.cs 137 u.fz)]) ?round10 (0, slNil, [], l0, e0) ?h010)
 case he10 => exact (And.intro rfl (And.intro rfl (And.intro rfl (And.intro rfl (And.intro rfl trivial)))))
 case hl10 => exact ⟨_, by show tk _ _ = some ([_, (some bx, .cells (cs.setIfInBounds k (slNil.v 0)) T (0, 0)), _], _); rw [hcs]; rfl⟩
 case h010 => exact ⟨Nat.zero_le _, rfl, own_nil 18, .zero he0⟩
 case round10 =>
  intro x_ hJ ih
  try dsimp only at hJ ih
  obtain ⟨i, u, ms, l1, e1⟩ := x_
  try dsimp only at hJ ih
  obtain ⟨hi, hml, hu, hx⟩ := hJ
  show G _ _ [(0, .pointer (some ⟨b, 0, none⟩)), (1, .pointer (some ⟨bx, k, none⟩)), (2, .func (.func 98) #[.pointer (some ⟨b, 0, none⟩)] #[]), (58, .int .i64 (n : Int)), (59, .int .i64 (i : Int))] [(some br, .cells #[.string (bs l1), .int .i64 ((e1 : Nat) : Int)] 169 (0, 0)), (some bx, .cells (cs.setIfInBounds k (u.v i)) T (0, 0)), (u.ob, .cells u.cs 137 u.fz)] _
  have hl1 := hx.len
  have he1 := hx.err
  refine Zh ?_
  refine Zd (l := [0]) rfl ?_
  refine Za rfl rfl rfl rfl (Xn rfl rfl rfl) ?_
  refine Zg ?_
  refine Zh ?_
  refine Yk rfl (fun hc1 => ?_) (fun hc1 => ?_)
  ·
   refine Zu ?_
   refine Zh ?_
   refine Zs ?_
   refine Zh ?_
   refine Zh ?_
   refine Zd (l := [0, 1, 2, 3, 4, 5]) rfl ?_
   refine Za rfl rfl rfl rfl (Zc rfl rfl) ?_
   refine Za rfl rfl rfl rfl (Ze rfl rfl) ?_
   refine Za rfl rfl rfl rfl (Zb (fo := 2) rfl Try.underlying80 rfl i_74 rfl rfl rfl) ?_
   refine Za rfl rfl rfl rfl (Zj rfl rfl (Zf 0 rfl) rfl Try.underlying74 rfl) ?_
   refine Zq (L2 := [_, _, _]) rfl rfl rfl rfl rfl rfl Try.call86 (rd_err _ _ _) [] [1] rfl rfl ?_
   rintro v post ⟨rfl, rfl⟩
   show G _ _ _ [_, _, _] _
   refine Za rfl rfl rfl rfl (V_neq rfl rfl rfl) ?_
   refine Zg ?_
   refine Yk rfl (fun hc2 => ?_) (fun hc2 => ?_)
   ·
    refine Yy (post := [_, _, _]) Try.func97 rfl Zp [0, 0, 0] rfl ?_
    dsimp only [packed]
    first
      | exact ⟨insOf u 137 ms, l1, e1, Yh (by rw [hml]; exact hu) (by omega), by show ms.length ≤ _; omega, rdg_Lbad he h0 hx (by omega) _, rfl, by (try simp only [Xd, hml]); first | done | rfl⟩
      | (obtain rfl : i = n := by omega
         exact ⟨insOf u 137 ms, l1, e1, Yh (by rw [hml]; exact hu) (by omega), by show ms.length ≤ _; omega, rdg_L he h0 hx, rfl, by (try simp only [Xd, hml]); first | done | rfl⟩)
   refine Zu ?_
   refine Zh ?_
   refine Zd (l := [0]) rfl ?_
   refine Yw rfl rfl rfl rfl (Ym rfl i_137 rfl) (fun b8 => ?_)
   refine Zg ?_
   refine Zh ?_
   refine Zd (l := [0, 1]) rfl ?_
   refine Za rfl rfl rfl rfl (Zc rfl rfl) ?_
   refine G_callB (L2 := [_, _]) rfl rfl rfl rfl rfl rfl Try.call98 rfl (cr_op b br l1 e1 (by omega) (by omega) _ (⟨0, 0, 0, [], [], [], 0, 0, 0, 0, 0, 0, 0, 0, 0, 0, 0, 0⟩ : Op) _) [1, 0] [0] rfl rfl ?_
   rintro v post ⟨m, l2, e2, hm, rfl, rfl⟩
   show G _ _ _ [_, _, _, _] _
   refine Zg ?_
   refine Yf (Lq := [_]) (isq := [1]) (m := 9) Yo rfl rfl ?_
   refine Zi 0 rfl rfl rfl rfl (by kernel_rfl) (fun _ _ => Zc rfl rfl) ?_
   refine Zi 1 rfl rfl rfl rfl (by kernel_rfl) (fun _ _ => Zc rfl rfl) ?_
   refine Zi 2 rfl rfl rfl rfl (by kernel_rfl) (fun _ _ => Ze rfl rfl) ?_
   refine Zi 4 rfl rfl rfl rfl (by kernel_rfl) (fun _ _ => V_loadW (s := 18) rfl rfl (Zf 1 rfl) Try.underlying137 rfl i_137 rfl (by rfl)) ?_
   refine GH_all [3, 5] (by kernel_rfl) (by decide) ?_
   refine (And.intro ?_ (And.intro ?_ trivial))
   ·
    refine Xo rfl rfl rfl rfl (Zj rfl rfl (Zf 3 rfl) (Zt (set_at (u.v i) hks)) Try.underlying24 rfl) ?_
    refine GH_all [5] (by kernel_rfl) (by decide) ?_
    refine (And.intro ?_ trivial)
    ·
     refine Yl rfl rfl rfl rfl (Zn (s := 18) (cs := [_, _, _, _, _, _, _, _, _, _, _, _, _, _, _, _, _, _]) rfl Try.underlying24 i_137 rfl rfl rfl rfl rfl rfl rfl rfl rfl) [2] (fun _ => ⟨_, rfl⟩) (fun b74 => ?_)
     refine GH_all [6] (by kernel_rfl) (by decide) ?_
     refine (And.intro ?_ trivial)
     ·
      refine Yq (l1 := [_, _, _, _]) (s := u) (nn := i) (m := 1) (news := (cOp m)) (bt := 168) rfl rfl rfl rfl Try.underlying24 Try.underlying24 (by first | exact .inl rfl | exact .inr ⟨_, rfl⟩) i_137 rfl rfl rfl rfl rfl rfl hu rfl (Yg (Zf 1 rfl) rfl rfl (by simp [cOp, Value.oneCell'])) (by omega) (by omega) [2] (fun _ => ⟨_, rfl⟩) ?_
      intro u1 hu1 _
      show GH _ _ _ _ _ _ _ [_, _, _, _, _] _
      refine Zi 7 rfl rfl rfl rfl (by kernel_rfl) (fun _ _ => Ze rfl rfl) ?_
      refine GH_all [8] (by kernel_rfl) (by decide) ?_
      refine (And.intro ?_ trivial)
      ·
       refine Xk (l1 := [_, _, _]) (L' := [_, _, _, _, _]) rfl rfl rfl rfl (Zm rfl rfl rfl (Zf 3 rfl) (by first | exact of_decide_eq_true rfl | omega | (simp [cOp, cWk, cIv, cHr, cLt, cWt, cIt, cFl, cTn, cCl, cPo, cSt, cDt, cDs, Sl.v]; done) | (simp [cOp, cWk, cIv, cHr, cLt, cWt, cIt, cFl, cTn, cCl, cPo, cSt, cDt, cDs, Sl.v]; omega) | (simp [cOp, cWk, cIv, cHr, cLt, cWt, cIt, cFl, cTn, cCl, cPo, cSt, cDt, cDs, Sl.v] at *; omega)) i_24 rfl rfl) rfl [2] rfl ?_
       refine Ya (by kernel_rfl) ?_
       refine Zv ?_
       refine Zd (l := [0, 1]) rfl ?_
       refine Za rfl rfl rfl rfl ((Xe rfl rfl rfl).int (Zw (by omega))) ?_
       refine Za rfl rfl rfl rfl (Zc rfl rfl) ?_
       refine Zg ?_
       rw [set_set]
       refine Yi ?_ [1, 2, 2] ?_ (ih (i + 1, u1, ms ++ [m], l2, e2) ?_ ?_)
       · (refine (And.intro ?_ (And.intro ?_ (And.intro ?_ (And.intro ?_ (And.intro ?_ trivial))))) <;> first | rfl | exact Zl (by omega) | exact Zl (by simp))
       · exact ⟨_, rfl⟩
       · exact ⟨by omega, by simp [hml], by rw [List.flatMap_append, List.flatMap_singleton]; exact hu1, hx.next hm (by omega)⟩
       · (first | omega | (dsimp only; omega))
   ·
    refine Yl rfl rfl rfl rfl (Zn (s := 18) (cs := [_, _, _, _, _, _, _, _, _, _, _, _, _, _, _, _, _, _]) rfl Try.underlying24 i_137 rfl rfl rfl rfl rfl rfl rfl rfl rfl) [2] (fun _ => ⟨_, rfl⟩) (fun b74 => ?_)
    refine GH_all [3] (by kernel_rfl) (by decide) ?_
    refine (And.intro ?_ trivial)
    ·
     refine Xo rfl rfl rfl rfl (Zj rfl rfl (Zf 4 rfl) (Zt (set_at (u.v i) hks)) Try.underlying24 rfl) ?_
     refine GH_all [6] (by kernel_rfl) (by decide) ?_
     refine (And.intro ?_ trivial)
     ·
      refine Yq (l1 := [_, _, _, _]) (s := u) (nn := i) (m := 1) (news := (cOp m)) (bt := 168) rfl rfl rfl rfl Try.underlying24 Try.underlying24 (by first | exact .inl rfl | exact .inr ⟨_, rfl⟩) i_137 rfl rfl rfl rfl rfl rfl hu rfl (Yg (Zf 1 rfl) rfl rfl (by simp [cOp, Value.oneCell'])) (by omega) (by omega) [2] (fun _ => ⟨_, rfl⟩) ?_
      intro u1 hu1 _
      show GH _ _ _ _ _ _ _ [_, _, _, _, _] _
      refine Zi 7 rfl rfl rfl rfl (by kernel_rfl) (fun _ _ => Ze rfl rfl) ?_
      refine GH_all [8] (by kernel_rfl) (by decide) ?_
      refine (And.intro ?_ trivial)
      ·
       refine Xk (l1 := [_, _, _]) (L' := [_, _, _, _, _]) rfl rfl rfl rfl (Zm rfl rfl rfl (Zf 3 rfl) (by first | exact of_decide_eq_true rfl | omega | (simp [cOp, cWk, cIv, cHr, cLt, cWt, cIt, cFl, cTn, cCl, cPo, cSt, cDt, cDs, Sl.v]; done) | (simp [cOp, cWk, cIv, cHr, cLt, cWt, cIt, cFl, cTn, cCl, cPo, cSt, cDt, cDs, Sl.v]; omega) | (simp [cOp, cWk, cIv, cHr, cLt, cWt, cIt, cFl, cTn, cCl, cPo, cSt, cDt, cDs, Sl.v] at *; omega)) i_24 rfl rfl) rfl [2] rfl ?_
       refine Ya (by kernel_rfl) ?_
       refine Zv ?_
       refine Zd (l := [0, 1]) rfl ?_
       refine Za rfl rfl rfl rfl ((Xe rfl rfl rfl).int (Zw (by omega))) ?_
       refine Za rfl rfl rfl rfl (Zc rfl rfl) ?_
       refine Zg ?_
       rw [set_set]
       refine Yi ?_ [1, 2, 2] ?_ (ih (i + 1, u1, ms ++ [m], l2, e2) ?_ ?_)
       · (refine (And.intro ?_ (And.intro ?_ (And.intro ?_ (And.intro ?_ (And.intro ?_ trivial))))) <;> first | rfl | exact Zl (by omega) | exact Zl (by simp))
       · exact ⟨_, rfl⟩
       · exact ⟨by omega, by simp [hml], by rw [List.flatMap_append, List.flatMap_singleton]; exact hu1, hx.next hm (by omega)⟩
       · (first | omega | (dsimp only; omega))
  refine Yr rfl ?_
  refine G_end (post := [_, _, _]) Try.func97 rfl Zp [0, 0, 0] rfl ?_
  dsimp only [packed]
  first
    | exact ⟨insOf u 137 ms, l1, e1, Yh (by rw [hml]; exact hu) (by omega), by show ms.length ≤ _; omega, rdg_Lbad he h0 hx (by omega) _, rfl, by (try simp only [Xd, hml]); first | done | rfl⟩
    | (obtain rfl : i = n := by omega
       exact ⟨insOf u 137 ms, l1, e1, Yh (by rw [hml]; exact hu) (by omega), by show ms.length ≤ _; omega, rdg_L he h0 hx, rfl, by (try simp only [Xd, hml]); first | done | rfl⟩)

set_option maxRecDepth 100000 in
set_option maxHeartbeats 2000000 in
theorem cr_listWk (b br : Nat) (l : List UInt8) (e : Nat) (hl : l.length ≤ 140737488350000) (he : e ≤ 1000) (bx k : Nat) (cs : Array Value) (T : TypeId) (hk : cs[k]? = some (.slice none 0 0)) :
    Ct Try.prog 99 [.pointer (some ⟨b, 0, none⟩), .pointer (some ⟨bx, k, none⟩), .func (.func 100) #[.pointer (some ⟨b, 0, none⟩)] #[]] [(some b, .cells #[.pointer none, .slice none 0 0, .pointer (some ⟨br, 0, none⟩), .bool false] 80 (0, 0))] [(some br, .cells #[.string (bs l), .int .i64 ((e : Nat) : Int)] 169 (0, 0)), (some bx, .cells (cs) T (0, 0))] fun v post => ∃ (s : Ins Wk) (l1 : List UInt8) (e1 : Nat), InsOk 7 cWk s ∧ s.l.length ≤ 1000 ∧ Rdg (encL encWk) (GL GWk) l e s.l l1 e1 ∧ v = .tuple #[] ∧ post = [(some br, .cells #[.string (bs l1), .int .i64 ((e1 : Nat) : Int)] 169 (0, 0)), (some bx, .cells (cs.setIfInBounds k (insV s)) T (0, 0)), insK s] := by
 obtain ⟨n, l0, e0, h0⟩ : ∃ a_ l_ e_, rdInt 1000 l e = (a_, l_, e_) := ⟨_, _, _, rfl⟩
 obtain ⟨hn, hl0, he0⟩ := rd_n he h0
 have hks := at_lt hk
 have hcs : cs.setIfInBounds k (slNil.v 0) = cs := set_self hk
 refine Yu Try.func99 rfl rfl (fun w0 => ?_)
 show G _ _ [(0, _), (1, _), (2, _)] _ _
 refine Zh ?_
 refine Zh ?_
 refine Zd (l := [0, 1, 2, 3, 4]) rfl ?_
 refine Za rfl rfl rfl rfl (Zc rfl rfl) ?_
 refine Za rfl rfl rfl rfl (Ze rfl rfl) ?_
 refine Za rfl rfl rfl rfl (Zb (fo := 2) rfl Try.underlying80 rfl i_74 rfl rfl rfl) ?_
 refine Za rfl rfl rfl rfl (Zj rfl rfl (Zf 0 rfl) rfl Try.underlying74 rfl) ?_
 refine Za rfl rfl rfl rfl (V_peqlN rfl Try.underlying74 rfl rfl) ?_
 refine Zg ?_
 refine Xu rfl ?_
 refine Zu ?_
 refine Zh ?_
 refine Xq (.cells #[] 92 (0, 0)) ?_
 refine Zd (l := [0, 1, 2, 3, 4, 5]) rfl ?_
 refine Za rfl rfl rfl rfl (Zc rfl rfl) ?_
 refine Za rfl rfl rfl rfl (Ze rfl rfl) ?_
 refine Za rfl rfl rfl rfl (Zb (fo := 2) rfl Try.underlying80 rfl i_74 rfl rfl rfl) ?_
 refine Za rfl rfl rfl rfl (Zj rfl rfl (Zf 0 rfl) rfl Try.underlying74 rfl) ?_
 refine Zq (L2 := [_, _]) rfl rfl rfl rfl rfl rfl Try.call84 ((rd_int br l e 1000 (by omega) (by omega) (by omega)).weaken (fun v post h => by rewrite [h0] at h; exact h)) [1] [] rfl rfl ?_
 rintro v post ⟨rfl, rfl⟩
 show G _ _ _ [_, _, _] _
 refine Za rfl rfl rfl rfl (Zc rfl rfl) ?_
 refine Zg ?_
 refine Zs ?_
 refine Yi ?he10 [0, 1, 0] ?hl10 (Xb (X := Nat × Sl × List Wk × List UInt8 × Nat) (fun x_ => match x_ with | ⟨i, u, ms, l1, e1⟩ => i ≤ n ∧ ms.length = i ∧ Own 7 u (ms.flatMap cWk) i ∧ RdgL encWk GWk n l0 e0 i ms l1 e1) (fun x_ => match x_ with | ⟨i, u, ms, l1, e1⟩ => n - i) (fun x_ => match x_ with | ⟨i, u, ms, l1, e1⟩ => [(0, .pointer (some ⟨b, 0, none⟩)), (1, .pointer (some ⟨bx, k, none⟩)), (2, .func (.func 100) #[.pointer (some ⟨b, 0, none⟩)] #[]), (58, .int .i64 (n : Int)), (59, .int .i64 (i : Int))]) (fun x_ => match x_ with | ⟨i, u, ms, l1, e1⟩ => [(some br, .cells #[.string (bs l1), .int .i64 ((e1 : Nat) : Int)] 169 (0, 0)), (some bx, .cells (cs.setIfInBounds k (u.v i)) T (0, 0)), (u.ob, .cells u.cs 92 u.fz)]) ?round10 (0, slNil, [], l0, e0) ?h010)
 case he10 => exact (And.intro rfl (And.intro rfl (And.intro rfl (And.intro rfl (And.intro rfl trivial)))))
 case hl10 => exact ⟨_, by show tk _ _ = some ([_, (some bx, .cells (cs.setIfInBounds k (slNil.v 0)) T (0, 0)), _], _); rw [hcs]; rfl⟩
 case h010 => exact ⟨Nat.zero_le _, rfl, own_nil 7, .zero he0⟩
 case round10 =>
  intro x_ hJ ih
  try dsimp only at hJ ih
  obtain ⟨i, u, ms, l1, e1⟩ := x_
  try dsimp only at hJ ih
  obtain ⟨hi, hml, hu, hx⟩ := hJ
  show G _ _ [(0, .pointer (some ⟨b, 0, none⟩)), (1, .pointer (some ⟨bx, k, none⟩)), (2, .func (.func 100) #[.pointer (some ⟨b, 0, none⟩)] #[]), (58, .int .i64 (n : Int)), (59, .int .i64 (i : Int))] [(some br, .cells #[.string (bs l1), .int .i64 ((e1 : Nat) : Int)] 169 (0, 0)), (some bx, .cells (cs.setIfInBounds k (u.v i)) T (0, 0)), (u.ob, .cells u.cs 92 u.fz)] _
  have hl1 := hx.len
  have he1 := hx.err
  refine Zh ?_
  refine Zd (l := [0]) rfl ?_
  refine Za rfl rfl rfl rfl (Xn rfl rfl rfl) ?_
  refine Zg ?_
  refine Zh ?_
  refine Yk rfl (fun hc1 => ?_) (fun hc1 => ?_)
  ·
   refine Zu ?_
   refine Zh ?_
   refine Zs ?_
   refine Zh ?_
   refine Zh ?_
   refine Zd (l := [0, 1, 2, 3, 4, 5]) rfl ?_
   refine Za rfl rfl rfl rfl (Zc rfl rfl) ?_
   refine Za rfl rfl rfl rfl (Ze rfl rfl) ?_
   refine Za rfl rfl rfl rfl (Zb (fo := 2) rfl Try.underlying80 rfl i_74 rfl rfl rfl) ?_
   refine Za rfl rfl rfl rfl (Zj rfl rfl (Zf 0 rfl) rfl Try.underlying74 rfl) ?_
   refine Zq (L2 := [_, _, _]) rfl rfl rfl rfl rfl rfl Try.call86 (rd_err _ _ _) [] [1] rfl rfl ?_
   rintro v post ⟨rfl, rfl⟩
   show G _ _ _ [_, _, _] _
   refine Za rfl rfl rfl rfl (V_neq rfl rfl rfl) ?_
   refine Zg ?_
   refine Yk rfl (fun hc2 => ?_) (fun hc2 => ?_)
   ·
    refine Yy (post := [_, _, _]) Try.func99 rfl Zp [0, 0, 0] rfl ?_
    dsimp only [packed]
    first
      | exact ⟨insOf u 92 ms, l1, e1, Yh (by rw [hml]; exact hu) (by omega), by show ms.length ≤ _; omega, rdg_Lbad he h0 hx (by omega) _, rfl, by (try simp only [Xd, hml]); first | done | rfl⟩
      | (obtain rfl : i = n := by omega
         exact ⟨insOf u 92 ms, l1, e1, Yh (by rw [hml]; exact hu) (by omega), by show ms.length ≤ _; omega, rdg_L he h0 hx, rfl, by (try simp only [Xd, hml]); first | done | rfl⟩)
   refine Zu ?_
   refine Zh ?_
   refine Zd (l := [0]) rfl ?_
   refine Yw rfl rfl rfl rfl (Ym rfl i_92 rfl) (fun b8 => ?_)
   refine Zg ?_
   refine Zh ?_
   refine Zd (l := [0, 1]) rfl ?_
   refine Za rfl rfl rfl rfl (Zc rfl rfl) ?_
   refine G_callB (L2 := [_, _]) rfl rfl rfl rfl rfl rfl Try.call100 rfl (cr_worker b br l1 e1 (by omega) (by omega) _ (⟨0, 0, 0, [], [], false, 0⟩ : Wk) _) [1, 0] [0] rfl rfl ?_
   rintro v post ⟨m, l2, e2, hm, rfl, rfl⟩
   show G _ _ _ [_, _, _, _] _
   refine Zg ?_
   refine Yf (Lq := [_]) (isq := [1]) (m := 9) Yo rfl rfl ?_
   refine Zi 0 rfl rfl rfl rfl (by kernel_rfl) (fun _ _ => Zc rfl rfl) ?_
   refine Zi 1 rfl rfl rfl rfl (by kernel_rfl) (fun _ _ => Zc rfl rfl) ?_
   refine Zi 2 rfl rfl rfl rfl (by kernel_rfl) (fun _ _ => Ze rfl rfl) ?_
   refine Zi 4 rfl rfl rfl rfl (by kernel_rfl) (fun _ _ => V_loadW (s := 7) rfl rfl (Zf 1 rfl) Try.underlying92 rfl i_92 rfl (by rfl)) ?_
   refine GH_all [3, 5] (by kernel_rfl) (by decide) ?_
   refine (And.intro ?_ (And.intro ?_ trivial))
   ·
    refine Xo rfl rfl rfl rfl (Zj rfl rfl (Zf 3 rfl) (Zt (set_at (u.v i) hks)) Try.underlying25 rfl) ?_
    refine GH_all [5] (by kernel_rfl) (by decide) ?_
    refine (And.intro ?_ trivial)
    ·
     refine Yl rfl rfl rfl rfl (Zn (s := 7) (cs := [_, _, _, _, _, _, _]) rfl Try.underlying25 i_92 rfl rfl rfl rfl rfl rfl rfl rfl rfl) [2] (fun _ => ⟨_, rfl⟩) (fun b74 => ?_)
     refine GH_all [6] (by kernel_rfl) (by decide) ?_
     refine (And.intro ?_ trivial)
     ·
      refine Yq (l1 := [_, _, _, _]) (s := u) (nn := i) (m := 1) (news := (cWk m)) (bt := 72) rfl rfl rfl rfl Try.underlying25 Try.underlying25 (by first | exact .inl rfl | exact .inr ⟨_, rfl⟩) i_92 rfl rfl rfl rfl rfl rfl hu rfl (Yg (Zf 1 rfl) rfl rfl (by simp [cWk, Value.oneCell'])) (by omega) (by omega) [2] (fun _ => ⟨_, rfl⟩) ?_
      intro u1 hu1 _
      show GH _ _ _ _ _ _ _ [_, _, _, _, _] _
      refine Zi 7 rfl rfl rfl rfl (by kernel_rfl) (fun _ _ => Ze rfl rfl) ?_
      refine GH_all [8] (by kernel_rfl) (by decide) ?_
      refine (And.intro ?_ trivial)
      ·
       refine Xk (l1 := [_, _, _]) (L' := [_, _, _, _, _]) rfl rfl rfl rfl (Zm rfl rfl rfl (Zf 3 rfl) (by first | exact of_decide_eq_true rfl | omega | (simp [cOp, cWk, cIv, cHr, cLt, cWt, cIt, cFl, cTn, cCl, cPo, cSt, cDt, cDs, Sl.v]; done) | (simp [cOp, cWk, cIv, cHr, cLt, cWt, cIt, cFl, cTn, cCl, cPo, cSt, cDt, cDs, Sl.v]; omega) | (simp [cOp, cWk, cIv, cHr, cLt, cWt, cIt, cFl, cTn, cCl, cPo, cSt, cDt, cDs, Sl.v] at *; omega)) i_25 rfl rfl) rfl [2] rfl ?_
       refine Ya (by kernel_rfl) ?_
       refine Zv ?_
       refine Zd (l := [0, 1]) rfl ?_
       refine Za rfl rfl rfl rfl ((Xe rfl rfl rfl).int (Zw (by omega))) ?_
       refine Za rfl rfl rfl rfl (Zc rfl rfl) ?_
       refine Zg ?_
       rw [set_set]
       refine Yi ?_ [1, 2, 2] ?_ (ih (i + 1, u1, ms ++ [m], l2, e2) ?_ ?_)
       · (refine (And.intro ?_ (And.intro ?_ (And.intro ?_ (And.intro ?_ (And.intro ?_ trivial))))) <;> first | rfl | exact Zl (by omega) | exact Zl (by simp))
       · exact ⟨_, rfl⟩
       · exact ⟨by omega, by simp [hml], by rw [List.flatMap_append, List.flatMap_singleton]; exact hu1, hx.next hm (by omega)⟩
       · (first | omega | (dsimp only; omega))
   ·
    refine Yl rfl rfl rfl rfl (Zn (s := 7) (cs := [_, _, _, _, _, _, _]) rfl Try.underlying25 i_92 rfl rfl rfl rfl rfl rfl rfl rfl rfl) [2] (fun _ => ⟨_, rfl⟩) (fun b74 => ?_)
    refine GH_all [3] (by kernel_rfl) (by decide) ?_
    refine (And.intro ?_ trivial)
    ·
     refine Xo rfl rfl rfl rfl (Zj rfl rfl (Zf 4 rfl) (Zt (set_at (u.v i) hks)) Try.underlying25 rfl) ?_
     refine GH_all [6] (by kernel_rfl) (by decide) ?_
     refine (And.intro ?_ trivial)
     ·
      refine Yq (l1 := [_, _, _, _]) (s := u) (nn := i) (m := 1) (news := (cWk m)) (bt := 72) rfl rfl rfl rfl Try.underlying25 Try.underlying25 (by first | exact .inl rfl | exact .inr ⟨_, rfl⟩) i_92 rfl rfl rfl rfl rfl rfl hu rfl (Yg (Zf 1 rfl) rfl rfl (by simp [cWk, Value.oneCell'])) (by omega) (by omega) [2] (fun _ => ⟨_, rfl⟩) ?_
      intro u1 hu1 _
      show GH _ _ _ _ _ _ _ [_, _, _, _, _] _
      refine Zi 7 rfl rfl rfl rfl (by kernel_rfl) (fun _ _ => Ze rfl rfl) ?_
      refine GH_all [8] (by kernel_rfl) (by decide) ?_
      refine (And.intro ?_ trivial)
      ·
       refine Xk (l1 := [_, _, _]) (L' := [_, _, _, _, _]) rfl rfl rfl rfl (Zm rfl rfl rfl (Zf 3 rfl) (by first | exact of_decide_eq_true rfl | omega | (simp [cOp, cWk, cIv, cHr, cLt, cWt, cIt, cFl, cTn, cCl, cPo, cSt, cDt, cDs, Sl.v]; done) | (simp [cOp, cWk, cIv, cHr, cLt, cWt, cIt, cFl, cTn, cCl, cPo, cSt, cDt, cDs, Sl.v]; omega) | (simp [cOp, cWk, cIv, cHr, cLt, cWt, cIt, cFl, cTn, cCl, cPo, cSt, cDt, cDs, Sl.v] at *; omega)) i_25 rfl rfl) rfl [2] rfl ?_
       refine Ya (by kernel_rfl) ?_
       refine Zv ?_
       refine Zd (l := [0, 1]) rfl ?_
       refine Za rfl rfl rfl rfl ((Xe rfl rfl rfl).int (Zw (by omega))) ?_
       refine Za rfl rfl rfl rfl (Zc rfl rfl) ?_
       refine Zg ?_
       rw [set_set]
       refine Yi ?_ [1, 2, 2] ?_ (ih (i + 1, u1, ms ++ [m], l2, e2) ?_ ?_)
       · (refine (And.intro ?_ (And.intro ?_ (And.intro ?_ (And.intro ?_ (And.intro ?_ trivial))))) <;> first | rfl | exact Zl (by omega) | exact Zl (by simp))
       · exact ⟨_, rfl⟩
       · exact ⟨by omega, by simp [hml], by rw [List.flatMap_append, List.flatMap_singleton]; exact hu1, hx.next hm (by omega)⟩
       · (first | omega | (dsimp only; omega))
  refine Yr rfl ?_
  refine G_end (post := [_, _, _]) Try.func99 rfl Zp [0, 0, 0] rfl ?_
  dsimp only [packed]
  first
    | exact ⟨insOf u 92 ms, l1, e1, Yh (by rw [hml]; exact hu) (by omega), by show ms.length ≤ _; omega, rdg_Lbad he h0 hx (by omega) _, rfl, by (try simp only [Xd, hml]); first | done | rfl⟩
    | (obtain rfl : i = n := by omega
       exact ⟨insOf u 92 ms, l1, e1, Yh (by rw [hml]; exact hu) (by omega), by show ms.length ≤ _; omega, rdg_L he h0 hx, rfl, by (try simp only [Xd, hml]); first | done | rfl⟩)

set_option maxRecDepth 100000 in
set_option maxHeartbeats 2000000 in
theorem cr_listIv (b br : Nat) (l : List UInt8) (e : Nat) (hl : l.length ≤ 140737488350000) (he : e ≤ 1000) (bx k : Nat) (cs : Array Value) (T : TypeId) (hk : cs[k]? = some (.slice none 0 0)) :
    Ct Try.prog 101 [.pointer (some ⟨b, 0, none⟩), .pointer (some ⟨bx, k, none⟩), .func (.func 102) #[.pointer (some ⟨b, 0, none⟩)] #[]] [(some b, .cells #[.pointer none, .slice none 0 0, .pointer (some ⟨br, 0, none⟩), .bool false] 80 (0, 0))] [(some br, .cells #[.string (bs l), .int .i64 ((e : Nat) : Int)] 169 (0, 0)), (some bx, .cells (cs) T (0, 0))] fun v post => ∃ (s : Ins Iv) (l1 : List UInt8) (e1 : Nat), InsOk 5 cIv s ∧ s.l.length ≤ 1000 ∧ Rdg (encL encIv) (GL GIv) l e s.l l1 e1 ∧ v = .tuple #[] ∧ post = [(some br, .cells #[.string (bs l1), .int .i64 ((e1 : Nat) : Int)] 169 (0, 0)), (some bx, .cells (cs.setIfInBounds k (insV s)) T (0, 0)), insK s] := by
 obtain ⟨n, l0, e0, h0⟩ : ∃ a_ l_ e_, rdInt 1000 l e = (a_, l_, e_) := ⟨_, _, _, rfl⟩
 obtain ⟨hn, hl0, he0⟩ := rd_n he h0
 have hks := at_lt hk
 have hcs : cs.setIfInBounds k (slNil.v 0) = cs := set_self hk
 refine Yu Try.func101 rfl rfl (fun w0 => ?_)
 show G _ _ [(0, _), (1, _), (2, _)] _ _
 refine Zh ?_
 refine Zh ?_
 refine Zd (l := [0, 1, 2, 3, 4]) rfl ?_
 refine Za rfl rfl rfl rfl (Zc rfl rfl) ?_
 refine Za rfl rfl rfl rfl (Ze rfl rfl) ?_
 refine Za rfl rfl rfl rfl (Zb (fo := 2) rfl Try.underlying80 rfl i_74 rfl rfl rfl) ?_
 refine Za rfl rfl rfl rfl (Zj rfl rfl (Zf 0 rfl) rfl Try.underlying74 rfl) ?_
 refine Za rfl rfl rfl rfl (V_peqlN rfl Try.underlying74 rfl rfl) ?_
 refine Zg ?_
 refine Xu rfl ?_
 refine Zu ?_
 refine Zh ?_
 refine Xq (.cells #[] 95 (0, 0)) ?_
 refine Zd (l := [0, 1, 2, 3, 4, 5]) rfl ?_
 refine Za rfl rfl rfl rfl (Zc rfl rfl) ?_
 refine Za rfl rfl rfl rfl (Ze rfl rfl) ?_
 refine Za rfl rfl rfl rfl (Zb (fo := 2) rfl Try.underlying80 rfl i_74 rfl rfl rfl) ?_
 refine Za rfl rfl rfl rfl (Zj rfl rfl (Zf 0 rfl) rfl Try.underlying74 rfl) ?_
 refine Zq (L2 := [_, _]) rfl rfl rfl rfl rfl rfl Try.call84 ((rd_int br l e 1000 (by omega) (by omega) (by omega)).weaken (fun v post h => by rewrite [h0] at h; exact h)) [1] [] rfl rfl ?_
 rintro v post ⟨rfl, rfl⟩
 show G _ _ _ [_, _, _] _
 refine Za rfl rfl rfl rfl (Zc rfl rfl) ?_
 refine Zg ?_
 refine Zs ?_
 refine Yi ?he10 [0, 1, 0] ?hl10 (Xb (X := Nat × Sl × List Iv × List UInt8 × Nat) (fun x_ => match x_ with | ⟨i, u, ms, l1, e1⟩ => i ≤ n ∧ ms.length = i ∧ Own 5 u (ms.flatMap cIv) i ∧ RdgL encIv GIv n l0 e0 i ms l1 e1) (fun x_ => match x_ with | ⟨i, u, ms, l1, e1⟩ => n - i) (fun x_ => match x_ with | ⟨i, u, ms, l1, e1⟩ => [(0, .pointer (some ⟨b, 0, none⟩)), (1, .pointer (some ⟨bx, k, none⟩)), (2, .func (.func 102) #[.pointer (some ⟨b, 0, none⟩)] #[]), (58, .int .i64 (n : Int)), (59, .int .i64 (i : Int))]) (fun x_ => match x_ with | ⟨i, u, ms, l1, e1⟩ => [(some br, .cells #[.string (bs l1), .int .i64 ((e1 : Nat) : Int)] 169 (0, 0)), (some bx, .cells (cs.setIfInBounds k (u.v i)) T (0, 0)), (u.ob, .cells u.cs 95 u.fz)]) ?round10 (0, slNil, [], l0, e0) ?h010)
 case he10 => exact (And.intro rfl (And.intro rfl (And.intro rfl (And.intro rfl (And.intro rfl trivial)))))
 case hl10 => exact ⟨_, by show tk _ _ = some ([_, (some bx, .cells (cs.setIfInBounds k (slNil.v 0)) T (0, 0)), _], _); rw [hcs]; rfl⟩
 case h010 => exact ⟨Nat.zero_le _, rfl, own_nil 5, .zero he0⟩
 case round10 =>
  intro x_ hJ ih
  try dsimp only at hJ ih
  obtain ⟨i, u, ms, l1, e1⟩ := x_
  try dsimp only at hJ ih
  obtain ⟨hi, hml, hu, hx⟩ := hJ
  show G _ _ [(0, .pointer (some ⟨b, 0, none⟩)), (1, .pointer (some ⟨bx, k, none⟩)), (2, .func (.func 102) #[.pointer (some ⟨b, 0, none⟩)] #[]), (58, .int .i64 (n : Int)), (59, .int .i64 (i : Int))] [(some br, .cells #[.string (bs l1), .int .i64 ((e1 : Nat) : Int)] 169 (0, 0)), (some bx, .cells (cs.setIfInBounds k (u.v i)) T (0, 0)), (u.ob, .cells u.cs 95 u.fz)] _
  have hl1 := hx.len
  have he1 := hx.err
  refine Zh ?_
  refine Zd (l := [0]) rfl ?_
  refine Za rfl rfl rfl rfl (Xn rfl rfl rfl) ?_
  refine Zg ?_
  refine Zh ?_
  refine Yk rfl (fun hc1 => ?_) (fun hc1 => ?_)
  ·
   refine Zu ?_
   refine Zh ?_
   refine Zs ?_
   refine Zh ?_
   refine Zh ?_
   refine Zd (l := [0, 1, 2, 3, 4, 5]) rfl ?_
   refine Za rfl rfl rfl rfl (Zc rfl rfl) ?_
   refine Za rfl rfl rfl rfl (Ze rfl rfl) ?_
   refine Za rfl rfl rfl rfl (Zb (fo := 2) rfl Try.underlying80 rfl i_74 rfl rfl rfl) ?_
   refine Za rfl rfl rfl rfl (Zj rfl rfl (Zf 0 rfl) rfl Try.underlying74 rfl) ?_
   refine Zq (L2 := [_, _, _]) rfl rfl rfl rfl rfl rfl Try.call86 (rd_err _ _ _) [] [1] rfl rfl ?_
   rintro v post ⟨rfl, rfl⟩
   show G _ _ _ [_, _, _] _
   refine Za rfl rfl rfl rfl (V_neq rfl rfl rfl) ?_
   refine Zg ?_
   refine Yk rfl (fun hc2 => ?_) (fun hc2 => ?_)
   ·
    refine Yy (post := [_, _, _]) Try.func101 rfl Zp [0, 0, 0] rfl ?_
    dsimp only [packed]
    first
      | exact ⟨insOf u 95 ms, l1, e1, Yh (by rw [hml]; exact hu) (by omega), by show ms.length ≤ _; omega, rdg_Lbad he h0 hx (by omega) _, rfl, by (try simp only [Xd, hml]); first | done | rfl⟩
      | (obtain rfl : i = n := by omega
         exact ⟨insOf u 95 ms, l1, e1, Yh (by rw [hml]; exact hu) (by omega), by show ms.length ≤ _; omega, rdg_L he h0 hx, rfl, by (try simp only [Xd, hml]); first | done | rfl⟩)
   refine Zu ?_
   refine Zh ?_
   refine Zd (l := [0]) rfl ?_
   refine Yw rfl rfl rfl rfl (Ym rfl i_95 rfl) (fun b8 => ?_)
   refine Zg ?_
   refine Zh ?_
   refine Zd (l := [0, 1]) rfl ?_
   refine Za rfl rfl rfl rfl (Zc rfl rfl) ?_
   refine G_callB (L2 := [_, _]) rfl rfl rfl rfl rfl rfl Try.call102 rfl (cr_inv b br l1 e1 (by omega) (by omega) _ (⟨0, 0, [], 0, 0⟩ : Iv) _) [1, 0] [0] rfl rfl ?_
   rintro v post ⟨m, l2, e2, hm, rfl, rfl⟩
   show G _ _ _ [_, _, _, _] _
   refine Zg ?_
   refine Yf (Lq := [_]) (isq := [1]) (m := 9) Yo rfl rfl ?_
   refine Zi 0 rfl rfl rfl rfl (by kernel_rfl) (fun _ _ => Zc rfl rfl) ?_
   refine Zi 1 rfl rfl rfl rfl (by kernel_rfl) (fun _ _ => Zc rfl rfl) ?_
   refine Zi 2 rfl rfl rfl rfl (by kernel_rfl) (fun _ _ => Ze rfl rfl) ?_
   refine Zi 4 rfl rfl rfl rfl (by kernel_rfl) (fun _ _ => V_loadW (s := 5) rfl rfl (Zf 1 rfl) Try.underlying95 rfl i_95 rfl (by rfl)) ?_
   refine GH_all [3, 5] (by kernel_rfl) (by decide) ?_
   refine (And.intro ?_ (And.intro ?_ trivial))
   ·
    refine Xo rfl rfl rfl rfl (Zj rfl rfl (Zf 3 rfl) (Zt (set_at (u.v i) hks)) Try.underlying26 rfl) ?_
    refine GH_all [5] (by kernel_rfl) (by decide) ?_
    refine (And.intro ?_ trivial)
    ·
     refine Yl rfl rfl rfl rfl (Zn (s := 5) (cs := [_, _, _, _, _]) rfl Try.underlying26 i_95 rfl rfl rfl rfl rfl rfl rfl rfl rfl) [2] (fun _ => ⟨_, rfl⟩) (fun b74 => ?_)
     refine GH_all [6] (by kernel_rfl) (by decide) ?_
     refine (And.intro ?_ trivial)
     ·
      refine Yq (l1 := [_, _, _, _]) (s := u) (nn := i) (m := 1) (news := (cIv m)) (bt := 48) rfl rfl rfl rfl Try.underlying26 Try.underlying26 (by first | exact .inl rfl | exact .inr ⟨_, rfl⟩) i_95 rfl rfl rfl rfl rfl rfl hu rfl (Yg (Zf 1 rfl) rfl rfl (by simp [cIv, Value.oneCell'])) (by omega) (by omega) [2] (fun _ => ⟨_, rfl⟩) ?_
      intro u1 hu1 _
      show GH _ _ _ _ _ _ _ [_, _, _, _, _] _
      refine Zi 7 rfl rfl rfl rfl (by kernel_rfl) (fun _ _ => Ze rfl rfl) ?_
      refine GH_all [8] (by kernel_rfl) (by decide) ?_
      refine (And.intro ?_ trivial)
      ·
       refine Xk (l1 := [_, _, _]) (L' := [_, _, _, _, _]) rfl rfl rfl rfl (Zm rfl rfl rfl (Zf 3 rfl) (by first | exact of_decide_eq_true rfl | omega | (simp [cOp, cWk, cIv, cHr, cLt, cWt, cIt, cFl, cTn, cCl, cPo, cSt, cDt, cDs, Sl.v]; done) | (simp [cOp, cWk, cIv, cHr, cLt, cWt, cIt, cFl, cTn, cCl, cPo, cSt, cDt, cDs, Sl.v]; omega) | (simp [cOp, cWk, cIv, cHr, cLt, cWt, cIt, cFl, cTn, cCl, cPo, cSt, cDt, cDs, Sl.v] at *; omega)) i_26 rfl rfl) rfl [2] rfl ?_
       refine Ya (by kernel_rfl) ?_
       refine Zv ?_
       refine Zd (l := [0, 1]) rfl ?_
       refine Za rfl rfl rfl rfl ((Xe rfl rfl rfl).int (Zw (by omega))) ?_
       refine Za rfl rfl rfl rfl (Zc rfl rfl) ?_
       refine Zg ?_
       rw [set_set]
       refine Yi ?_ [1, 2, 2] ?_ (ih (i + 1, u1, ms ++ [m], l2, e2) ?_ ?_)
       · (refine (And.intro ?_ (And.intro ?_ (And.intro ?_ (And.intro ?_ (And.intro ?_ trivial))))) <;> first | rfl | exact Zl (by omega) | exact Zl (by simp))
       · exact ⟨_, rfl⟩
       · exact ⟨by omega, by simp [hml], by rw [List.flatMap_append, List.flatMap_singleton]; exact hu1, hx.next hm (by omega)⟩
       · (first | omega | (dsimp only; omega))
   ·
    refine Yl rfl rfl rfl rfl (Zn (s := 5) (cs := [_, _, _, _, _]) rfl Try.underlying26 i_95 rfl rfl rfl rfl rfl rfl rfl rfl rfl) [2] (fun _ => ⟨_, rfl⟩) (fun b74 => ?_)
    refine GH_all [3] (by kernel_rfl) (by decide) ?_
    refine (And.intro ?_ trivial)
    ·
     refine Xo rfl rfl rfl rfl (Zj rfl rfl (Zf 4 rfl) (Zt (set_at (u.v i) hks)) Try.underlying26 rfl) ?_
     refine GH_all [6] (by kernel_rfl) (by decide) ?_
     refine (And.intro ?_ trivial)
     ·
      refine Yq (l1 := [_, _, _, _]) (s := u) (nn := i) (m := 1) (news := (cIv m)) (bt := 48) rfl rfl rfl rfl Try.underlying26 Try.underlying26 (by first | exact .inl rfl | exact .inr ⟨_, rfl⟩) i_95 rfl rfl rfl rfl rfl rfl hu rfl (Yg (Zf 1 rfl) rfl rfl (by simp [cIv, Value.oneCell'])) (by omega) (by omega) [2] (fun _ => ⟨_, rfl⟩) ?_
      intro u1 hu1 _
      show GH _ _ _ _ _ _ _ [_, _, _, _, _] _
      refine Zi 7 rfl rfl rfl rfl (by kernel_rfl) (fun _ _ => Ze rfl rfl) ?_
      refine GH_all [8] (by kernel_rfl) (by decide) ?_
      refine (And.intro ?_ trivial)
      ·
       refine Xk (l1 := [_, _, _]) (L' := [_, _, _, _, _]) rfl rfl rfl rfl (Zm rfl rfl rfl (Zf 3 rfl) (by first | exact of_decide_eq_true rfl | omega | (simp [cOp, cWk, cIv, cHr, cLt, cWt, cIt, cFl, cTn, cCl, cPo, cSt, cDt, cDs, Sl.v]; done) | (simp [cOp, cWk, cIv, cHr, cLt, cWt, cIt, cFl, cTn, cCl, cPo, cSt, cDt, cDs, Sl.v]; omega) | (simp [cOp, cWk, cIv, cHr, cLt, cWt, cIt, cFl, cTn, cCl, cPo, cSt, cDt, cDs, Sl.v] at *; omega)) i_26 rfl rfl) rfl [2] rfl ?_
       refine Ya (by kernel_rfl) ?_
       refine Zv ?_
       refine Zd (l := [0, 1]) rfl ?_
       refine Za rfl rfl rfl rfl ((Xe rfl rfl rfl).int (Zw (by omega))) ?_
       refine Za rfl rfl rfl rfl (Zc rfl rfl) ?_
       refine Zg ?_
       rw [set_set]
       refine Yi ?_ [1, 2, 2] ?_ (ih (i + 1, u1, ms ++ [m], l2, e2) ?_ ?_)
       · (refine (And.intro ?_ (And.intro ?_ (And.intro ?_ (And.intro ?_ (And.intro ?_ trivial))))) <;> first | rfl | exact Zl (by omega) | exact Zl (by simp))
       · exact ⟨_, rfl⟩
       · exact ⟨by omega, by simp [hml], by rw [List.flatMap_append, List.flatMap_singleton]; exact hu1, hx.next hm (by omega)⟩
       · (first | omega | (dsimp only; omega))
  refine Yr rfl ?_
  refine G_end (post := [_, _, _]) Try.func101 rfl Zp [0, 0, 0] rfl ?_
  dsimp only [packed]
  first
    | exact ⟨insOf u 95 ms, l1, e1, Yh (by rw [hml]; exact hu) (by omega), by show ms.length ≤ _; omega, rdg_Lbad he h0 hx (by omega) _, rfl, by (try simp only [Xd, hml]); first | done | rfl⟩
    | (obtain rfl : i = n := by omega
       exact ⟨insOf u 95 ms, l1, e1, Yh (by rw [hml]; exact hu) (by omega), by show ms.length ≤ _; omega, rdg_L he h0 hx, rfl, by (try simp only [Xd, hml]); first | done | rfl⟩)

set_option maxRecDepth 100000 in
set_option maxHeartbeats 2000000 in
theorem cr_listHr (b br : Nat) (l : List UInt8) (e : Nat) (hl : l.length ≤ 140737488350000) (he : e ≤ 1000) (bx k : Nat) (cs : Array Value) (T : TypeId) (hk : cs[k]? = some (.slice none 0 0)) :
    Ct Try.prog 105 [.pointer (some ⟨b, 0, none⟩), .pointer (some ⟨bx, k, none⟩), .func (.func 106) #[.pointer (some ⟨b, 0, none⟩)] #[]] [(some b, .cells #[.pointer none, .slice none 0 0, .pointer (some ⟨br, 0, none⟩), .bool false] 80 (0, 0))] [(some br, .cells #[.string (bs l), .int .i64 ((e : Nat) : Int)] 169 (0, 0)), (some bx, .cells (cs) T (0, 0))] fun v post => ∃ (s : Ins Hr) (l1 : List UInt8) (e1 : Nat), InsOk 17 cHr s ∧ s.l.length ≤ 1000 ∧ Rdg (encL encHr) (GL GHr) l e s.l l1 e1 ∧ v = .tuple #[] ∧ post = [(some br, .cells #[.string (bs l1), .int .i64 ((e1 : Nat) : Int)] 169 (0, 0)), (some bx, .cells (cs.setIfInBounds k (insV s)) T (0, 0)), insK s] := by
 obtain ⟨n, l0, e0, h0⟩ : ∃ a_ l_ e_, rdInt 1000 l e = (a_, l_, e_) := ⟨_, _, _, rfl⟩
 obtain ⟨hn, hl0, he0⟩ := rd_n he h0
 have hks := at_lt hk
 have hcs : cs.setIfInBounds k (slNil.v 0) = cs := set_self hk
 refine Yu Try.func105 rfl rfl (fun w0 => ?_)
 show G _ _ [(0, _), (1, _), (2, _)] _ _
 refine Zh ?_
 refine Zh ?_
 refine Zd (l := [0, 1, 2, 3, 4]) rfl ?_
 refine Za rfl rfl rfl rfl (Zc rfl rfl) ?_
 refine Za rfl rfl rfl rfl (Ze rfl rfl) ?_
 refine Za rfl rfl rfl rfl (Zb (fo := 2) rfl Try.underlying80 rfl i_74 rfl rfl rfl) ?_
 refine Za rfl rfl rfl rfl (Zj rfl rfl (Zf 0 rfl) rfl Try.underlying74 rfl) ?_
 refine Za rfl rfl rfl rfl (V_peqlN rfl Try.underlying74 rfl rfl) ?_
 refine Zg ?_
 refine Xu rfl ?_
 refine Zu ?_
 refine Zh ?_
 refine Xq (.cells #[] 141 (0, 0)) ?_
 refine Zd (l := [0, 1, 2, 3, 4, 5]) rfl ?_
 refine Za rfl rfl rfl rfl (Zc rfl rfl) ?_
 refine Za rfl rfl rfl rfl (Ze rfl rfl) ?_
 refine Za rfl rfl rfl rfl (Zb (fo := 2) rfl Try.underlying80 rfl i_74 rfl rfl rfl) ?_
 refine Za rfl rfl rfl rfl (Zj rfl rfl (Zf 0 rfl) rfl Try.underlying74 rfl) ?_
 refine Zq (L2 := [_, _]) rfl rfl rfl rfl rfl rfl Try.call84 ((rd_int br l e 1000 (by omega) (by omega) (by omega)).weaken (fun v post h => by rewrite [h0] at h; exact h)) [1] [] rfl rfl ?_
 rintro v post ⟨rfl, rfl⟩
 show G _ _ _ [_, _, _] _
 refine Za rfl rfl rfl rfl (Zc rfl rfl) ?_
 refine Zg ?_
 refine Zs ?_
 refine Yi ?he10 [0, 1, 0] ?hl10 (Xb (X := Nat × Sl × List Hr × List UInt8 × Nat) (fun x_ => match x_ with | ⟨i, u, ms, l1, e1⟩ => i ≤ n ∧ ms.length = i ∧ Own 17 u (ms.flatMap cHr) i ∧ RdgL encHr GHr n l0 e0 i ms l1 e1) (fun x_ => match x_ with | ⟨i, u, ms, l1, e1⟩ => n - i) (fun x_ => match x_ with | ⟨i, u, ms, l1, e1⟩ => [(0, .pointer (some ⟨b, 0, none⟩)), (1, .pointer (some ⟨bx, k, none⟩)), (2, .func (.func 106) #[.pointer (some ⟨b, 0, none⟩)] #[]), (58, .int .i64 (n : Int)), (59, .int .i64 (i : Int))]) (fun x_ => match x_ with | ⟨i, u, ms, l1, e1⟩ => [(some br, .cells #[.string (bs l1), .int .i64 ((e1 : Nat) : Int)] 169 (0, 0)), (some bx, .cells (cs.setIfInBounds k (u.v i)) T (0, 0)), (u.ob, .cells u.cs 141 u.fz)]) ?round10 (0, slNil, [], l0, e0) ?h010)
 case he10 => exact (And.intro rfl (And.intro rfl (And.intro rfl (And.intro rfl (And.intro rfl trivial)))))
 case hl10 => exact ⟨_, by show tk _ _ = some ([_, (some bx, .cells (cs.setIfInBounds k (slNil.v 0)) T (0, 0)), _], _); rw [hcs]; rfl⟩
 case h010 => exact ⟨Nat.zero_le _, rfl, own_nil 17, .zero he0⟩
 case round10 =>
  intro x_ hJ ih
  try dsimp only at hJ ih
  obtain ⟨i, u, ms, l1, e1⟩ := x_
  try dsimp only at hJ ih
  obtain ⟨hi, hml, hu, hx⟩ := hJ
  show G _ _ [(0, .pointer (some ⟨b, 0, none⟩)), (1, .pointer (some ⟨bx, k, none⟩)), (2, .func (.func 106) #[.pointer (some ⟨b, 0, none⟩)] #[]), (58, .int .i64 (n : Int)), (59, .int .i64 (i : Int))] [(some br, .cells #[.string (bs l1), .int .i64 ((e1 : Nat) : Int)] 169 (0, 0)), (some bx, .cells (cs.setIfInBounds k (u.v i)) T (0, 0)), (u.ob, .cells u.cs 141 u.fz)] _
  have hl1 := hx.len
  have he1 := hx.err
  refine Zh ?_
  refine Zd (l := [0]) rfl ?_
  refine Za rfl rfl rfl rfl (Xn rfl rfl rfl) ?_
  refine Zg ?_
  refine Zh ?_
  refine Yk rfl (fun hc1 => ?_) (fun hc1 => ?_)
  ·
   refine Zu ?_
   refine Zh ?_
   refine Zs ?_
   refine Zh ?_
   refine Zh ?_
   refine Zd (l := [0, 1, 2, 3, 4, 5]) rfl ?_
   refine Za rfl rfl rfl rfl (Zc rfl rfl) ?_
   refine Za rfl rfl rfl rfl (Ze rfl rfl) ?_
   refine Za rfl rfl rfl rfl (Zb (fo := 2) rfl Try.underlying80 rfl i_74 rfl rfl rfl) ?_
   refine Za rfl rfl rfl rfl (Zj rfl rfl (Zf 0 rfl) rfl Try.underlying74 rfl) ?_
   refine Zq (L2 := [_, _, _]) rfl rfl rfl rfl rfl rfl Try.call86 (rd_err _ _ _) [] [1] rfl rfl ?_
   rintro v post ⟨rfl, rfl⟩
   show G _ _ _ [_, _, _] _
   refine Za rfl rfl rfl rfl (V_neq rfl rfl rfl) ?_
   refine Zg ?_
   refine Yk rfl (fun hc2 => ?_) (fun hc2 => ?_)
   ·
    refine Yy (post := [_, _, _]) Try.func105 rfl Zp [0, 0, 0] rfl ?_
    dsimp only [packed]
    first
      | exact ⟨insOf u 141 ms, l1, e1, Yh (by rw [hml]; exact hu) (by omega), by show ms.length ≤ _; omega, rdg_Lbad he h0 hx (by omega) _, rfl, by (try simp only [Xd, hml]); first | done | rfl⟩
      | (obtain rfl : i = n := by omega
         exact ⟨insOf u 141 ms, l1, e1, Yh (by rw [hml]; exact hu) (by omega), by show ms.length ≤ _; omega, rdg_L he h0 hx, rfl, by (try simp only [Xd, hml]); first | done | rfl⟩)
   refine Zu ?_
   refine Zh ?_
   refine Zd (l := [0]) rfl ?_
   refine Yw rfl rfl rfl rfl (Ym rfl i_141 rfl) (fun b8 => ?_)
   refine Zg ?_
   refine Zh ?_
   refine Zd (l := [0, 1]) rfl ?_
   refine Za rfl rfl rfl rfl (Zc rfl rfl) ?_
   refine G_callB (L2 := [_, _]) rfl rfl rfl rfl rfl rfl Try.call106 rfl (cr_row b br l1 e1 (by omega) (by omega) _ (⟨[], 0, 0, 0, 0, 0, 0, 0, 0, 0, 0, 0, 0, 0, 0, 0, 0⟩ : Hr) _) [1, 0] [0] rfl rfl ?_
   rintro v post ⟨m, l2, e2, hm, rfl, rfl⟩
   show G _ _ _ [_, _, _, _] _
   refine Zg ?_
   refine Yf (Lq := [_]) (isq := [1]) (m := 9) Yo rfl rfl ?_
   refine Zi 0 rfl rfl rfl rfl (by kernel_rfl) (fun _ _ => Zc rfl rfl) ?_
   refine Zi 1 rfl rfl rfl rfl (by kernel_rfl) (fun _ _ => Zc rfl rfl) ?_
   refine Zi 2 rfl rfl rfl rfl (by kernel_rfl) (fun _ _ => Ze rfl rfl) ?_
   refine Zi 4 rfl rfl rfl rfl (by kernel_rfl) (fun _ _ => V_loadW (s := 17) rfl rfl (Zf 1 rfl) Try.underlying141 rfl i_141 rfl (by rfl)) ?_
   refine GH_all [3, 5] (by kernel_rfl) (by decide) ?_
   refine (And.intro ?_ (And.intro ?_ trivial))
   ·
    refine Xo rfl rfl rfl rfl (Zj rfl rfl (Zf 3 rfl) (Zt (set_at (u.v i) hks)) Try.underlying28 rfl) ?_
    refine GH_all [5] (by kernel_rfl) (by decide) ?_
    refine (And.intro ?_ trivial)
    ·
     refine Yl rfl rfl rfl rfl (Zn (s := 17) (cs := [_, _, _, _, _, _, _, _, _, _, _, _, _, _, _, _, _]) rfl Try.underlying28 i_141 rfl rfl rfl rfl rfl rfl rfl rfl rfl) [2] (fun _ => ⟨_, rfl⟩) (fun b74 => ?_)
     refine GH_all [6] (by kernel_rfl) (by decide) ?_
     refine (And.intro ?_ trivial)
     ·
      refine Yq (l1 := [_, _, _, _]) (s := u) (nn := i) (m := 1) (news := (cHr m)) (bt := 144) rfl rfl rfl rfl Try.underlying28 Try.underlying28 (by first | exact .inl rfl | exact .inr ⟨_, rfl⟩) i_141 rfl rfl rfl rfl rfl rfl hu rfl (Yg (Zf 1 rfl) rfl rfl (by simp [cHr, Value.oneCell'])) (by omega) (by omega) [2] (fun _ => ⟨_, rfl⟩) ?_
      intro u1 hu1 _
      show GH _ _ _ _ _ _ _ [_, _, _, _, _] _
      refine Zi 7 rfl rfl rfl rfl (by kernel_rfl) (fun _ _ => Ze rfl rfl) ?_
      refine GH_all [8] (by kernel_rfl) (by decide) ?_
      refine (And.intro ?_ trivial)
      ·
       refine Xk (l1 := [_, _, _]) (L' := [_, _, _, _, _]) rfl rfl rfl rfl (Zm rfl rfl rfl (Zf 3 rfl) (by first | exact of_decide_eq_true rfl | omega | (simp [cOp, cWk, cIv, cHr, cLt, cWt, cIt, cFl, cTn, cCl, cPo, cSt, cDt, cDs, Sl.v]; done) | (simp [cOp, cWk, cIv, cHr, cLt, cWt, cIt, cFl, cTn, cCl, cPo, cSt, cDt, cDs, Sl.v]; omega) | (simp [cOp, cWk, cIv, cHr, cLt, cWt, cIt, cFl, cTn, cCl, cPo, cSt, cDt, cDs, Sl.v] at *; omega)) i_28 rfl rfl) rfl [2] rfl ?_
       refine Ya (by kernel_rfl) ?_
       refine Zv ?_
       refine Zd (l := [0, 1]) rfl ?_
       refine Za rfl rfl rfl rfl ((Xe rfl rfl rfl).int (Zw (by omega))) ?_
       refine Za rfl rfl rfl rfl (Zc rfl rfl) ?_
       refine Zg ?_
       rw [set_set]
       refine Yi ?_ [1, 2, 2] ?_ (ih (i + 1, u1, ms ++ [m], l2, e2) ?_ ?_)
       · (refine (And.intro ?_ (And.intro ?_ (And.intro ?_ (And.intro ?_ (And.intro ?_ trivial))))) <;> first | rfl | exact Zl (by omega) | exact Zl (by simp))
       · exact ⟨_, rfl⟩
       · exact ⟨by omega, by simp [hml], by rw [List.flatMap_append, List.flatMap_singleton]; exact hu1, hx.next hm (by omega)⟩
       · (first | omega | (dsimp only; omega))
   ·
    refine Yl rfl rfl rfl rfl (Zn (s := 17) (cs := [_, _, _, _, _, _, _, _, _, _, _, _, _, _, _, _, _]) rfl Try.underlying28 i_141 rfl rfl rfl rfl rfl rfl rfl rfl rfl) [2] (fun _ => ⟨_, rfl⟩) (fun b74 => ?_)
    refine GH_all [3] (by kernel_rfl) (by decide) ?_
    refine (And.intro ?_ trivial)
    ·
     refine Xo rfl rfl rfl rfl (Zj rfl rfl (Zf 4 rfl) (Zt (set_at (u.v i) hks)) Try.underlying28 rfl) ?_
     refine GH_all [6] (by kernel_rfl) (by decide) ?_
     refine (And.intro ?_ trivial)
     ·
      refine Yq (l1 := [_, _, _, _]) (s := u) (nn := i) (m := 1) (news := (cHr m)) (bt := 144) rfl rfl rfl rfl Try.underlying28 Try.underlying28 (by first | exact .inl rfl | exact .inr ⟨_, rfl⟩) i_141 rfl rfl rfl rfl rfl rfl hu rfl (Yg (Zf 1 rfl) rfl rfl (by simp [cHr, Value.oneCell'])) (by omega) (by omega) [2] (fun _ => ⟨_, rfl⟩) ?_
      intro u1 hu1 _
      show GH _ _ _ _ _ _ _ [_, _, _, _, _] _
      refine Zi 7 rfl rfl rfl rfl (by kernel_rfl) (fun _ _ => Ze rfl rfl) ?_
      refine GH_all [8] (by kernel_rfl) (by decide) ?_
      refine (And.intro ?_ trivial)
      ·
       refine Xk (l1 := [_, _, _]) (L' := [_, _, _, _, _]) rfl rfl rfl rfl (Zm rfl rfl rfl (Zf 3 rfl) (by first | exact of_decide_eq_true rfl | omega | (simp [cOp, cWk, cIv, cHr, cLt, cWt, cIt, cFl, cTn, cCl, cPo, cSt, cDt, cDs, Sl.v]; done) | (simp [cOp, cWk, cIv, cHr, cLt, cWt, cIt, cFl, cTn, cCl, cPo, cSt, cDt, cDs, Sl.v]; omega) | (simp [cOp, cWk, cIv, cHr, cLt, cWt, cIt, cFl, cTn, cCl, cPo, cSt, cDt, cDs, Sl.v] at *; omega)) i_28 rfl rfl) rfl [2] rfl ?_
       refine Ya (by kernel_rfl) ?_
       refine Zv ?_
       refine Zd (l := [0, 1]) rfl ?_
       refine Za rfl rfl rfl rfl ((Xe rfl rfl rfl).int (Zw (by omega))) ?_
       refine Za rfl rfl rfl rfl (Zc rfl rfl) ?_
       refine Zg ?_
       rw [set_set]
       refine Yi ?_ [1, 2, 2] ?_ (ih (i + 1, u1, ms ++ [m], l2, e2) ?_ ?_)
       · (refine (And.intro ?_ (And.intro ?_ (And.intro ?_ (And.intro ?_ (And.intro ?_ trivial))))) <;> first | rfl | exact Zl (by omega) | exact Zl (by simp))
       · exact ⟨_, rfl⟩
       · exact ⟨by omega, by simp [hml], by rw [List.flatMap_append, List.flatMap_singleton]; exact hu1, hx.next hm (by omega)⟩
       · (first | omega | (dsimp only; omega))
  refine Yr rfl ?_
  refine G_end (post := [_, _, _]) Try.func105 rfl Zp [0, 0, 0] rfl ?_
  dsimp only [packed]
  first
    | exact ⟨insOf u 141 ms, l1, e1, Yh (by rw [hml]; exact hu) (by omega), by show ms.length ≤ _; omega, rdg_Lbad he h0 hx (by omega) _, rfl, by (try simp only [Xd, hml]); first | done | rfl⟩
    | (obtain rfl : i = n := by omega
       exact ⟨insOf u 141 ms, l1, e1, Yh (by rw [hml]; exact hu) (by omega), by show ms.length ≤ _; omega, rdg_L he h0 hx, rfl, by (try simp only [Xd, hml]); first | done | rfl⟩)

set_option maxRecDepth 100000 in
set_option maxHeartbeats 2000000 in
theorem cr_listLt (b br : Nat) (l : List UInt8) (e : Nat) (hl : l.length ≤ 140737488350000) (he : e ≤ 1000) (bx k : Nat) (cs : Array Value) (T : TypeId) (hk : cs[k]? = some (.slice none 0 0)) :
    Ct Try.prog 107 [.pointer (some ⟨b, 0, none⟩), .pointer (some ⟨bx, k, none⟩), .func (.func 108) #[.pointer (some ⟨b, 0, none⟩)] #[]] [(some b, .cells #[.pointer none, .slice none 0 0, .pointer (some ⟨br, 0, none⟩), .bool false] 80 (0, 0))] [(some br, .cells #[.string (bs l), .int .i64 ((e : Nat) : Int)] 169 (0, 0)), (some bx, .cells (cs) T (0, 0))] fun v post => ∃ (s : Ins Lt) (l1 : List UInt8) (e1 : Nat), InsOk 6 cLt s ∧ s.l.length ≤ 1000 ∧ Rdg (encL encLt) (GL GLt) l e s.l l1 e1 ∧ v = .tuple #[] ∧ post = [(some br, .cells #[.string (bs l1), .int .i64 ((e1 : Nat) : Int)] 169 (0, 0)), (some bx, .cells (cs.setIfInBounds k (insV s)) T (0, 0)), insK s] := by
 obtain ⟨n, l0, e0, h0⟩ : ∃ a_ l_ e_, rdInt 1000 l e = (a_, l_, e_) := ⟨_, _, _, rfl⟩
 obtain ⟨hn, hl0, he0⟩ := rd_n he h0
 have hks := at_lt hk
 have hcs : cs.setIfInBounds k (slNil.v 0) = cs := set_self hk
 refine Yu Try.func107 rfl rfl (fun w0 => ?_)
 show G _ _ [(0, _), (1, _), (2, _)] _ _
 refine Zh ?_
 refine Zh ?_
 refine Zd (l := [0, 1, 2, 3, 4]) rfl ?_
 refine Za rfl rfl rfl rfl (Zc rfl rfl) ?_
 refine Za rfl rfl rfl rfl (Ze rfl rfl) ?_
 refine Za rfl rfl rfl rfl (Zb (fo := 2) rfl Try.underlying80 rfl i_74 rfl rfl rfl) ?_
 refine Za rfl rfl rfl rfl (Zj rfl rfl (Zf 0 rfl) rfl Try.underlying74 rfl) ?_
 refine Za rfl rfl rfl rfl (V_peqlN rfl Try.underlying74 rfl rfl) ?_
 refine Zg ?_
 refine Xu rfl ?_
 refine Zu ?_
 refine Zh ?_
 refine Xq (.cells #[] 143 (0, 0)) ?_
 refine Zd (l := [0, 1, 2, 3, 4, 5]) rfl ?_
 refine Za rfl rfl rfl rfl (Zc rfl rfl) ?_
 refine Za rfl rfl rfl rfl (Ze rfl rfl) ?_
 refine Za rfl rfl rfl rfl (Zb (fo := 2) rfl Try.underlying80 rfl i_74 rfl rfl rfl) ?_
 refine Za rfl rfl rfl rfl (Zj rfl rfl (Zf 0 rfl) rfl Try.underlying74 rfl) ?_
 refine Zq (L2 := [_, _]) rfl rfl rfl rfl rfl rfl Try.call84 ((rd_int br l e 1000 (by omega) (by omega) (by omega)).weaken (fun v post h => by rewrite [h0] at h; exact h)) [1] [] rfl rfl ?_
 rintro v post ⟨rfl, rfl⟩
 show G _ _ _ [_, _, _] _
 refine Za rfl rfl rfl rfl (Zc rfl rfl) ?_
 refine Zg ?_
 refine Zs ?_
 refine Yi ?he10 [0, 1, 0] ?hl10 (Xb (X := Nat × Sl × List Lt × List UInt8 × Nat) (fun x_ => match x_ with | ⟨i, u, ms, l1, e1⟩ => i ≤ n ∧ ms.length = i ∧ Own 6 u (ms.flatMap cLt) i ∧ RdgL encLt GLt n l0 e0 i ms l1 e1) (fun x_ => match x_ with | ⟨i, u, ms, l1, e1⟩ => n - i) (fun x_ => match x_ with | ⟨i, u, ms, l1, e1⟩ => [(0, .pointer (some ⟨b, 0, none⟩)), (1, .pointer (some ⟨bx, k, none⟩)), (2, .func (.func 108) #[.pointer (some ⟨b, 0, none⟩)] #[]), (58, .int .i64 (n : Int)), (59, .int .i64 (i : Int))]) (fun x_ => match x_ with | ⟨i, u, ms, l1, e1⟩ => [(some br, .cells #[.string (bs l1), .int .i64 ((e1 : Nat) : Int)] 169 (0, 0)), (some bx, .cells (cs.setIfInBounds k (u.v i)) T (0, 0)), (u.ob, .cells u.cs 143 u.fz)]) ?round10 (0, slNil, [], l0, e0) ?h010)
 case he10 => exact (And.intro rfl (And.intro rfl (And.intro rfl (And.intro rfl (And.intro rfl trivial)))))
 case hl10 => exact ⟨_, by show tk _ _ = some ([_, (some bx, .cells (cs.setIfInBounds k (slNil.v 0)) T (0, 0)), _], _); rw [hcs]; rfl⟩
 case h010 => exact ⟨Nat.zero_le _, rfl, own_nil 6, .zero he0⟩
 case round10 =>
  intro x_ hJ ih
  try dsimp only at hJ ih
  obtain ⟨i, u, ms, l1, e1⟩ := x_
  try dsimp only at hJ ih
  obtain ⟨hi, hml, hu, hx⟩ := hJ
  show G _ _ [(0, .pointer (some ⟨b, 0, none⟩)), (1, .pointer (some ⟨bx, k, none⟩)), (2, .func (.func 108) #[.pointer (some ⟨b, 0, none⟩)] #[]), (58, .int .i64 (n : Int)), (59, .int .i64 (i : Int))] [(some br, .cells #[.string (bs l1), .int .i64 ((e1 : Nat) : Int)] 169 (0, 0)), (some bx, .cells (cs.setIfInBounds k (u.v i)) T (0, 0)), (u.ob, .cells u.cs 143 u.fz)] _
  have hl1 := hx.len
  have he1 := hx.err
  refine Zh ?_
  refine Zd (l := [0]) rfl ?_
  refine Za rfl rfl rfl rfl (Xn rfl rfl rfl) ?_
  refine Zg ?_
  refine Zh ?_
  refine Yk rfl (fun hc1 => ?_) (fun hc1 => ?_)
  ·
   refine Zu ?_
   refine Zh ?_
   refine Zs ?_
   refine Zh ?_
   refine Zh ?_
   refine Zd (l := [0, 1, 2, 3, 4, 5]) rfl ?_
   refine Za rfl rfl rfl rfl (Zc rfl rfl) ?_
   refine Za rfl rfl rfl rfl (Ze rfl rfl) ?_
   refine Za rfl rfl rfl rfl (Zb (fo := 2) rfl Try.underlying80 rfl i_74 rfl rfl rfl) ?_
   refine Za rfl rfl rfl rfl (Zj rfl rfl (Zf 0 rfl) rfl Try.underlying74 rfl) ?_
   refine Zq (L2 := [_, _, _]) rfl rfl rfl rfl rfl rfl Try.call86 (rd_err _ _ _) [] [1] rfl rfl ?_
   rintro v post ⟨rfl, rfl⟩
   show G _ _ _ [_, _, _] _
   refine Za rfl rfl rfl rfl (V_neq rfl rfl rfl) ?_
   refine Zg ?_
   refine Yk rfl (fun hc2 => ?_) (fun hc2 => ?_)
   ·
    refine Yy (post := [_, _, _]) Try.func107 rfl Zp [0, 0, 0] rfl ?_
    dsimp only [packed]
    first
      | exact ⟨insOf u 143 ms, l1, e1, Yh (by rw [hml]; exact hu) (by omega), by show ms.length ≤ _; omega, rdg_Lbad he h0 hx (by omega) _, rfl, by (try simp only [Xd, hml]); first | done | rfl⟩
      | (obtain rfl : i = n := by omega
         exact ⟨insOf u 143 ms, l1, e1, Yh (by rw [hml]; exact hu) (by omega), by show ms.length ≤ _; omega, rdg_L he h0 hx, rfl, by (try simp only [Xd, hml]); first | done | rfl⟩)
   refine Zu ?_
   refine Zh ?_
   refine Zd (l := [0]) rfl ?_
   refine Yw rfl rfl rfl rfl (Ym rfl i_143 rfl) (fun b8 => ?_)
   refine Zg ?_
   refine Zh ?_
   refine Zd (l := [0, 1]) rfl ?_
   refine Za rfl rfl rfl rfl (Zc rfl rfl) ?_
   refine G_callB (L2 := [_, _]) rfl rfl rfl rfl rfl rfl Try.call108 rfl (cr_letter b br l1 e1 (by omega) (by omega) _ (⟨0, 0, 0, 0, [], 0⟩ : Lt) _) [1, 0] [0] rfl rfl ?_
   rintro v post ⟨m, l2, e2, hm, rfl, rfl⟩
   show G _ _ _ [_, _, _, _] _
   refine Zg ?_
   refine Yf (Lq := [_]) (isq := [1]) (m := 9) Yo rfl rfl ?_
   refine Zi 0 rfl rfl rfl rfl (by kernel_rfl) (fun _ _ => Zc rfl rfl) ?_
   refine Zi 1 rfl rfl rfl rfl (by kernel_rfl) (fun _ _ => Zc rfl rfl) ?_
   refine Zi 2 rfl rfl rfl rfl (by kernel_rfl) (fun _ _ => Ze rfl rfl) ?_
   refine Zi 4 rfl rfl rfl rfl (by kernel_rfl) (fun _ _ => V_loadW (s := 6) rfl rfl (Zf 1 rfl) Try.underlying143 rfl i_143 rfl (by rfl)) ?_
   refine GH_all [3, 5] (by kernel_rfl) (by decide) ?_
   refine (And.intro ?_ (And.intro ?_ trivial))
   ·
    refine Xo rfl rfl rfl rfl (Zj rfl rfl (Zf 3 rfl) (Zt (set_at (u.v i) hks)) Try.underlying29 rfl) ?_
    refine GH_all [5] (by kernel_rfl) (by decide) ?_
    refine (And.intro ?_ trivial)
    ·
     refine Yl rfl rfl rfl rfl (Zn (s := 6) (cs := [_, _, _, _, _, _]) rfl Try.underlying29 i_143 rfl rfl rfl rfl rfl rfl rfl rfl rfl) [2] (fun _ => ⟨_, rfl⟩) (fun b74 => ?_)
     refine GH_all [6] (by kernel_rfl) (by decide) ?_
     refine (And.intro ?_ trivial)
     ·
      refine Yq (l1 := [_, _, _, _]) (s := u) (nn := i) (m := 1) (news := (cLt m)) (bt := 56) rfl rfl rfl rfl Try.underlying29 Try.underlying29 (by first | exact .inl rfl | exact .inr ⟨_, rfl⟩) i_143 rfl rfl rfl rfl rfl rfl hu rfl (Yg (Zf 1 rfl) rfl rfl (by simp [cLt, Value.oneCell'])) (by omega) (by omega) [2] (fun _ => ⟨_, rfl⟩) ?_
      intro u1 hu1 _
      show GH _ _ _ _ _ _ _ [_, _, _, _, _] _
      refine Zi 7 rfl rfl rfl rfl (by kernel_rfl) (fun _ _ => Ze rfl rfl) ?_
      refine GH_all [8] (by kernel_rfl) (by decide) ?_
      refine (And.intro ?_ trivial)
      ·
       refine Xk (l1 := [_, _, _]) (L' := [_, _, _, _, _]) rfl rfl rfl rfl (Zm rfl rfl rfl (Zf 3 rfl) (by first | exact of_decide_eq_true rfl | omega | (simp [cOp, cWk, cIv, cHr, cLt, cWt, cIt, cFl, cTn, cCl, cPo, cSt, cDt, cDs, Sl.v]; done) | (simp [cOp, cWk, cIv, cHr, cLt, cWt, cIt, cFl, cTn, cCl, cPo, cSt, cDt, cDs, Sl.v]; omega) | (simp [cOp, cWk, cIv, cHr, cLt, cWt, cIt, cFl, cTn, cCl, cPo, cSt, cDt, cDs, Sl.v] at *; omega)) i_29 rfl rfl) rfl [2] rfl ?_
       refine Ya (by kernel_rfl) ?_
       refine Zv ?_
       refine Zd (l := [0, 1]) rfl ?_
       refine Za rfl rfl rfl rfl ((Xe rfl rfl rfl).int (Zw (by omega))) ?_
       refine Za rfl rfl rfl rfl (Zc rfl rfl) ?_
       refine Zg ?_
       rw [set_set]
       refine Yi ?_ [1, 2, 2] ?_ (ih (i + 1, u1, ms ++ [m], l2, e2) ?_ ?_)
       · (refine (And.intro ?_ (And.intro ?_ (And.intro ?_ (And.intro ?_ (And.intro ?_ trivial))))) <;> first | rfl | exact Zl (by omega) | exact Zl (by simp))
       · exact ⟨_, rfl⟩
       · exact ⟨by omega, by simp [hml], by rw [List.flatMap_append, List.flatMap_singleton]; exact hu1, hx.next hm (by omega)⟩
       · (first | omega | (dsimp only; omega))
   ·
    refine Yl rfl rfl rfl rfl (Zn (s := 6) (cs := [_, _, _, _, _, _]) rfl Try.underlying29 i_143 rfl rfl rfl rfl rfl rfl rfl rfl rfl) [2] (fun _ => ⟨_, rfl⟩) (fun b74 => ?_)
    refine GH_all [3] (by kernel_rfl) (by decide) ?_
    refine (And.intro ?_ trivial)
    ·
     refine Xo rfl rfl rfl rfl (Zj rfl rfl (Zf 4 rfl) (Zt (set_at (u.v i) hks)) Try.underlying29 rfl) ?_
     refine GH_all [6] (by kernel_rfl) (by decide) ?_
     refine (And.intro ?_ trivial)
     ·
      refine Yq (l1 := [_, _, _, _]) (s := u) (nn := i) (m := 1) (news := (cLt m)) (bt := 56) rfl rfl rfl rfl Try.underlying29 Try.underlying29 (by first | exact .inl rfl | exact .inr ⟨_, rfl⟩) i_143 rfl rfl rfl rfl rfl rfl hu rfl (Yg (Zf 1 rfl) rfl rfl (by simp [cLt, Value.oneCell'])) (by omega) (by omega) [2] (fun _ => ⟨_, rfl⟩) ?_
      intro u1 hu1 _
      show GH _ _ _ _ _ _ _ [_, _, _, _, _] _
      refine Zi 7 rfl rfl rfl rfl (by kernel_rfl) (fun _ _ => Ze rfl rfl) ?_
      refine GH_all [8] (by kernel_rfl) (by decide) ?_
      refine (And.intro ?_ trivial)
      ·
       refine Xk (l1 := [_, _, _]) (L' := [_, _, _, _, _]) rfl rfl rfl rfl (Zm rfl rfl rfl (Zf 3 rfl) (by first | exact of_decide_eq_true rfl | omega | (simp [cOp, cWk, cIv, cHr, cLt, cWt, cIt, cFl, cTn, cCl, cPo, cSt, cDt, cDs, Sl.v]; done) | (simp [cOp, cWk, cIv, cHr, cLt, cWt, cIt, cFl, cTn, cCl, cPo, cSt, cDt, cDs, Sl.v]; omega) | (simp [cOp, cWk, cIv, cHr, cLt, cWt, cIt, cFl, cTn, cCl, cPo, cSt, cDt, cDs, Sl.v] at *; omega)) i_29 rfl rfl) rfl [2] rfl ?_
       refine Ya (by kernel_rfl) ?_
       refine Zv ?_
       refine Zd (l := [0, 1]) rfl ?_
       refine Za rfl rfl rfl rfl ((Xe rfl rfl rfl).int (Zw (by omega))) ?_
       refine Za rfl rfl rfl rfl (Zc rfl rfl) ?_
       refine Zg ?_
       rw [set_set]
       refine Yi ?_ [1, 2, 2] ?_ (ih (i + 1, u1, ms ++ [m], l2, e2) ?_ ?_)
       · (refine (And.intro ?_ (And.intro ?_ (And.intro ?_ (And.intro ?_ (And.intro ?_ trivial))))) <;> first | rfl | exact Zl (by omega) | exact Zl (by simp))
       · exact ⟨_, rfl⟩
       · exact ⟨by omega, by simp [hml], by rw [List.flatMap_append, List.flatMap_singleton]; exact hu1, hx.next hm (by omega)⟩
       · (first | omega | (dsimp only; omega))
  refine Yr rfl ?_
  refine G_end (post := [_, _, _]) Try.func107 rfl Zp [0, 0, 0] rfl ?_
  dsimp only [packed]
  first
    | exact ⟨insOf u 143 ms, l1, e1, Yh (by rw [hml]; exact hu) (by omega), by show ms.length ≤ _; omega, rdg_Lbad he h0 hx (by omega) _, rfl, by (try simp only [Xd, hml]); first | done | rfl⟩
    | (obtain rfl : i = n := by omega
       exact ⟨insOf u 143 ms, l1, e1, Yh (by rw [hml]; exact hu) (by omega), by show ms.length ≤ _; omega, rdg_L he h0 hx, rfl, by (try simp only [Xd, hml]); first | done | rfl⟩)

set_option maxRecDepth 100000 in
set_option maxHeartbeats 2000000 in
theorem cr_listWt (b br : Nat) (l : List UInt8) (e : Nat) (hl : l.length ≤ 140737488350000) (he : e ≤ 1000) (bx k : Nat) (cs : Array Value) (T : TypeId) (hk : cs[k]? = some (.slice none 0 0)) :
    Ct Try.prog 109 [.pointer (some ⟨b, 0, none⟩), .pointer (some ⟨bx, k, none⟩), .func (.func 110) #[.pointer (some ⟨b, 0, none⟩)] #[]] [(some b, .cells #[.pointer none, .slice none 0 0, .pointer (some ⟨br, 0, none⟩), .bool false] 80 (0, 0))] [(some br, .cells #[.string (bs l), .int .i64 ((e : Nat) : Int)] 169 (0, 0)), (some bx, .cells (cs) T (0, 0))] fun v post => ∃ (s : Ins Wt) (l1 : List UInt8) (e1 : Nat), InsOk 2 cWt s ∧ s.l.length ≤ 1000 ∧ Rdg (encL encWt) (GL GWt) l e s.l l1 e1 ∧ v = .tuple #[] ∧ post = [(some br, .cells #[.string (bs l1), .int .i64 ((e1 : Nat) : Int)] 169 (0, 0)), (some bx, .cells (cs.setIfInBounds k (insV s)) T (0, 0)), insK s] := by
 obtain ⟨n, l0, e0, h0⟩ : ∃ a_ l_ e_, rdInt 1000 l e = (a_, l_, e_) := ⟨_, _, _, rfl⟩
 obtain ⟨hn, hl0, he0⟩ := rd_n he h0
 have hks := at_lt hk
 have hcs : cs.setIfInBounds k (slNil.v 0) = cs := set_self hk
 refine Yu Try.func109 rfl rfl (fun w0 => ?_)
 show G _ _ [(0, _), (1, _), (2, _)] _ _
 refine Zh ?_
 refine Zh ?_
 refine Zd (l := [0, 1, 2, 3, 4]) rfl ?_
 refine Za rfl rfl rfl rfl (Zc rfl rfl) ?_
 refine Za rfl rfl rfl rfl (Ze rfl rfl) ?_
 refine Za rfl rfl rfl rfl (Zb (fo := 2) rfl Try.underlying80 rfl i_74 rfl rfl rfl) ?_
 refine Za rfl rfl rfl rfl (Zj rfl rfl (Zf 0 rfl) rfl Try.underlying74 rfl) ?_
 refine Za rfl rfl rfl rfl (V_peqlN rfl Try.underlying74 rfl rfl) ?_
 refine Zg ?_
 refine Xu rfl ?_
 refine Zu ?_
 refine Zh ?_
 refine Xq (.cells #[] 145 (0, 0)) ?_
 refine Zd (l := [0, 1, 2, 3, 4, 5]) rfl ?_
 refine Za rfl rfl rfl rfl (Zc rfl rfl) ?_
 refine Za rfl rfl rfl rfl (Ze rfl rfl) ?_
 refine Za rfl rfl rfl rfl (Zb (fo := 2) rfl Try.underlying80 rfl i_74 rfl rfl rfl) ?_
 refine Za rfl rfl rfl rfl (Zj rfl rfl (Zf 0 rfl) rfl Try.underlying74 rfl) ?_
 refine Zq (L2 := [_, _]) rfl rfl rfl rfl rfl rfl Try.call84 ((rd_int br l e 1000 (by omega) (by omega) (by omega)).weaken (fun v post h => by rewrite [h0] at h; exact h)) [1] [] rfl rfl ?_
 rintro v post ⟨rfl, rfl⟩
 show G _ _ _ [_, _, _] _
 refine Za rfl rfl rfl rfl (Zc rfl rfl) ?_
 refine Zg ?_
 refine Zs ?_
 refine Yi ?he10 [0, 1, 0] ?hl10 (Xb (X := Nat × Sl × List Wt × List UInt8 × Nat) (fun x_ => match x_ with | ⟨i, u, ms, l1, e1⟩ => i ≤ n ∧ ms.length = i ∧ Own 2 u (ms.flatMap cWt) i ∧ RdgL encWt GWt n l0 e0 i ms l1 e1) (fun x_ => match x_ with | ⟨i, u, ms, l1, e1⟩ => n - i) (fun x_ => match x_ with | ⟨i, u, ms, l1, e1⟩ => [(0, .pointer (some ⟨b, 0, none⟩)), (1, .pointer (some ⟨bx, k, none⟩)), (2, .func (.func 110) #[.pointer (some ⟨b, 0, none⟩)] #[]), (58, .int .i64 (n : Int)), (59, .int .i64 (i : Int))]) (fun x_ => match x_ with | ⟨i, u, ms, l1, e1⟩ => [(some br, .cells #[.string (bs l1), .int .i64 ((e1 : Nat) : Int)] 169 (0, 0)), (some bx, .cells (cs.setIfInBounds k (u.v i)) T (0, 0)), (u.ob, .cells u.cs 145 u.fz)]) ?round10 (0, slNil, [], l0, e0) ?h010)
 case he10 => exact (And.intro rfl (And.intro rfl (And.intro rfl (And.intro rfl (And.intro rfl trivial)))))
 case hl10 => exact ⟨_, by show tk _ _ = some ([_, (some bx, .cells (cs.setIfInBounds k (slNil.v 0)) T (0, 0)), _], _); rw [hcs]; rfl⟩
 case h010 => exact ⟨Nat.zero_le _, rfl, own_nil 2, .zero he0⟩
 case round10 =>
  intro x_ hJ ih
  try dsimp only at hJ ih
  obtain ⟨i, u, ms, l1, e1⟩ := x_
  try dsimp only at hJ ih
  obtain ⟨hi, hml, hu, hx⟩ := hJ
  show G _ _ [(0, .pointer (some ⟨b, 0, none⟩)), (1, .pointer (some ⟨bx, k, none⟩)), (2, .func (.func 110) #[.pointer (some ⟨b, 0, none⟩)] #[]), (58, .int .i64 (n : Int)), (59, .int .i64 (i : Int))] [(some br, .cells #[.string (bs l1), .int .i64 ((e1 : Nat) : Int)] 169 (0, 0)), (some bx, .cells (cs.setIfInBounds k (u.v i)) T (0, 0)), (u.ob, .cells u.cs 145 u.fz)] _
  have hl1 := hx.len
  have he1 := hx.err
  refine Zh ?_
  refine Zd (l := [0]) rfl ?_
  refine Za rfl rfl rfl rfl (Xn rfl rfl rfl) ?_
  refine Zg ?_
  refine Zh ?_
  refine Yk rfl (fun hc1 => ?_) (fun hc1 => ?_)
  ·
   refine Zu ?_
   refine Zh ?_
   refine Zs ?_
   refine Zh ?_
   refine Zh ?_
   refine Zd (l := [0, 1, 2, 3, 4, 5]) rfl ?_
   refine Za rfl rfl rfl rfl (Zc rfl rfl) ?_
   refine Za rfl rfl rfl rfl (Ze rfl rfl) ?_
   refine Za rfl rfl rfl rfl (Zb (fo := 2) rfl Try.underlying80 rfl i_74 rfl rfl rfl) ?_
   refine Za rfl rfl rfl rfl (Zj rfl rfl (Zf 0 rfl) rfl Try.underlying74 rfl) ?_
   refine Zq (L2 := [_, _, _]) rfl rfl rfl rfl rfl rfl Try.call86 (rd_err _ _ _) [] [1] rfl rfl ?_
   rintro v post ⟨rfl, rfl⟩
   show G _ _ _ [_, _, _] _
   refine Za rfl rfl rfl rfl (V_neq rfl rfl rfl) ?_
   refine Zg ?_
   refine Yk rfl (fun hc2 => ?_) (fun hc2 => ?_)
   ·
    refine Yy (post := [_, _, _]) Try.func109 rfl Zp [0, 0, 0] rfl ?_
    dsimp only [packed]
    first
      | exact ⟨insOf u 145 ms, l1, e1, Yh (by rw [hml]; exact hu) (by omega), by show ms.length ≤ _; omega, rdg_Lbad he h0 hx (by omega) _, rfl, by (try simp only [Xd, hml]); first | done | rfl⟩
      | (obtain rfl : i = n := by omega
         exact ⟨insOf u 145 ms, l1, e1, Yh (by rw [hml]; exact hu) (by omega), by show ms.length ≤ _; omega, rdg_L he h0 hx, rfl, by (try simp only [Xd, hml]); first | done | rfl⟩)
   refine Zu ?_
   refine Zh ?_
   refine Zd (l := [0]) rfl ?_
   refine Yw rfl rfl rfl rfl (Ym rfl i_145 rfl) (fun b8 => ?_)
   refine Zg ?_
   refine Zh ?_
   refine Zd (l := [0, 1]) rfl ?_
   refine Za rfl rfl rfl rfl (Zc rfl rfl) ?_
   refine G_callB (L2 := [_, _]) rfl rfl rfl rfl rfl rfl Try.call110 rfl (cr_watcher b br l1 e1 (by omega) (by omega) _ (⟨[], 0⟩ : Wt) _) [1, 0] [0] rfl rfl ?_
   rintro v post ⟨m, l2, e2, hm, rfl, rfl⟩
   show G _ _ _ [_, _, _, _] _
   refine Zg ?_
   refine Yf (Lq := [_]) (isq := [1]) (m := 9) Yo rfl rfl ?_
   refine Zi 0 rfl rfl rfl rfl (by kernel_rfl) (fun _ _ => Zc rfl rfl) ?_
   refine Zi 1 rfl rfl rfl rfl (by kernel_rfl) (fun _ _ => Zc rfl rfl) ?_
   refine Zi 2 rfl rfl rfl rfl (by kernel_rfl) (fun _ _ => Ze rfl rfl) ?_
   refine Zi 4 rfl rfl rfl rfl (by kernel_rfl) (fun _ _ => V_loadW (s := 2) rfl rfl (Zf 1 rfl) Try.underlying145 rfl i_145 rfl (by rfl)) ?_
   refine GH_all [3, 5] (by kernel_rfl) (by decide) ?_
   refine (And.intro ?_ (And.intro ?_ trivial))
   ·
    refine Xo rfl rfl rfl rfl (Zj rfl rfl (Zf 3 rfl) (Zt (set_at (u.v i) hks)) Try.underlying30 rfl) ?_
    refine GH_all [5] (by kernel_rfl) (by decide) ?_
    refine (And.intro ?_ trivial)
    ·
     refine Yl rfl rfl rfl rfl (Zn (s := 2) (cs := [_, _]) rfl Try.underlying30 i_145 rfl rfl rfl rfl rfl rfl rfl rfl rfl) [2] (fun _ => ⟨_, rfl⟩) (fun b74 => ?_)
     refine GH_all [6] (by kernel_rfl) (by decide) ?_
     refine (And.intro ?_ trivial)
     ·
      refine Yq (l1 := [_, _, _, _]) (s := u) (nn := i) (m := 1) (news := (cWt m)) (bt := 24) rfl rfl rfl rfl Try.underlying30 Try.underlying30 (by first | exact .inl rfl | exact .inr ⟨_, rfl⟩) i_145 rfl rfl rfl rfl rfl rfl hu rfl (Yg (Zf 1 rfl) rfl rfl (by simp [cWt, Value.oneCell'])) (by omega) (by omega) [2] (fun _ => ⟨_, rfl⟩) ?_
      intro u1 hu1 _
      show GH _ _ _ _ _ _ _ [_, _, _, _, _] _
      refine Zi 7 rfl rfl rfl rfl (by kernel_rfl) (fun _ _ => Ze rfl rfl) ?_
      refine GH_all [8] (by kernel_rfl) (by decide) ?_
      refine (And.intro ?_ trivial)
      ·
       refine Xk (l1 := [_, _, _]) (L' := [_, _, _, _, _]) rfl rfl rfl rfl (Zm rfl rfl rfl (Zf 3 rfl) (by first | exact of_decide_eq_true rfl | omega | (simp [cOp, cWk, cIv, cHr, cLt, cWt, cIt, cFl, cTn, cCl, cPo, cSt, cDt, cDs, Sl.v]; done) | (simp [cOp, cWk, cIv, cHr, cLt, cWt, cIt, cFl, cTn, cCl, cPo, cSt, cDt, cDs, Sl.v]; omega) | (simp [cOp, cWk, cIv, cHr, cLt, cWt, cIt, cFl, cTn, cCl, cPo, cSt, cDt, cDs, Sl.v] at *; omega)) i_30 rfl rfl) rfl [2] rfl ?_
       refine Ya (by kernel_rfl) ?_
       refine Zv ?_
       refine Zd (l := [0, 1]) rfl ?_
       refine Za rfl rfl rfl rfl ((Xe rfl rfl rfl).int (Zw (by omega))) ?_
       refine Za rfl rfl rfl rfl (Zc rfl rfl) ?_
       refine Zg ?_
       rw [set_set]
       refine Yi ?_ [1, 2, 2] ?_ (ih (i + 1, u1, ms ++ [m], l2, e2) ?_ ?_)
       · (refine (And.intro ?_ (And.intro ?_ (And.intro ?_ (And.intro ?_ (And.intro ?_ trivial))))) <;> first | rfl | exact Zl (by omega) | exact Zl (by simp))
       · exact ⟨_, rfl⟩
       · exact ⟨by omega, by simp [hml], by rw [List.flatMap_append, List.flatMap_singleton]; exact hu1, hx.next hm (by omega)⟩
       · (first | omega | (dsimp only; omega))
   ·
    refine Yl rfl rfl rfl rfl (Zn (s := 2) (cs := [_, _]) rfl Try.underlying30 i_145 rfl rfl rfl rfl rfl rfl rfl rfl rfl) [2] (fun _ => ⟨_, rfl⟩) (fun b74 => ?_)
    refine GH_all [3] (by kernel_rfl) (by decide) ?_
    refine (And.intro ?_ trivial)
    ·
     refine Xo rfl rfl rfl rfl (Zj rfl rfl (Zf 4 rfl) (Zt (set_at (u.v i) hks)) Try.underlying30 rfl) ?_
     refine GH_all [6] (by kernel_rfl) (by decide) ?_
     refine (And.intro ?_ trivial)
     ·
      refine Yq (l1 := [_, _, _, _]) (s := u) (nn := i) (m := 1) (news := (cWt m)) (bt := 24) rfl rfl rfl rfl Try.underlying30 Try.underlying30 (by first | exact .inl rfl | exact .inr ⟨_, rfl⟩) i_145 rfl rfl rfl rfl rfl rfl hu rfl (Yg (Zf 1 rfl) rfl rfl (by simp [cWt, Value.oneCell'])) (by omega) (by omega) [2] (fun _ => ⟨_, rfl⟩) ?_
      intro u1 hu1 _
      show GH _ _ _ _ _ _ _ [_, _, _, _, _] _
      refine Zi 7 rfl rfl rfl rfl (by kernel_rfl) (fun _ _ => Ze rfl rfl) ?_
      refine GH_all [8] (by kernel_rfl) (by decide) ?_
      refine (And.intro ?_ trivial)
      ·
       refine Xk (l1 := [_, _, _]) (L' := [_, _, _, _, _]) rfl rfl rfl rfl (Zm rfl rfl rfl (Zf 3 rfl) (by first | exact of_decide_eq_true rfl | omega | (simp [cOp, cWk, cIv, cHr, cLt, cWt, cIt, cFl, cTn, cCl, cPo, cSt, cDt, cDs, Sl.v]; done) | (simp [cOp, cWk, cIv, cHr, cLt, cWt, cIt, cFl, cTn, cCl, cPo, cSt, cDt, cDs, Sl.v]; omega) | (simp [cOp, cWk, cIv, cHr, cLt, cWt, cIt, cFl, cTn, cCl, cPo, cSt, cDt, cDs, Sl.v] at *; omega)) i_30 rfl rfl) rfl [2] rfl ?_
       refine Ya (by kernel_rfl) ?_
       refine Zv ?_
       refine Zd (l := [0, 1]) rfl ?_
       refine Za rfl rfl rfl rfl ((Xe rfl rfl rfl).int (Zw (by omega))) ?_
       refine Za rfl rfl rfl rfl (Zc rfl rfl) ?_
       refine Zg ?_
       rw [set_set]
       refine Yi ?_ [1, 2, 2] ?_ (ih (i + 1, u1, ms ++ [m], l2, e2) ?_ ?_)
       · (refine (And.intro ?_ (And.intro ?_ (And.intro ?_ (And.intro ?_ (And.intro ?_ trivial))))) <;> first | rfl | exact Zl (by omega) | exact Zl (by simp))
       · exact ⟨_, rfl⟩
       · exact ⟨by omega, by simp [hml], by rw [List.flatMap_append, List.flatMap_singleton]; exact hu1, hx.next hm (by omega)⟩
       · (first | omega | (dsimp only; omega))
  refine Yr rfl ?_
  refine G_end (post := [_, _, _]) Try.func109 rfl Zp [0, 0, 0] rfl ?_
  dsimp only [packed]
  first
    | exact ⟨insOf u 145 ms, l1, e1, Yh (by rw [hml]; exact hu) (by omega), by show ms.length ≤ _; omega, rdg_Lbad he h0 hx (by omega) _, rfl, by (try simp only [Xd, hml]); first | done | rfl⟩
    | (obtain rfl : i = n := by omega
       exact ⟨insOf u 145 ms, l1, e1, Yh (by rw [hml]; exact hu) (by omega), by show ms.length ≤ _; omega, rdg_L he h0 hx, rfl, by (try simp only [Xd, hml]); first | done | rfl⟩)

end
end Go.Proofs.Ytjnaeoelnmhjfaa

set_option linter.unusedSimpArgs false
set_option linter.unusedVariables false
namespace Go.Proofs.Ytjnaeoelnmhjfaa
open Go Go.RowKit

section
theorem cFl_sz (x : Fl) : (cFl x).toArray.size = 4 := rfl
set_option maxRecDepth 100000 in
set_option maxHeartbeats 1000000 in
theorem cr_flow (b br : Nat) (l : List UInt8) (e : Nat) (hl : l.length ≤ 140737488350000) (he : e ≤ 1000) (bx : Nat) (T : TypeId) :
    Ct Try.prog 174 [.pointer (some ⟨b, 0, none⟩), .pointer (some ⟨bx, 0, none⟩)] [(some b, .cells #[.pointer none, .slice none 0 0, .pointer (some ⟨br, 0, none⟩), .bool false] 80 (0, 0))] [(some br, .cells #[.string (bs l), .int .i64 ((e : Nat) : Int)] 169 (0, 0)), (some bx, .cells ((cFl (⟨0, 0, 0, zIns It⟩ : Fl)).toArray) T (0, 0))] fun v post => ∃ (m : Fl) (l1 : List UInt8) (e1 : Nat) (M : List HBk), OkFl m ∧ (∀ z ∈ kFl m, z ∈ M) ∧ Rdg encPF GPF l e (vFl m) l1 e1 ∧ v = .tuple #[] ∧ post = (some br, .cells #[.string (bs l1), .int .i64 ((e1 : Nat) : Int)] 169 (0, 0)) :: (some bx, .cells ((cFl m).toArray) T (0, 0)) :: M := by
 refine Yu Try.func174 rfl rfl (fun w0 => ?_)
 show G _ _ [(0, _), (1, _)] _ _
 refine Zh ?_
 refine Yf (Lq := []) (isq := []) (m := 12) Yo rfl rfl ?_
 refine Zi 0 rfl rfl rfl rfl (by kernel_rfl) (fun _ _ => Zc rfl rfl) ?_
 refine Zi 1 rfl rfl rfl rfl (by kernel_rfl) (fun _ _ => Zc rfl rfl) ?_
 refine Zi 2 rfl rfl rfl rfl (by kernel_rfl) (fun _ _ => Ze rfl rfl) ?_
 refine Zi 3 rfl rfl rfl rfl (by kernel_rfl) (fun _ _ => Zb (fo := 0) rfl Try.underlying258 rfl i_3 rfl rfl rfl) ?_
 refine Zi 4 rfl rfl rfl rfl (by kernel_rfl) (fun _ _ => Zc rfl rfl) ?_
 refine Zi 5 rfl rfl rfl rfl (by kernel_rfl) (fun _ _ => Ze rfl rfl) ?_
 refine Zi 6 rfl rfl rfl rfl (by kernel_rfl) (fun _ _ => Zb (fo := 1) rfl Try.underlying258 rfl i_3 rfl rfl rfl) ?_
 refine Zi 7 rfl rfl rfl rfl (by kernel_rfl) (fun _ _ => Zc rfl rfl) ?_
 refine Zi 8 rfl rfl rfl rfl (by kernel_rfl) (fun _ _ => Ze rfl rfl) ?_
 refine Zi 9 rfl rfl rfl rfl (by kernel_rfl) (fun _ _ => Zb (fo := 2) rfl Try.underlying258 rfl i_3 rfl rfl rfl) ?_
 refine GH_all [10] (by kernel_rfl) (by decide) ?_
 refine (And.intro ?_ trivial)
 ·
  refine Yl rfl rfl rfl rfl (Zn (s := 1) (cs := [_, _, _]) rfl Try.underlying241 i_176 rfl rfl rfl rfl rfl rfl rfl rfl rfl) [] (fun _ => ⟨_, rfl⟩) (fun b14 => ?_)
  refine GH_all [11] (by kernel_rfl) (by decide) ?_
  refine (And.intro ?_ trivial)
  ·
   refine Ye (L2 := [_]) rfl rfl rfl rfl rfl rfl Try.call96 (cr_intsL b br l e (by omega) (by omega) _ _ bx (cFl (⟨0, 0, 0, zIns It⟩ : Fl)).toArray T [0, 1, 2] (by simp) (by intro y hy; simp only [cFl_sz]; simp only [List.mem_cons, List.not_mem_nil, or_false] at hy; omega)) [1, 1] [1, 0] rfl rfl [] (by rintro v post ⟨xs0, l1, e1, hxs, r0, rfl, rfl⟩; exact ⟨_, rfl⟩) ?_
   rintro v post ⟨xs0, l1, e1, hxs, r0, rfl, rfl⟩
   show GH _ _ _ _ _ _ _ [_, _, _] _
   obtain ⟨a0, a1, a2, rfl⟩ := len_3 hxs
   rw [show putAll (fun z : Int => Value.int .i64 z) (cFl (⟨0, 0, 0, zIns It⟩ : Fl)).toArray [0, 1, 2] [a0, a1, a2] = (cFl (⟨a0, a1, a2, zIns It⟩ : Fl)).toArray by unfold cFl; simp only [putAll_cons, putAll_nil, List.set_cons_succ, List.set_cons_zero]]
   have hl1_ := r0.len
   have he1_ := r0.err
   refine Ya (by kernel_rfl) ?_
   refine Zd (l := [0, 1, 2, 3, 4, 5, 6]) rfl ?_
   refine Za rfl rfl rfl rfl (Zc rfl rfl) ?_
   refine Za rfl rfl rfl rfl (Zc rfl rfl) ?_
   refine Za rfl rfl rfl rfl (Ze rfl rfl) ?_
   refine Za rfl rfl rfl rfl (Zb (fo := 3) rfl Try.underlying258 rfl i_215 rfl rfl rfl) ?_
   refine Za rfl rfl rfl rfl (Zc rfl rfl) ?_
   refine Za rfl rfl rfl rfl (V_func rfl rfl rfl) ?_
   refine Zq (L2 := [_]) rfl rfl rfl rfl rfl rfl Try.call178 (cr_listIt b br l1 e1 (by omega) (by omega) bx 3 (cFl (⟨a0, a1, a2, zIns It⟩ : Fl)).toArray T rfl) [0, 0] [0] rfl rfl ?_
   rintro v post ⟨s, l2, e2, hso, hsl, r1, rfl, rfl⟩
   show G _ _ _ [_, _, _, _] _
   rw [show ((cFl (⟨a0, a1, a2, zIns It⟩ : Fl)).toArray).setIfInBounds 3 (insV s) = (cFl (⟨a0, a1, a2, s⟩ : Fl)).toArray from rfl]
   refine Zg ?_
   refine G_end (post := [_, _, _]) Try.func174 rfl Zp [0, 0, 0] rfl ?_
   dsimp only [packed]
   exact ⟨(⟨a0, a1, a2, s⟩ : Fl), l2, e2, _, ⟨hso, fun _ _ => trivial⟩, fun z hz => hz, rdgPF r0 r1, rfl, rfl⟩

set_option maxRecDepth 100000 in
set_option maxHeartbeats 2000000 in
theorem cr_listFl (b br : Nat) (l : List UInt8) (e : Nat) (hl : l.length ≤ 140737488350000) (he : e ≤ 1000) (bx k : Nat) (cs : Array Value) (T : TypeId) (hk : cs[k]? = some (.slice none 0 0)) :
    Ct Try.prog 173 [.pointer (some ⟨b, 0, none⟩), .pointer (some ⟨bx, k, none⟩), .func (.func 174) #[.pointer (some ⟨b, 0, none⟩)] #[]] [(some b, .cells #[.pointer none, .slice none 0 0, .pointer (some ⟨br, 0, none⟩), .bool false] 80 (0, 0))] [(some br, .cells #[.string (bs l), .int .i64 ((e : Nat) : Int)] 169 (0, 0)), (some bx, .cells (cs) T (0, 0))] fun v post => ∃ (s : Ins Fl) (l1 : List UInt8) (e1 : Nat) (M : List HBk), InsOk 4 cFl s ∧ s.l.length ≤ 1000 ∧ Rdg (encL encPF) (GL GPF) l e (s.l.map vFl) l1 e1 ∧ (∀ m ∈ s.l, OkFl m) ∧ (∀ z ∈ insK s :: s.l.flatMap kFl, z ∈ M) ∧ v = .tuple #[] ∧ post = (some br, .cells #[.string (bs l1), .int .i64 ((e1 : Nat) : Int)] 169 (0, 0)) :: (some bx, .cells (cs.setIfInBounds k (insV s)) T (0, 0)) :: M := by
 obtain ⟨n, l0, e0, h0⟩ : ∃ a_ l_ e_, rdInt 1000 l e = (a_, l_, e_) := ⟨_, _, _, rfl⟩
 obtain ⟨hn, hl0, he0⟩ := rd_n he h0
 have hks := at_lt hk
 have hcs : cs.setIfInBounds k (slNil.v 0) = cs := set_self hk
 refine Yu Try.func173 rfl rfl (fun w0 => ?_)
 show G _ _ [(0, _), (1, _), (2, _)] _ _
 refine Zh ?_
 refine Zh ?_
 refine Zd (l := [0, 1, 2, 3, 4]) rfl ?_
 refine Za rfl rfl rfl rfl (Zc rfl rfl) ?_
 refine Za rfl rfl rfl rfl (Ze rfl rfl) ?_
 refine Za rfl rfl rfl rfl (Zb (fo := 2) rfl Try.underlying80 rfl i_74 rfl rfl rfl) ?_
 refine Za rfl rfl rfl rfl (Zj rfl rfl (Zf 0 rfl) rfl Try.underlying74 rfl) ?_
 refine Za rfl rfl rfl rfl (V_peqlN rfl Try.underlying74 rfl rfl) ?_
 refine Zg ?_
 refine Xu rfl ?_
 refine Zu ?_
 refine Zh ?_
 refine Xq (.cells #[] 258 (0, 0)) ?_
 refine Zd (l := [0, 1, 2, 3, 4, 5]) rfl ?_
 refine Za rfl rfl rfl rfl (Zc rfl rfl) ?_
 refine Za rfl rfl rfl rfl (Ze rfl rfl) ?_
 refine Za rfl rfl rfl rfl (Zb (fo := 2) rfl Try.underlying80 rfl i_74 rfl rfl rfl) ?_
 refine Za rfl rfl rfl rfl (Zj rfl rfl (Zf 0 rfl) rfl Try.underlying74 rfl) ?_
 refine Zq (L2 := [_, _]) rfl rfl rfl rfl rfl rfl Try.call84 ((rd_int br l e 1000 (by omega) (by omega) (by omega)).weaken (fun v post h => by rewrite [h0] at h; exact h)) [1] [] rfl rfl ?_
 rintro v post ⟨rfl, rfl⟩
 show G _ _ _ [_, _, _] _
 refine Za rfl rfl rfl rfl (Zc rfl rfl) ?_
 refine Zg ?_
 refine Zs ?_
 refine Xj (L1 := [_, _, _]) ?he10 [0, 1, 0] ?hl10 (Xb (X := Nat × Sl × List Fl × List UInt8 × Nat × List HBk) (fun x_ => match x_ with | ⟨i, u, ms, l1, e1, M⟩ => i ≤ n ∧ ms.length = i ∧ Own 4 u (ms.flatMap cFl) i ∧ RdgL encPF GPF n l0 e0 i (ms.map vFl) l1 e1 ∧ (∀ m ∈ ms, OkFl m) ∧ ∀ z ∈ ms.flatMap kFl, z ∈ M) (fun x_ => match x_ with | ⟨i, u, ms, l1, e1, M⟩ => n - i) (fun x_ => match x_ with | ⟨i, u, ms, l1, e1, M⟩ => [(0, .pointer (some ⟨b, 0, none⟩)), (1, .pointer (some ⟨bx, k, none⟩)), (2, .func (.func 174) #[.pointer (some ⟨b, 0, none⟩)] #[]), (58, .int .i64 (n : Int)), (59, .int .i64 (i : Int))]) (fun x_ => match x_ with | ⟨i, u, ms, l1, e1, M⟩ => ((some br, .cells #[.string (bs l1), .int .i64 ((e1 : Nat) : Int)] 169 (0, 0)) :: (some bx, .cells (cs.setIfInBounds k (u.v i)) T (0, 0)) :: (u.ob, .cells u.cs 258 u.fz) :: M)) ?round10 (0, slNil, [], l0, e0, []) ?h010)
 case he10 => exact (And.intro rfl (And.intro rfl (And.intro rfl (And.intro rfl (And.intro rfl trivial)))))
 case hl10 => exact ⟨_, _, by show tk _ _ = some ([_, (some bx, .cells (cs.setIfInBounds k (slNil.v 0)) T (0, 0)), _], _); rw [hcs]; rfl, .refl _⟩
 case h010 => exact ⟨Nat.zero_le _, rfl, own_nil 4, .zero he0, by simp, by simp⟩
 case round10 =>
  intro x_ hJ ih
  try dsimp only at hJ ih
  obtain ⟨i, u, ms, l1, e1, M⟩ := x_
  try dsimp only at hJ ih
  obtain ⟨hi, hml, hu, hx, hoks, hM⟩ := hJ
  show G _ _ [(0, .pointer (some ⟨b, 0, none⟩)), (1, .pointer (some ⟨bx, k, none⟩)), (2, .func (.func 174) #[.pointer (some ⟨b, 0, none⟩)] #[]), (58, .int .i64 (n : Int)), (59, .int .i64 (i : Int))] ((some br, .cells #[.string (bs l1), .int .i64 ((e1 : Nat) : Int)] 169 (0, 0)) :: (some bx, .cells (cs.setIfInBounds k (u.v i)) T (0, 0)) :: (u.ob, .cells u.cs 258 u.fz) :: M) _
  have hl1 := hx.len
  have he1 := hx.err
  refine Zh ?_
  refine Zd (l := [0]) rfl ?_
  refine Za rfl rfl rfl rfl (Xn rfl rfl rfl) ?_
  refine Zg ?_
  refine Zh ?_
  refine Yk rfl (fun hc1 => ?_) (fun hc1 => ?_)
  ·
   refine Zu ?_
   refine Zh ?_
   refine Zs ?_
   refine Zh ?_
   refine Zh ?_
   refine Zd (l := [0, 1, 2, 3, 4, 5]) rfl ?_
   refine Za rfl rfl rfl rfl (Zc rfl rfl) ?_
   refine Za rfl rfl rfl rfl (Ze rfl rfl) ?_
   refine Za rfl rfl rfl rfl (Zb (fo := 2) rfl Try.underlying80 rfl i_74 rfl rfl rfl) ?_
   refine Za rfl rfl rfl rfl (Zj rfl rfl (Zf 0 rfl) rfl Try.underlying74 rfl) ?_
   refine Zq (L2 := (_ :: _ :: _ :: _)) rfl rfl rfl rfl rfl rfl Try.call86 (rd_err _ _ _) [] [1] rfl rfl ?_
   rintro v post ⟨rfl, rfl⟩
   show G _ _ _ (_ :: _ :: _ :: _) _
   refine Za rfl rfl rfl rfl (V_neq rfl rfl rfl) ?_
   refine Zg ?_
   refine Yk rfl (fun hc2 => ?_) (fun hc2 => ?_)
   ·
    refine G_retT (p1 := [_, _, _]) (T := _) Try.func173 rfl Zp [0, 0, 0] ⟨_, _, rfl, List.perm_append_comm (l₁ := [])⟩ ?_
    dsimp only [packed]
    first
      | exact ⟨insOf u 258 ms, l1, e1, _, Yh (by rw [hml]; exact hu) (by omega), by show ms.length ≤ _; omega, rdg_Lbad he h0 hx (by omega) _, hoks, sub_hd hM, rfl, by (try simp only [Xd, hml]); first | done | rfl⟩
      | (obtain rfl : i = n := by omega
         exact ⟨insOf u 258 ms, l1, e1, _, Yh (by rw [hml]; exact hu) (by omega), by show ms.length ≤ _; omega, rdg_L he h0 hx, hoks, sub_hd hM, rfl, by (try simp only [Xd, hml]); first | done | rfl⟩)
   refine Zu ?_
   refine Zh ?_
   refine Zd (l := [0]) rfl ?_
   refine Yw rfl rfl rfl rfl (Ym rfl i_258 rfl) (fun b8 => ?_)
   refine Zg ?_
   refine Zh ?_
   refine Zd (l := [0, 1]) rfl ?_
   refine Za rfl rfl rfl rfl (Zc rfl rfl) ?_
   refine G_callB (L2 := (_ :: _ :: _)) rfl rfl rfl rfl rfl rfl Try.call174 rfl (cr_flow b br l1 e1 (by omega) (by omega) _ _) [1, 0] [0] rfl rfl ?_
   rintro v post ⟨m, l2, e2, M0, hmo, hM0, hm, rfl, rfl⟩
   refine G_perm (perm_in [_, _] [_, _] _ _) ?_
   show G _ _ _ (_ :: _ :: _ :: _ :: _) _
   refine Zg ?_
   refine Yf (Lq := [_]) (isq := [1]) (m := 9) Yo rfl rfl ?_
   refine Zi 0 rfl rfl rfl rfl (by kernel_rfl) (fun _ _ => Zc rfl rfl) ?_
   refine Zi 1 rfl rfl rfl rfl (by kernel_rfl) (fun _ _ => Zc rfl rfl) ?_
   refine Zi 2 rfl rfl rfl rfl (by kernel_rfl) (fun _ _ => Ze rfl rfl) ?_
   refine Zi 4 rfl rfl rfl rfl (by kernel_rfl) (fun _ _ => V_loadW (s := 4) rfl rfl (Zf 1 rfl) Try.underlying258 rfl i_258 rfl (by rfl)) ?_
   refine GH_all [3, 5] (by kernel_rfl) (by decide) ?_
   refine (And.intro ?_ (And.intro ?_ trivial))
   ·
    refine Xo rfl rfl rfl rfl (Zj rfl rfl (Zf 3 rfl) (Zt (set_at (u.v i) hks)) Try.underlying204 rfl) ?_
    refine GH_all [5] (by kernel_rfl) (by decide) ?_
    refine (And.intro ?_ trivial)
    ·
     refine Yl rfl rfl rfl rfl (Zn (s := 4) (cs := [_, _, _, _]) rfl Try.underlying204 i_258 rfl rfl rfl rfl rfl rfl rfl rfl rfl) [2] (fun _ => ⟨_, rfl⟩) (fun b74 => ?_)
     refine GH_all [6] (by kernel_rfl) (by decide) ?_
     refine (And.intro ?_ trivial)
     ·
      refine Yq (l1 := [_, _, _, _]) (s := u) (nn := i) (m := 1) (news := (cFl m)) (bt := 48) rfl rfl rfl rfl Try.underlying204 Try.underlying204 (by first | exact .inl rfl | exact .inr ⟨_, rfl⟩) i_258 rfl rfl rfl rfl rfl rfl hu rfl (Yg (Zf 1 rfl) rfl rfl (by simp [cFl, Value.oneCell'])) (by omega) (by omega) [2] (fun _ => ⟨_, rfl⟩) ?_
      intro u1 hu1 _
      show GH _ _ _ _ _ _ _ (_ :: _ :: _ :: _ :: _ :: _) _
      refine Zi 7 rfl rfl rfl rfl (by kernel_rfl) (fun _ _ => Ze rfl rfl) ?_
      refine GH_all [8] (by kernel_rfl) (by decide) ?_
      refine (And.intro ?_ trivial)
      ·
       refine Xk (l1 := [_, _, _]) (L' := (_ :: _ :: _ :: _ :: _ :: _)) rfl rfl rfl rfl (Zm rfl rfl rfl (Zf 3 rfl) (by first | exact of_decide_eq_true rfl | omega | (simp [cOp, cWk, cIv, cHr, cLt, cWt, cIt, cFl, cTn, cCl, cPo, cSt, cDt, cDs, Sl.v, zIns]; done) | (simp [cOp, cWk, cIv, cHr, cLt, cWt, cIt, cFl, cTn, cCl, cPo, cSt, cDt, cDs, Sl.v, zIns]; omega) | (simp [cOp, cWk, cIv, cHr, cLt, cWt, cIt, cFl, cTn, cCl, cPo, cSt, cDt, cDs, Sl.v, zIns] at *; omega)) i_204 rfl rfl) rfl [2] rfl ?_
       refine Ya (by kernel_rfl) ?_
       refine Zv ?_
       refine Zd (l := [0, 1]) rfl ?_
       refine Za rfl rfl rfl rfl ((Xe rfl rfl rfl).int (Zw (by omega))) ?_
       refine Za rfl rfl rfl rfl (Zc rfl rfl) ?_
       refine Zg ?_
       rw [set_set]
       refine Xj (L1 := [_, _, _]) ?_ [1, 2, 2] ?bhl10 (ih (i + 1, u1, ms ++ [m], l2, e2, ?M1) ?_ ?_)
       case bhl10 => (dsimp only; refine ⟨(_ :: _ :: _), [], rfl, ?_⟩; exact perm_all _)
       · (refine (And.intro ?_ (And.intro ?_ (And.intro ?_ (And.intro ?_ (And.intro ?_ trivial))))) <;> first | rfl | exact Zl (by omega) | exact Zl (by simp))
       · exact ⟨by omega, by simp [hml], by rw [List.flatMap_append, List.flatMap_singleton]; exact hu1, by rw [List.map_append]; exact hx.next hm (by omega), oks_nx hoks hmo, sub_next hM hM0 (fun z hz => by simp [hz]) (fun z hz => by simp [hz])⟩
       · (first | omega | (dsimp only; omega))
   ·
    refine Yl rfl rfl rfl rfl (Zn (s := 4) (cs := [_, _, _, _]) rfl Try.underlying204 i_258 rfl rfl rfl rfl rfl rfl rfl rfl rfl) [2] (fun _ => ⟨_, rfl⟩) (fun b74 => ?_)
    refine GH_all [3] (by kernel_rfl) (by decide) ?_
    refine (And.intro ?_ trivial)
    ·
     refine Xo rfl rfl rfl rfl (Zj rfl rfl (Zf 4 rfl) (Zt (set_at (u.v i) hks)) Try.underlying204 rfl) ?_
     refine GH_all [6] (by kernel_rfl) (by decide) ?_
     refine (And.intro ?_ trivial)
     ·
      refine Yq (l1 := [_, _, _, _]) (s := u) (nn := i) (m := 1) (news := (cFl m)) (bt := 48) rfl rfl rfl rfl Try.underlying204 Try.underlying204 (by first | exact .inl rfl | exact .inr ⟨_, rfl⟩) i_258 rfl rfl rfl rfl rfl rfl hu rfl (Yg (Zf 1 rfl) rfl rfl (by simp [cFl, Value.oneCell'])) (by omega) (by omega) [2] (fun _ => ⟨_, rfl⟩) ?_
      intro u1 hu1 _
      show GH _ _ _ _ _ _ _ (_ :: _ :: _ :: _ :: _ :: _) _
      refine Zi 7 rfl rfl rfl rfl (by kernel_rfl) (fun _ _ => Ze rfl rfl) ?_
      refine GH_all [8] (by kernel_rfl) (by decide) ?_
      refine (And.intro ?_ trivial)
      ·
       refine Xk (l1 := [_, _, _]) (L' := (_ :: _ :: _ :: _ :: _ :: _)) rfl rfl rfl rfl (Zm rfl rfl rfl (Zf 3 rfl) (by first | exact of_decide_eq_true rfl | omega | (simp [cOp, cWk, cIv, cHr, cLt, cWt, cIt, cFl, cTn, cCl, cPo, cSt, cDt, cDs, Sl.v, zIns]; done) | (simp [cOp, cWk, cIv, cHr, cLt, cWt, cIt, cFl, cTn, cCl, cPo, cSt, cDt, cDs, Sl.v, zIns]; omega) | (simp [cOp, cWk, cIv, cHr, cLt, cWt, cIt, cFl, cTn, cCl, cPo, cSt, cDt, cDs, Sl.v, zIns] at *; omega)) i_204 rfl rfl) rfl [2] rfl ?_
       refine Ya (by kernel_rfl) ?_
       refine Zv ?_
       refine Zd (l := [0, 1]) rfl ?_
       refine Za rfl rfl rfl rfl ((Xe rfl rfl rfl).int (Zw (by omega))) ?_
       refine Za rfl rfl rfl rfl (Zc rfl rfl) ?_
       refine Zg ?_
       rw [set_set]
       refine Xj (L1 := [_, _, _]) ?_ [1, 2, 2] ?bhl10 (ih (i + 1, u1, ms ++ [m], l2, e2, ?M2) ?_ ?_)
       case bhl10 => (dsimp only; refine ⟨(_ :: _ :: _), [], rfl, ?_⟩; exact perm_all _)
       · (refine (And.intro ?_ (And.intro ?_ (And.intro ?_ (And.intro ?_ (And.intro ?_ trivial))))) <;> first | rfl | exact Zl (by omega) | exact Zl (by simp))
       · exact ⟨by omega, by simp [hml], by rw [List.flatMap_append, List.flatMap_singleton]; exact hu1, by rw [List.map_append]; exact hx.next hm (by omega), oks_nx hoks hmo, sub_next hM hM0 (fun z hz => by simp [hz]) (fun z hz => by simp [hz])⟩
       · (first | omega | (dsimp only; omega))
  refine Yr rfl ?_
  refine G_endT (p1 := [_, _, _]) (T := _) Try.func173 rfl Zp [0, 0, 0] ⟨_, _, rfl, List.perm_append_comm (l₁ := [])⟩ ?_
  dsimp only [packed]
  first
    | exact ⟨insOf u 258 ms, l1, e1, _, Yh (by rw [hml]; exact hu) (by omega), by show ms.length ≤ _; omega, rdg_Lbad he h0 hx (by omega) _, hoks, sub_hd hM, rfl, by (try simp only [Xd, hml]); first | done | rfl⟩
    | (obtain rfl : i = n := by omega
       exact ⟨insOf u 258 ms, l1, e1, _, Yh (by rw [hml]; exact hu) (by omega), by show ms.length ≤ _; omega, rdg_L he h0 hx, hoks, sub_hd hM, rfl, by (try simp only [Xd, hml]); first | done | rfl⟩)

theorem cTn_sz (x : Tn) : (cTn x).toArray.size = 5 := rfl
set_option maxRecDepth 100000 in
set_option maxHeartbeats 1000000 in
theorem cr_tenant (b br : Nat) (l : List UInt8) (e : Nat) (hl : l.length ≤ 140737488350000) (he : e ≤ 1000) (bx : Nat) (T : TypeId) :
    Ct Try.prog 163 [.pointer (some ⟨b, 0, none⟩), .pointer (some ⟨bx, 0, none⟩)] [(some b, .cells #[.pointer none, .slice none 0 0, .pointer (some ⟨br, 0, none⟩), .bool false] 80 (0, 0))] [(some br, .cells #[.string (bs l), .int .i64 ((e : Nat) : Int)] 169 (0, 0)), (some bx, .cells ((cTn (⟨0, 0, 0, false, zIns Fl⟩ : Tn)).toArray) T (0, 0))] fun v post => ∃ (m : Tn) (l1 : List UInt8) (e1 : Nat) (M : List HBk), OkTn m ∧ (∀ z ∈ kTn m, z ∈ M) ∧ Rdg encPT GPT l e (vTn m) l1 e1 ∧ v = .tuple #[] ∧ post = (some br, .cells #[.string (bs l1), .int .i64 ((e1 : Nat) : Int)] 169 (0, 0)) :: (some bx, .cells ((cTn m).toArray) T (0, 0)) :: M := by
 refine Yu Try.func163 rfl rfl (fun w0 => ?_)
 show G _ _ [(0, _), (1, _)] _ _
 refine Zh ?_
 refine Yf (Lq := []) (isq := []) (m := 12) Yo rfl rfl ?_
 refine Zi 0 rfl rfl rfl rfl (by kernel_rfl) (fun _ _ => Zc rfl rfl) ?_
 refine Zi 1 rfl rfl rfl rfl (by kernel_rfl) (fun _ _ => Zc rfl rfl) ?_
 refine Zi 2 rfl rfl rfl rfl (by kernel_rfl) (fun _ _ => Ze rfl rfl) ?_
 refine Zi 3 rfl rfl rfl rfl (by kernel_rfl) (fun _ _ => Zb (fo := 0) rfl Try.underlying206 rfl i_3 rfl rfl rfl) ?_
 refine Zi 4 rfl rfl rfl rfl (by kernel_rfl) (fun _ _ => Zc rfl rfl) ?_
 refine Zi 5 rfl rfl rfl rfl (by kernel_rfl) (fun _ _ => Ze rfl rfl) ?_
 refine Zi 6 rfl rfl rfl rfl (by kernel_rfl) (fun _ _ => Zb (fo := 1) rfl Try.underlying206 rfl i_3 rfl rfl rfl) ?_
 refine Zi 7 rfl rfl rfl rfl (by kernel_rfl) (fun _ _ => Zc rfl rfl) ?_
 refine Zi 8 rfl rfl rfl rfl (by kernel_rfl) (fun _ _ => Ze rfl rfl) ?_
 refine Zi 9 rfl rfl rfl rfl (by kernel_rfl) (fun _ _ => Zb (fo := 2) rfl Try.underlying206 rfl i_3 rfl rfl rfl) ?_
 refine GH_all [10] (by kernel_rfl) (by decide) ?_
 refine (And.intro ?_ trivial)
 ·
  refine Yl rfl rfl rfl rfl (Zn (s := 1) (cs := [_, _, _]) rfl Try.underlying241 i_176 rfl rfl rfl rfl rfl rfl rfl rfl rfl) [] (fun _ => ⟨_, rfl⟩) (fun b14 => ?_)
  refine GH_all [11] (by kernel_rfl) (by decide) ?_
  refine (And.intro ?_ trivial)
  ·
   refine Ye (L2 := [_]) rfl rfl rfl rfl rfl rfl Try.call96 (cr_intsL b br l e (by omega) (by omega) _ _ bx (cTn (⟨0, 0, 0, false, zIns Fl⟩ : Tn)).toArray T [0, 1, 2] (by simp) (by intro y hy; simp only [cTn_sz]; simp only [List.mem_cons, List.not_mem_nil, or_false] at hy; omega)) [1, 1] [1, 0] rfl rfl [] (by rintro v post ⟨xs0, l1, e1, hxs, r0, rfl, rfl⟩; exact ⟨_, rfl⟩) ?_
   rintro v post ⟨xs0, l1, e1, hxs, r0, rfl, rfl⟩
   show GH _ _ _ _ _ _ _ [_, _, _] _
   obtain ⟨a0, a1, a2, rfl⟩ := len_3 hxs
   rw [show putAll (fun z : Int => Value.int .i64 z) (cTn (⟨0, 0, 0, false, zIns Fl⟩ : Tn)).toArray [0, 1, 2] [a0, a1, a2] = (cTn (⟨a0, a1, a2, false, zIns Fl⟩ : Tn)).toArray by unfold cTn; simp only [putAll_cons, putAll_nil, List.set_cons_succ, List.set_cons_zero]]
   have hl1_ := r0.len
   have he1_ := r0.err
   refine Ya (by kernel_rfl) ?_
   refine Zh ?_
   refine Zd (l := [0, 1, 2, 3, 4]) rfl ?_
   refine Za rfl rfl rfl rfl (Zc rfl rfl) ?_
   refine Za rfl rfl rfl rfl (Zc rfl rfl) ?_
   refine Za rfl rfl rfl rfl (Ze rfl rfl) ?_
   refine Za rfl rfl rfl rfl (Zb (fo := 4) rfl Try.underlying206 rfl i_4 rfl rfl rfl) ?_
   refine Zq (L2 := [_]) rfl rfl rfl rfl rfl rfl Try.call95 (cr_flag b br l1 e1 (by omega) (by omega) bx 4 (cTn (⟨a0, a1, a2, false, zIns Fl⟩ : Tn)).toArray T (by rw [cTn_sz]; omega)) [0, 0] [0] rfl rfl ?_
   rintro v post ⟨g, l2, e2, r1, rfl, rfl⟩
   show G _ _ _ [_, _, _] _
   rw [show ((cTn (⟨a0, a1, a2, false, zIns Fl⟩ : Tn)).toArray).setIfInBounds 4 (.bool g) = (cTn (⟨a0, a1, a2, g, zIns Fl⟩ : Tn)).toArray from rfl]
   have hl2_ := r1.len
   have he2_ := r1.err
   refine Zg ?_
   refine Zd (l := [0, 1, 2, 3, 4, 5, 6]) rfl ?_
   refine Za rfl rfl rfl rfl (Zc rfl rfl) ?_
   refine Za rfl rfl rfl rfl (Zc rfl rfl) ?_
   refine Za rfl rfl rfl rfl (Ze rfl rfl) ?_
   refine Za rfl rfl rfl rfl (Zb (fo := 3) rfl Try.underlying206 rfl i_204 rfl rfl rfl) ?_
   refine Za rfl rfl rfl rfl (Zc rfl rfl) ?_
   refine Za rfl rfl rfl rfl (V_func rfl rfl rfl) ?_
   refine Zq (L2 := [_]) rfl rfl rfl rfl rfl rfl Try.call173 (cr_listFl b br l2 e2 (by omega) (by omega) bx 3 (cTn (⟨a0, a1, a2, g, zIns Fl⟩ : Tn)).toArray T rfl) [0, 0] [0] rfl rfl ?_
   rintro v post ⟨s, l3, e3, M, hso, hsl, r2, hoks, hM, rfl, rfl⟩
   refine G_perm (perm_in0 [_, _] [_] _) ?_
   show G _ _ _ (_ :: _ :: _ :: _) _
   rw [show ((cTn (⟨a0, a1, a2, g, zIns Fl⟩ : Tn)).toArray).setIfInBounds 3 (insV s) = (cTn (⟨a0, a1, a2, g, s⟩ : Tn)).toArray from rfl]
   refine Zg ?_
   refine G_endT (p1 := [_, _]) (T := _) Try.func163 rfl Zp [0, 0] ⟨_, _, rfl, List.perm_append_comm (l₁ := [_])⟩ ?_
   dsimp only [packed]
   exact ⟨(⟨a0, a1, a2, g, s⟩ : Tn), l3, e3, _, ⟨hso, hoks⟩, hM, rdgPT r0 r1 r2, rfl, rfl⟩

set_option maxRecDepth 100000 in
set_option maxHeartbeats 2000000 in
theorem cr_listTn (b br : Nat) (l : List UInt8) (e : Nat) (hl : l.length ≤ 140737488350000) (he : e ≤ 1000) (bx k : Nat) (cs : Array Value) (T : TypeId) (hk : cs[k]? = some (.slice none 0 0)) :
    Ct Try.prog 162 [.pointer (some ⟨b, 0, none⟩), .pointer (some ⟨bx, k, none⟩), .func (.func 163) #[.pointer (some ⟨b, 0, none⟩)] #[]] [(some b, .cells #[.pointer none, .slice none 0 0, .pointer (some ⟨br, 0, none⟩), .bool false] 80 (0, 0))] [(some br, .cells #[.string (bs l), .int .i64 ((e : Nat) : Int)] 169 (0, 0)), (some bx, .cells (cs) T (0, 0))] fun v post => ∃ (s : Ins Tn) (l1 : List UInt8) (e1 : Nat) (M : List HBk), InsOk 5 cTn s ∧ s.l.length ≤ 1000 ∧ Rdg (encL encPT) (GL GPT) l e (s.l.map vTn) l1 e1 ∧ (∀ m ∈ s.l, OkTn m) ∧ (∀ z ∈ insK s :: s.l.flatMap kTn, z ∈ M) ∧ v = .tuple #[] ∧ post = (some br, .cells #[.string (bs l1), .int .i64 ((e1 : Nat) : Int)] 169 (0, 0)) :: (some bx, .cells (cs.setIfInBounds k (insV s)) T (0, 0)) :: M := by
 obtain ⟨n, l0, e0, h0⟩ : ∃ a_ l_ e_, rdInt 1000 l e = (a_, l_, e_) := ⟨_, _, _, rfl⟩
 obtain ⟨hn, hl0, he0⟩ := rd_n he h0
 have hks := at_lt hk
 have hcs : cs.setIfInBounds k (slNil.v 0) = cs := set_self hk
 refine Yu Try.func162 rfl rfl (fun w0 => ?_)
 show G _ _ [(0, _), (1, _), (2, _)] _ _
 refine Zh ?_
 refine Zh ?_
 refine Zd (l := [0, 1, 2, 3, 4]) rfl ?_
 refine Za rfl rfl rfl rfl (Zc rfl rfl) ?_
 refine Za rfl rfl rfl rfl (Ze rfl rfl) ?_
 refine Za rfl rfl rfl rfl (Zb (fo := 2) rfl Try.underlying80 rfl i_74 rfl rfl rfl) ?_
 refine Za rfl rfl rfl rfl (Zj rfl rfl (Zf 0 rfl) rfl Try.underlying74 rfl) ?_
 refine Za rfl rfl rfl rfl (V_peqlN rfl Try.underlying74 rfl rfl) ?_
 refine Zg ?_
 refine Xu rfl ?_
 refine Zu ?_
 refine Zh ?_
 refine Xq (.cells #[] 206 (0, 0)) ?_
 refine Zd (l := [0, 1, 2, 3, 4, 5]) rfl ?_
 refine Za rfl rfl rfl rfl (Zc rfl rfl) ?_
 refine Za rfl rfl rfl rfl (Ze rfl rfl) ?_
 refine Za rfl rfl rfl rfl (Zb (fo := 2) rfl Try.underlying80 rfl i_74 rfl rfl rfl) ?_
 refine Za rfl rfl rfl rfl (Zj rfl rfl (Zf 0 rfl) rfl Try.underlying74 rfl) ?_
 refine Zq (L2 := [_, _]) rfl rfl rfl rfl rfl rfl Try.call84 ((rd_int br l e 1000 (by omega) (by omega) (by omega)).weaken (fun v post h => by rewrite [h0] at h; exact h)) [1] [] rfl rfl ?_
 rintro v post ⟨rfl, rfl⟩
 show G _ _ _ [_, _, _] _
 refine Za rfl rfl rfl rfl (Zc rfl rfl) ?_
 refine Zg ?_
 refine Zs ?_
 refine Xj (L1 := [_, _, _]) ?he10 [0, 1, 0] ?hl10 (Xb (X := Nat × Sl × List Tn × List UInt8 × Nat × List HBk) (fun x_ => match x_ with | ⟨i, u, ms, l1, e1, M⟩ => i ≤ n ∧ ms.length = i ∧ Own 5 u (ms.flatMap cTn) i ∧ RdgL encPT GPT n l0 e0 i (ms.map vTn) l1 e1 ∧ (∀ m ∈ ms, OkTn m) ∧ ∀ z ∈ ms.flatMap kTn, z ∈ M) (fun x_ => match x_ with | ⟨i, u, ms, l1, e1, M⟩ => n - i) (fun x_ => match x_ with | ⟨i, u, ms, l1, e1, M⟩ => [(0, .pointer (some ⟨b, 0, none⟩)), (1, .pointer (some ⟨bx, k, none⟩)), (2, .func (.func 163) #[.pointer (some ⟨b, 0, none⟩)] #[]), (58, .int .i64 (n : Int)), (59, .int .i64 (i : Int))]) (fun x_ => match x_ with | ⟨i, u, ms, l1, e1, M⟩ => ((some br, .cells #[.string (bs l1), .int .i64 ((e1 : Nat) : Int)] 169 (0, 0)) :: (some bx, .cells (cs.setIfInBounds k (u.v i)) T (0, 0)) :: (u.ob, .cells u.cs 206 u.fz) :: M)) ?round10 (0, slNil, [], l0, e0, []) ?h010)
 case he10 => exact (And.intro rfl (And.intro rfl (And.intro rfl (And.intro rfl (And.intro rfl trivial)))))
 case hl10 => exact ⟨_, _, by show tk _ _ = some ([_, (some bx, .cells (cs.setIfInBounds k (slNil.v 0)) T (0, 0)), _], _); rw [hcs]; rfl, .refl _⟩
 case h010 => exact ⟨Nat.zero_le _, rfl, own_nil 5, .zero he0, by simp, by simp⟩
 case round10 =>
  intro x_ hJ ih
  try dsimp only at hJ ih
  obtain ⟨i, u, ms, l1, e1, M⟩ := x_
  try dsimp only at hJ ih
  obtain ⟨hi, hml, hu, hx, hoks, hM⟩ := hJ
  show G _ _ [(0, .pointer (some ⟨b, 0, none⟩)), (1, .pointer (some ⟨bx, k, none⟩)), (2, .func (.func 163) #[.pointer (some ⟨b, 0, none⟩)] #[]), (58, .int .i64 (n : Int)), (59, .int .i64 (i : Int))] ((some br, .cells #[.string (bs l1), .int .i64 ((e1 : Nat) : Int)] 169 (0, 0)) :: (some bx, .cells (cs.setIfInBounds k (u.v i)) T (0, 0)) :: (u.ob, .cells u.cs 206 u.fz) :: M) _
  have hl1 := hx.len
  have he1 := hx.err
  refine Zh ?_
  refine Zd (l := [0]) rfl ?_
  refine Za rfl rfl rfl rfl (Xn rfl rfl rfl) ?_
  refine Zg ?_
  refine Zh ?_
  refine Yk rfl (fun hc1 => ?_) (fun hc1 => ?_)
  ·
   refine Zu ?_
   refine Zh ?_
   refine Zs ?_
   refine Zh ?_
   refine Zh ?_
   refine Zd (l := [0, 1, 2, 3, 4, 5]) rfl ?_
   refine Za rfl rfl rfl rfl (Zc rfl rfl) ?_
   refine Za rfl rfl rfl rfl (Ze rfl rfl) ?_
   refine Za rfl rfl rfl rfl (Zb (fo := 2) rfl Try.underlying80 rfl i_74 rfl rfl rfl) ?_
   refine Za rfl rfl rfl rfl (Zj rfl rfl (Zf 0 rfl) rfl Try.underlying74 rfl) ?_
   refine Zq (L2 := (_ :: _ :: _ :: _)) rfl rfl rfl rfl rfl rfl Try.call86 (rd_err _ _ _) [] [1] rfl rfl ?_
   rintro v post ⟨rfl, rfl⟩
   show G _ _ _ (_ :: _ :: _ :: _) _
   refine Za rfl rfl rfl rfl (V_neq rfl rfl rfl) ?_
   refine Zg ?_
   refine Yk rfl (fun hc2 => ?_) (fun hc2 => ?_)
   ·
    refine G_retT (p1 := [_, _, _]) (T := _) Try.func162 rfl Zp [0, 0, 0] ⟨_, _, rfl, List.perm_append_comm (l₁ := [])⟩ ?_
    dsimp only [packed]
    first
      | exact ⟨insOf u 206 ms, l1, e1, _, Yh (by rw [hml]; exact hu) (by omega), by show ms.length ≤ _; omega, rdg_Lbad he h0 hx (by omega) _, hoks, sub_hd hM, rfl, by (try simp only [Xd, hml]); first | done | rfl⟩
      | (obtain rfl : i = n := by omega
         exact ⟨insOf u 206 ms, l1, e1, _, Yh (by rw [hml]; exact hu) (by omega), by show ms.length ≤ _; omega, rdg_L he h0 hx, hoks, sub_hd hM, rfl, by (try simp only [Xd, hml]); first | done | rfl⟩)
   refine Zu ?_
   refine Zh ?_
   refine Zd (l := [0]) rfl ?_
   refine Yw rfl rfl rfl rfl (Ym rfl i_206 rfl) (fun b8 => ?_)
   refine Zg ?_
   refine Zh ?_
   refine Zd (l := [0, 1]) rfl ?_
   refine Za rfl rfl rfl rfl (Zc rfl rfl) ?_
   refine G_callB (L2 := (_ :: _ :: _)) rfl rfl rfl rfl rfl rfl Try.call163 rfl (cr_tenant b br l1 e1 (by omega) (by omega) _ _) [1, 0] [0] rfl rfl ?_
   rintro v post ⟨m, l2, e2, M0, hmo, hM0, hm, rfl, rfl⟩
   refine G_perm (perm_in [_, _] [_, _] _ _) ?_
   show G _ _ _ (_ :: _ :: _ :: _ :: _) _
   refine Zg ?_
   refine Yf (Lq := [_]) (isq := [1]) (m := 9) Yo rfl rfl ?_
   refine Zi 0 rfl rfl rfl rfl (by kernel_rfl) (fun _ _ => Zc rfl rfl) ?_
   refine Zi 1 rfl rfl rfl rfl (by kernel_rfl) (fun _ _ => Zc rfl rfl) ?_
   refine Zi 2 rfl rfl rfl rfl (by kernel_rfl) (fun _ _ => Ze rfl rfl) ?_
   refine Zi 4 rfl rfl rfl rfl (by kernel_rfl) (fun _ _ => V_loadW (s := 5) rfl rfl (Zf 1 rfl) Try.underlying206 rfl i_206 rfl (by rfl)) ?_
   refine GH_all [3, 5] (by kernel_rfl) (by decide) ?_
   refine (And.intro ?_ (And.intro ?_ trivial))
   ·
    refine Xo rfl rfl rfl rfl (Zj rfl rfl (Zf 3 rfl) (Zt (set_at (u.v i) hks)) Try.underlying109 rfl) ?_
    refine GH_all [5] (by kernel_rfl) (by decide) ?_
    refine (And.intro ?_ trivial)
    ·
     refine Yl rfl rfl rfl rfl (Zn (s := 5) (cs := [_, _, _, _, _]) rfl Try.underlying109 i_206 rfl rfl rfl rfl rfl rfl rfl rfl rfl) [2] (fun _ => ⟨_, rfl⟩) (fun b74 => ?_)
     refine GH_all [6] (by kernel_rfl) (by decide) ?_
     refine (And.intro ?_ trivial)
     ·
      refine Yq (l1 := [_, _, _, _]) (s := u) (nn := i) (m := 1) (news := (cTn m)) (bt := 56) rfl rfl rfl rfl Try.underlying109 Try.underlying109 (by first | exact .inl rfl | exact .inr ⟨_, rfl⟩) i_206 rfl rfl rfl rfl rfl rfl hu rfl (Yg (Zf 1 rfl) rfl rfl (by simp [cTn, Value.oneCell'])) (by omega) (by omega) [2] (fun _ => ⟨_, rfl⟩) ?_
      intro u1 hu1 _
      show GH _ _ _ _ _ _ _ (_ :: _ :: _ :: _ :: _ :: _) _
      refine Zi 7 rfl rfl rfl rfl (by kernel_rfl) (fun _ _ => Ze rfl rfl) ?_
      refine GH_all [8] (by kernel_rfl) (by decide) ?_
      refine (And.intro ?_ trivial)
      ·
       refine Xk (l1 := [_, _, _]) (L' := (_ :: _ :: _ :: _ :: _ :: _)) rfl rfl rfl rfl (Zm rfl rfl rfl (Zf 3 rfl) (by first | exact of_decide_eq_true rfl | omega | (simp [cOp, cWk, cIv, cHr, cLt, cWt, cIt, cFl, cTn, cCl, cPo, cSt, cDt, cDs, Sl.v, zIns]; done) | (simp [cOp, cWk, cIv, cHr, cLt, cWt, cIt, cFl, cTn, cCl, cPo, cSt, cDt, cDs, Sl.v, zIns]; omega) | (simp [cOp, cWk, cIv, cHr, cLt, cWt, cIt, cFl, cTn, cCl, cPo, cSt, cDt, cDs, Sl.v, zIns] at *; omega)) i_109 rfl rfl) rfl [2] rfl ?_
       refine Ya (by kernel_rfl) ?_
       refine Zv ?_
       refine Zd (l := [0, 1]) rfl ?_
       refine Za rfl rfl rfl rfl ((Xe rfl rfl rfl).int (Zw (by omega))) ?_
       refine Za rfl rfl rfl rfl (Zc rfl rfl) ?_
       refine Zg ?_
       rw [set_set]
       refine Xj (L1 := [_, _, _]) ?_ [1, 2, 2] ?bhl10 (ih (i + 1, u1, ms ++ [m], l2, e2, ?M1) ?_ ?_)
       case bhl10 => (dsimp only; refine ⟨(_ :: _ :: _), [], rfl, ?_⟩; exact perm_all _)
       · (refine (And.intro ?_ (And.intro ?_ (And.intro ?_ (And.intro ?_ (And.intro ?_ trivial))))) <;> first | rfl | exact Zl (by omega) | exact Zl (by simp))
       · exact ⟨by omega, by simp [hml], by rw [List.flatMap_append, List.flatMap_singleton]; exact hu1, by rw [List.map_append]; exact hx.next hm (by omega), oks_nx hoks hmo, sub_next hM hM0 (fun z hz => by simp [hz]) (fun z hz => by simp [hz])⟩
       · (first | omega | (dsimp only; omega))
   ·
    refine Yl rfl rfl rfl rfl (Zn (s := 5) (cs := [_, _, _, _, _]) rfl Try.underlying109 i_206 rfl rfl rfl rfl rfl rfl rfl rfl rfl) [2] (fun _ => ⟨_, rfl⟩) (fun b74 => ?_)
    refine GH_all [3] (by kernel_rfl) (by decide) ?_
    refine (And.intro ?_ trivial)
    ·
     refine Xo rfl rfl rfl rfl (Zj rfl rfl (Zf 4 rfl) (Zt (set_at (u.v i) hks)) Try.underlying109 rfl) ?_
     refine GH_all [6] (by kernel_rfl) (by decide) ?_
     refine (And.intro ?_ trivial)
     ·
      refine Yq (l1 := [_, _, _, _]) (s := u) (nn := i) (m := 1) (news := (cTn m)) (bt := 56) rfl rfl rfl rfl Try.underlying109 Try.underlying109 (by first | exact .inl rfl | exact .inr ⟨_, rfl⟩) i_206 rfl rfl rfl rfl rfl rfl hu rfl (Yg (Zf 1 rfl) rfl rfl (by simp [cTn, Value.oneCell'])) (by omega) (by omega) [2] (fun _ => ⟨_, rfl⟩) ?_
      intro u1 hu1 _
      show GH _ _ _ _ _ _ _ (_ :: _ :: _ :: _ :: _ :: _) _
      refine Zi 7 rfl rfl rfl rfl (by kernel_rfl) (fun _ _ => Ze rfl rfl) ?_
      refine GH_all [8] (by kernel_rfl) (by decide) ?_
      refine (And.intro ?_ trivial)
      ·
       refine Xk (l1 := [_, _, _]) (L' := (_ :: _ :: _ :: _ :: _ :: _)) rfl rfl rfl rfl (Zm rfl rfl rfl (Zf 3 rfl) (by first | exact of_decide_eq_true rfl | omega | (simp [cOp, cWk, cIv, cHr, cLt, cWt, cIt, cFl, cTn, cCl, cPo, cSt, cDt, cDs, Sl.v, zIns]; done) | (simp [cOp, cWk, cIv, cHr, cLt, cWt, cIt, cFl, cTn, cCl, cPo, cSt, cDt, cDs, Sl.v, zIns]; omega) | (simp [cOp, cWk, cIv, cHr, cLt, cWt, cIt, cFl, cTn, cCl, cPo, cSt, cDt, cDs, Sl.v, zIns] at *; omega)) i_109 rfl rfl) rfl [2] rfl ?_
       refine Ya (by kernel_rfl) ?_
       refine Zv ?_
       refine Zd (l := [0, 1]) rfl ?_
       refine Za rfl rfl rfl rfl ((Xe rfl rfl rfl).int (Zw (by omega))) ?_
       refine Za rfl rfl rfl rfl (Zc rfl rfl) ?_
       refine Zg ?_
       rw [set_set]
       refine Xj (L1 := [_, _, _]) ?_ [1, 2, 2] ?bhl10 (ih (i + 1, u1, ms ++ [m], l2, e2, ?M2) ?_ ?_)
       case bhl10 => (dsimp only; refine ⟨(_ :: _ :: _), [], rfl, ?_⟩; exact perm_all _)
       · (refine (And.intro ?_ (And.intro ?_ (And.intro ?_ (And.intro ?_ (And.intro ?_ trivial))))) <;> first | rfl | exact Zl (by omega) | exact Zl (by simp))
       · exact ⟨by omega, by simp [hml], by rw [List.flatMap_append, List.flatMap_singleton]; exact hu1, by rw [List.map_append]; exact hx.next hm (by omega), oks_nx hoks hmo, sub_next hM hM0 (fun z hz => by simp [hz]) (fun z hz => by simp [hz])⟩
       · (first | omega | (dsimp only; omega))
  refine Yr rfl ?_
  refine G_endT (p1 := [_, _, _]) (T := _) Try.func162 rfl Zp [0, 0, 0] ⟨_, _, rfl, List.perm_append_comm (l₁ := [])⟩ ?_
  dsimp only [packed]
  first
    | exact ⟨insOf u 206 ms, l1, e1, _, Yh (by rw [hml]; exact hu) (by omega), by show ms.length ≤ _; omega, rdg_Lbad he h0 hx (by omega) _, hoks, sub_hd hM, rfl, by (try simp only [Xd, hml]); first | done | rfl⟩
    | (obtain rfl : i = n := by omega
       exact ⟨insOf u 206 ms, l1, e1, _, Yh (by rw [hml]; exact hu) (by omega), by show ms.length ≤ _; omega, rdg_L he h0 hx, hoks, sub_hd hM, rfl, by (try simp only [Xd, hml]); first | done | rfl⟩)

theorem cCl_sz (x : Cl) : (cCl x).toArray.size = 3 := rfl
set_option maxRecDepth 100000 in
set_option maxHeartbeats 1000000 in
theorem cr_class (b br : Nat) (l : List UInt8) (e : Nat) (hl : l.length ≤ 140737488350000) (he : e ≤ 1000) (bx : Nat) (T : TypeId) :
    Ct Try.prog 144 [.pointer (some ⟨b, 0, none⟩), .pointer (some ⟨bx, 0, none⟩)] [(some b, .cells #[.pointer none, .slice none 0 0, .pointer (some ⟨br, 0, none⟩), .bool false] 80 (0, 0))] [(some br, .cells #[.string (bs l), .int .i64 ((e : Nat) : Int)] 169 (0, 0)), (some bx, .cells ((cCl (⟨0, false, zIns Tn⟩ : Cl)).toArray) T (0, 0))] fun v post => ∃ (m : Cl) (l1 : List UInt8) (e1 : Nat) (M : List HBk), OkCl m ∧ (∀ z ∈ kCl m, z ∈ M) ∧ Rdg encPC GPC l e (vCl m) l1 e1 ∧ v = .tuple #[] ∧ post = (some br, .cells #[.string (bs l1), .int .i64 ((e1 : Nat) : Int)] 169 (0, 0)) :: (some bx, .cells ((cCl m).toArray) T (0, 0)) :: M := by
 refine Yu Try.func144 rfl rfl (fun w0 => ?_)
 show G _ _ [(0, _), (1, _)] _ _
 refine Zh ?_
 refine Zd (l := [0, 1, 2, 3, 4, 5]) rfl ?_
 refine Za rfl rfl rfl rfl (Zc rfl rfl) ?_
 refine Za rfl rfl rfl rfl (Zc rfl rfl) ?_
 refine Za rfl rfl rfl rfl (Ze rfl rfl) ?_
 refine Za rfl rfl rfl rfl (Zb (fo := 0) rfl Try.underlying250 rfl i_3 rfl rfl rfl) ?_
 refine Yw rfl rfl rfl rfl (Zn (s := 1) (cs := [_]) rfl Try.underlying241 i_176 rfl rfl rfl rfl rfl rfl rfl rfl rfl) (fun b8 => ?_)
 refine Zq (L2 := [_]) rfl rfl rfl rfl rfl rfl Try.call96 (cr_intsL b br l e (by omega) (by omega) _ _ bx (cCl (⟨0, false, zIns Tn⟩ : Cl)).toArray T [0] (by simp) (by intro y hy; simp only [cCl_sz]; simp only [List.mem_cons, List.not_mem_nil, or_false] at hy; omega)) [1, 1] [1, 0] rfl rfl ?_
 rintro v post ⟨xs0, l1, e1, hxs, r0, rfl, rfl⟩
 show G _ _ _ [_, _, _] _
 obtain ⟨a0, rfl⟩ := len_1 hxs
 rw [show putAll (fun z : Int => Value.int .i64 z) (cCl (⟨0, false, zIns Tn⟩ : Cl)).toArray [0] [a0] = (cCl (⟨a0, false, zIns Tn⟩ : Cl)).toArray by unfold cCl; simp only [putAll_cons, putAll_nil, List.set_cons_succ, List.set_cons_zero]]
 have hl1_ := r0.len
 have he1_ := r0.err
 refine Zg ?_
 refine Zh ?_
 refine Zd (l := [0, 1, 2, 3, 4]) rfl ?_
 refine Za rfl rfl rfl rfl (Zc rfl rfl) ?_
 refine Za rfl rfl rfl rfl (Zc rfl rfl) ?_
 refine Za rfl rfl rfl rfl (Ze rfl rfl) ?_
 refine Za rfl rfl rfl rfl (Zb (fo := 1) rfl Try.underlying250 rfl i_4 rfl rfl rfl) ?_
 refine Zq (L2 := [_]) rfl rfl rfl rfl rfl rfl Try.call95 (cr_flag b br l1 e1 (by omega) (by omega) bx 1 (cCl (⟨a0, false, zIns Tn⟩ : Cl)).toArray T (by rw [cCl_sz]; omega)) [0, 0] [0] rfl rfl ?_
 rintro v post ⟨g, l2, e2, r1, rfl, rfl⟩
 show G _ _ _ [_, _, _] _
 rw [show ((cCl (⟨a0, false, zIns Tn⟩ : Cl)).toArray).setIfInBounds 1 (.bool g) = (cCl (⟨a0, g, zIns Tn⟩ : Cl)).toArray from rfl]
 have hl2_ := r1.len
 have he2_ := r1.err
 refine Zg ?_
 refine Zd (l := [0, 1, 2, 3, 4, 5, 6]) rfl ?_
 refine Za rfl rfl rfl rfl (Zc rfl rfl) ?_
 refine Za rfl rfl rfl rfl (Zc rfl rfl) ?_
 refine Za rfl rfl rfl rfl (Ze rfl rfl) ?_
 refine Za rfl rfl rfl rfl (Zb (fo := 2) rfl Try.underlying250 rfl i_109 rfl rfl rfl) ?_
 refine Za rfl rfl rfl rfl (Zc rfl rfl) ?_
 refine Za rfl rfl rfl rfl (V_func rfl rfl rfl) ?_
 refine Zq (L2 := [_]) rfl rfl rfl rfl rfl rfl Try.call162 (cr_listTn b br l2 e2 (by omega) (by omega) bx 2 (cCl (⟨a0, g, zIns Tn⟩ : Cl)).toArray T rfl) [0, 0] [0] rfl rfl ?_
 rintro v post ⟨s, l3, e3, M, hso, hsl, r2, hoks, hM, rfl, rfl⟩
 refine G_perm (perm_in0 [_, _] [_] _) ?_
 show G _ _ _ (_ :: _ :: _ :: _) _
 rw [show ((cCl (⟨a0, g, zIns Tn⟩ : Cl)).toArray).setIfInBounds 2 (insV s) = (cCl (⟨a0, g, s⟩ : Cl)).toArray from rfl]
 refine Zg ?_
 refine G_endT (p1 := [_, _]) (T := _) Try.func144 rfl Zp [0, 0] ⟨_, _, rfl, List.perm_append_comm (l₁ := [_])⟩ ?_
 dsimp only [packed]
 exact ⟨(⟨a0, g, s⟩ : Cl), l3, e3, _, ⟨hso, hoks⟩, hM, rdgPC r0 r1 r2, rfl, rfl⟩

set_option maxRecDepth 100000 in
set_option maxHeartbeats 2000000 in
theorem cr_listCl (b br : Nat) (l : List UInt8) (e : Nat) (hl : l.length ≤ 140737488350000) (he : e ≤ 1000) (bx k : Nat) (cs : Array Value) (T : TypeId) (hk : cs[k]? = some (.slice none 0 0)) :
    Ct Try.prog 143 [.pointer (some ⟨b, 0, none⟩), .pointer (some ⟨bx, k, none⟩), .func (.func 144) #[.pointer (some ⟨b, 0, none⟩)] #[]] [(some b, .cells #[.pointer none, .slice none 0 0, .pointer (some ⟨br, 0, none⟩), .bool false] 80 (0, 0))] [(some br, .cells #[.string (bs l), .int .i64 ((e : Nat) : Int)] 169 (0, 0)), (some bx, .cells (cs) T (0, 0))] fun v post => ∃ (s : Ins Cl) (l1 : List UInt8) (e1 : Nat) (M : List HBk), InsOk 3 cCl s ∧ s.l.length ≤ 1000 ∧ Rdg (encL encPC) (GL GPC) l e (s.l.map vCl) l1 e1 ∧ (∀ m ∈ s.l, OkCl m) ∧ (∀ z ∈ insK s :: s.l.flatMap kCl, z ∈ M) ∧ v = .tuple #[] ∧ post = (some br, .cells #[.string (bs l1), .int .i64 ((e1 : Nat) : Int)] 169 (0, 0)) :: (some bx, .cells (cs.setIfInBounds k (insV s)) T (0, 0)) :: M := by
 obtain ⟨n, l0, e0, h0⟩ : ∃ a_ l_ e_, rdInt 1000 l e = (a_, l_, e_) := ⟨_, _, _, rfl⟩
 obtain ⟨hn, hl0, he0⟩ := rd_n he h0
 have hks := at_lt hk
 have hcs : cs.setIfInBounds k (slNil.v 0) = cs := set_self hk
 refine Yu Try.func143 rfl rfl (fun w0 => ?_)
 show G _ _ [(0, _), (1, _), (2, _)] _ _
 refine Zh ?_
 refine Zh ?_
 refine Zd (l := [0, 1, 2, 3, 4]) rfl ?_
 refine Za rfl rfl rfl rfl (Zc rfl rfl) ?_
 refine Za rfl rfl rfl rfl (Ze rfl rfl) ?_
 refine Za rfl rfl rfl rfl (Zb (fo := 2) rfl Try.underlying80 rfl i_74 rfl rfl rfl) ?_
 refine Za rfl rfl rfl rfl (Zj rfl rfl (Zf 0 rfl) rfl Try.underlying74 rfl) ?_
 refine Za rfl rfl rfl rfl (V_peqlN rfl Try.underlying74 rfl rfl) ?_
 refine Zg ?_
 refine Xu rfl ?_
 refine Zu ?_
 refine Zh ?_
 refine Xq (.cells #[] 250 (0, 0)) ?_
 refine Zd (l := [0, 1, 2, 3, 4, 5]) rfl ?_
 refine Za rfl rfl rfl rfl (Zc rfl rfl) ?_
 refine Za rfl rfl rfl rfl (Ze rfl rfl) ?_
 refine Za rfl rfl rfl rfl (Zb (fo := 2) rfl Try.underlying80 rfl i_74 rfl rfl rfl) ?_
 refine Za rfl rfl rfl rfl (Zj rfl rfl (Zf 0 rfl) rfl Try.underlying74 rfl) ?_
 refine Zq (L2 := [_, _]) rfl rfl rfl rfl rfl rfl Try.call84 ((rd_int br l e 1000 (by omega) (by omega) (by omega)).weaken (fun v post h => by rewrite [h0] at h; exact h)) [1] [] rfl rfl ?_
 rintro v post ⟨rfl, rfl⟩
 show G _ _ _ [_, _, _] _
 refine Za rfl rfl rfl rfl (Zc rfl rfl) ?_
 refine Zg ?_
 refine Zs ?_
 refine Xj (L1 := [_, _, _]) ?he10 [0, 1, 0] ?hl10 (Xb (X := Nat × Sl × List Cl × List UInt8 × Nat × List HBk) (fun x_ => match x_ with | ⟨i, u, ms, l1, e1, M⟩ => i ≤ n ∧ ms.length = i ∧ Own 3 u (ms.flatMap cCl) i ∧ RdgL encPC GPC n l0 e0 i (ms.map vCl) l1 e1 ∧ (∀ m ∈ ms, OkCl m) ∧ ∀ z ∈ ms.flatMap kCl, z ∈ M) (fun x_ => match x_ with | ⟨i, u, ms, l1, e1, M⟩ => n - i) (fun x_ => match x_ with | ⟨i, u, ms, l1, e1, M⟩ => [(0, .pointer (some ⟨b, 0, none⟩)), (1, .pointer (some ⟨bx, k, none⟩)), (2, .func (.func 144) #[.pointer (some ⟨b, 0, none⟩)] #[]), (58, .int .i64 (n : Int)), (59, .int .i64 (i : Int))]) (fun x_ => match x_ with | ⟨i, u, ms, l1, e1, M⟩ => ((some br, .cells #[.string (bs l1), .int .i64 ((e1 : Nat) : Int)] 169 (0, 0)) :: (some bx, .cells (cs.setIfInBounds k (u.v i)) T (0, 0)) :: (u.ob, .cells u.cs 250 u.fz) :: M)) ?round10 (0, slNil, [], l0, e0, []) ?h010)
 case he10 => exact (And.intro rfl (And.intro rfl (And.intro rfl (And.intro rfl (And.intro rfl trivial)))))
 case hl10 => exact ⟨_, _, by show tk _ _ = some ([_, (some bx, .cells (cs.setIfInBounds k (slNil.v 0)) T (0, 0)), _], _); rw [hcs]; rfl, .refl _⟩
 case h010 => exact ⟨Nat.zero_le _, rfl, own_nil 3, .zero he0, by simp, by simp⟩
 case round10 =>
  intro x_ hJ ih
  try dsimp only at hJ ih
  obtain ⟨i, u, ms, l1, e1, M⟩ := x_
  try dsimp only at hJ ih
  obtain ⟨hi, hml, hu, hx, hoks, hM⟩ := hJ
  show G _ _ [(0, .pointer (some ⟨b, 0, none⟩)), (1, .pointer (some ⟨bx, k, none⟩)), (2, .func (.func 144) #[.pointer (some ⟨b, 0, none⟩)] #[]), (58, .int .i64 (n : Int)), (59, .int .i64 (i : Int))] ((some br, .cells #[.string (bs l1), .int .i64 ((e1 : Nat) : Int)] 169 (0, 0)) :: (some bx, .cells (cs.setIfInBounds k (u.v i)) T (0, 0)) :: (u.ob, .cells u.cs 250 u.fz) :: M) _
  have hl1 := hx.len
  have he1 := hx.err
  refine Zh ?_
  refine Zd (l := [0]) rfl ?_
  refine Za rfl rfl rfl rfl (Xn rfl rfl rfl) ?_
  refine Zg ?_
  refine Zh ?_
  refine Yk rfl (fun hc1 => ?_) (fun hc1 => ?_)
  ·
   refine Zu ?_
   refine Zh ?_
   refine Zs ?_
   refine Zh ?_
   refine Zh ?_
   refine Zd (l := [0, 1, 2, 3, 4, 5]) rfl ?_
   refine Za rfl rfl rfl rfl (Zc rfl rfl) ?_
   refine Za rfl rfl rfl rfl (Ze rfl rfl) ?_
   refine Za rfl rfl rfl rfl (Zb (fo := 2) rfl Try.underlying80 rfl i_74 rfl rfl rfl) ?_
   refine Za rfl rfl rfl rfl (Zj rfl rfl (Zf 0 rfl) rfl Try.underlying74 rfl) ?_
   refine Zq (L2 := (_ :: _ :: _ :: _)) rfl rfl rfl rfl rfl rfl Try.call86 (rd_err _ _ _) [] [1] rfl rfl ?_
   rintro v post ⟨rfl, rfl⟩
   show G _ _ _ (_ :: _ :: _ :: _) _
   refine Za rfl rfl rfl rfl (V_neq rfl rfl rfl) ?_
   refine Zg ?_
   refine Yk rfl (fun hc2 => ?_) (fun hc2 => ?_)
   ·
    refine G_retT (p1 := [_, _, _]) (T := _) Try.func143 rfl Zp [0, 0, 0] ⟨_, _, rfl, List.perm_append_comm (l₁ := [])⟩ ?_
    dsimp only [packed]
    first
      | exact ⟨insOf u 250 ms, l1, e1, _, Yh (by rw [hml]; exact hu) (by omega), by show ms.length ≤ _; omega, rdg_Lbad he h0 hx (by omega) _, hoks, sub_hd hM, rfl, by (try simp only [Xd, hml]); first | done | rfl⟩
      | (obtain rfl : i = n := by omega
         exact ⟨insOf u 250 ms, l1, e1, _, Yh (by rw [hml]; exact hu) (by omega), by show ms.length ≤ _; omega, rdg_L he h0 hx, hoks, sub_hd hM, rfl, by (try simp only [Xd, hml]); first | done | rfl⟩)
   refine Zu ?_
   refine Zh ?_
   refine Zd (l := [0]) rfl ?_
   refine Yw rfl rfl rfl rfl (Ym rfl i_250 rfl) (fun b8 => ?_)
   refine Zg ?_
   refine Zh ?_
   refine Zd (l := [0, 1]) rfl ?_
   refine Za rfl rfl rfl rfl (Zc rfl rfl) ?_
   refine G_callB (L2 := (_ :: _ :: _)) rfl rfl rfl rfl rfl rfl Try.call144 rfl (cr_class b br l1 e1 (by omega) (by omega) _ _) [1, 0] [0] rfl rfl ?_
   rintro v post ⟨m, l2, e2, M0, hmo, hM0, hm, rfl, rfl⟩
   refine G_perm (perm_in [_, _] [_, _] _ _) ?_
   show G _ _ _ (_ :: _ :: _ :: _ :: _) _
   refine Zg ?_
   refine Yf (Lq := [_]) (isq := [1]) (m := 9) Yo rfl rfl ?_
   refine Zi 0 rfl rfl rfl rfl (by kernel_rfl) (fun _ _ => Zc rfl rfl) ?_
   refine Zi 1 rfl rfl rfl rfl (by kernel_rfl) (fun _ _ => Zc rfl rfl) ?_
   refine Zi 2 rfl rfl rfl rfl (by kernel_rfl) (fun _ _ => Ze rfl rfl) ?_
   refine Zi 4 rfl rfl rfl rfl (by kernel_rfl) (fun _ _ => V_loadW (s := 3) rfl rfl (Zf 1 rfl) Try.underlying250 rfl i_250 rfl (by rfl)) ?_
   refine GH_all [3, 5] (by kernel_rfl) (by decide) ?_
   refine (And.intro ?_ (And.intro ?_ trivial))
   ·
    refine Xo rfl rfl rfl rfl (Zj rfl rfl (Zf 3 rfl) (Zt (set_at (u.v i) hks)) Try.underlying248 rfl) ?_
    refine GH_all [5] (by kernel_rfl) (by decide) ?_
    refine (And.intro ?_ trivial)
    ·
     refine Yl rfl rfl rfl rfl (Zn (s := 3) (cs := [_, _, _]) rfl Try.underlying248 i_250 rfl rfl rfl rfl rfl rfl rfl rfl rfl) [2] (fun _ => ⟨_, rfl⟩) (fun b74 => ?_)
     refine GH_all [6] (by kernel_rfl) (by decide) ?_
     refine (And.intro ?_ trivial)
     ·
      refine Yq (l1 := [_, _, _, _]) (s := u) (nn := i) (m := 1) (news := (cCl m)) (bt := 40) rfl rfl rfl rfl Try.underlying248 Try.underlying248 (by first | exact .inl rfl | exact .inr ⟨_, rfl⟩) i_250 rfl rfl rfl rfl rfl rfl hu rfl (Yg (Zf 1 rfl) rfl rfl (by simp [cCl, Value.oneCell'])) (by omega) (by omega) [2] (fun _ => ⟨_, rfl⟩) ?_
      intro u1 hu1 _
      show GH _ _ _ _ _ _ _ (_ :: _ :: _ :: _ :: _ :: _) _
      refine Zi 7 rfl rfl rfl rfl (by kernel_rfl) (fun _ _ => Ze rfl rfl) ?_
      refine GH_all [8] (by kernel_rfl) (by decide) ?_
      refine (And.intro ?_ trivial)
      ·
       refine Xk (l1 := [_, _, _]) (L' := (_ :: _ :: _ :: _ :: _ :: _)) rfl rfl rfl rfl (Zm rfl rfl rfl (Zf 3 rfl) (by first | exact of_decide_eq_true rfl | omega | (simp [cOp, cWk, cIv, cHr, cLt, cWt, cIt, cFl, cTn, cCl, cPo, cSt, cDt, cDs, Sl.v, zIns]; done) | (simp [cOp, cWk, cIv, cHr, cLt, cWt, cIt, cFl, cTn, cCl, cPo, cSt, cDt, cDs, Sl.v, zIns]; omega) | (simp [cOp, cWk, cIv, cHr, cLt, cWt, cIt, cFl, cTn, cCl, cPo, cSt, cDt, cDs, Sl.v, zIns] at *; omega)) i_248 rfl rfl) rfl [2] rfl ?_
       refine Ya (by kernel_rfl) ?_
       refine Zv ?_
       refine Zd (l := [0, 1]) rfl ?_
       refine Za rfl rfl rfl rfl ((Xe rfl rfl rfl).int (Zw (by omega))) ?_
       refine Za rfl rfl rfl rfl (Zc rfl rfl) ?_
       refine Zg ?_
       rw [set_set]
       refine Xj (L1 := [_, _, _]) ?_ [1, 2, 2] ?bhl10 (ih (i + 1, u1, ms ++ [m], l2, e2, ?M1) ?_ ?_)
       case bhl10 => (dsimp only; refine ⟨(_ :: _ :: _), [], rfl, ?_⟩; exact perm_all _)
       · (refine (And.intro ?_ (And.intro ?_ (And.intro ?_ (And.intro ?_ (And.intro ?_ trivial))))) <;> first | rfl | exact Zl (by omega) | exact Zl (by simp))
       · exact ⟨by omega, by simp [hml], by rw [List.flatMap_append, List.flatMap_singleton]; exact hu1, by rw [List.map_append]; exact hx.next hm (by omega), oks_nx hoks hmo, sub_next hM hM0 (fun z hz => by simp [hz]) (fun z hz => by simp [hz])⟩
       · (first | omega | (dsimp only; omega))
   ·
    refine Yl rfl rfl rfl rfl (Zn (s := 3) (cs := [_, _, _]) rfl Try.underlying248 i_250 rfl rfl rfl rfl rfl rfl rfl rfl rfl) [2] (fun _ => ⟨_, rfl⟩) (fun b74 => ?_)
    refine GH_all [3] (by kernel_rfl) (by decide) ?_
    refine (And.intro ?_ trivial)
    ·
     refine Xo rfl rfl rfl rfl (Zj rfl rfl (Zf 4 rfl) (Zt (set_at (u.v i) hks)) Try.underlying248 rfl) ?_
     refine GH_all [6] (by kernel_rfl) (by decide) ?_
     refine (And.intro ?_ trivial)
     ·
      refine Yq (l1 := [_, _, _, _]) (s := u) (nn := i) (m := 1) (news := (cCl m)) (bt := 40) rfl rfl rfl rfl Try.underlying248 Try.underlying248 (by first | exact .inl rfl | exact .inr ⟨_, rfl⟩) i_250 rfl rfl rfl rfl rfl rfl hu rfl (Yg (Zf 1 rfl) rfl rfl (by simp [cCl, Value.oneCell'])) (by omega) (by omega) [2] (fun _ => ⟨_, rfl⟩) ?_
      intro u1 hu1 _
      show GH _ _ _ _ _ _ _ (_ :: _ :: _ :: _ :: _ :: _) _
      refine Zi 7 rfl rfl rfl rfl (by kernel_rfl) (fun _ _ => Ze rfl rfl) ?_
      refine GH_all [8] (by kernel_rfl) (by decide) ?_
      refine (And.intro ?_ trivial)
      ·
       refine Xk (l1 := [_, _, _]) (L' := (_ :: _ :: _ :: _ :: _ :: _)) rfl rfl rfl rfl (Zm rfl rfl rfl (Zf 3 rfl) (by first | exact of_decide_eq_true rfl | omega | (simp [cOp, cWk, cIv, cHr, cLt, cWt, cIt, cFl, cTn, cCl, cPo, cSt, cDt, cDs, Sl.v, zIns]; done) | (simp [cOp, cWk, cIv, cHr, cLt, cWt, cIt, cFl, cTn, cCl, cPo, cSt, cDt, cDs, Sl.v, zIns]; omega) | (simp [cOp, cWk, cIv, cHr, cLt, cWt, cIt, cFl, cTn, cCl, cPo, cSt, cDt, cDs, Sl.v, zIns] at *; omega)) i_248 rfl rfl) rfl [2] rfl ?_
       refine Ya (by kernel_rfl) ?_
       refine Zv ?_
       refine Zd (l := [0, 1]) rfl ?_
       refine Za rfl rfl rfl rfl ((Xe rfl rfl rfl).int (Zw (by omega))) ?_
       refine Za rfl rfl rfl rfl (Zc rfl rfl) ?_
       refine Zg ?_
       rw [set_set]
       refine Xj (L1 := [_, _, _]) ?_ [1, 2, 2] ?bhl10 (ih (i + 1, u1, ms ++ [m], l2, e2, ?M2) ?_ ?_)
       case bhl10 => (dsimp only; refine ⟨(_ :: _ :: _), [], rfl, ?_⟩; exact perm_all _)
       · (refine (And.intro ?_ (And.intro ?_ (And.intro ?_ (And.intro ?_ (And.intro ?_ trivial))))) <;> first | rfl | exact Zl (by omega) | exact Zl (by simp))
       · exact ⟨by omega, by simp [hml], by rw [List.flatMap_append, List.flatMap_singleton]; exact hu1, by rw [List.map_append]; exact hx.next hm (by omega), oks_nx hoks hmo, sub_next hM hM0 (fun z hz => by simp [hz]) (fun z hz => by simp [hz])⟩
       · (first | omega | (dsimp only; omega))
  refine Yr rfl ?_
  refine G_endT (p1 := [_, _, _]) (T := _) Try.func143 rfl Zp [0, 0, 0] ⟨_, _, rfl, List.perm_append_comm (l₁ := [])⟩ ?_
  dsimp only [packed]
  first
    | exact ⟨insOf u 250 ms, l1, e1, _, Yh (by rw [hml]; exact hu) (by omega), by show ms.length ≤ _; omega, rdg_Lbad he h0 hx (by omega) _, hoks, sub_hd hM, rfl, by (try simp only [Xd, hml]); first | done | rfl⟩
    | (obtain rfl : i = n := by omega
       exact ⟨insOf u 250 ms, l1, e1, _, Yh (by rw [hml]; exact hu) (by omega), by show ms.length ≤ _; omega, rdg_L he h0 hx, hoks, sub_hd hM, rfl, by (try simp only [Xd, hml]); first | done | rfl⟩)

end
end Go.Proofs.Ytjnaeoelnmhjfaa
