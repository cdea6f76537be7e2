/- What the law DumpEncodes needs, part 4.  -/
import Derived.Test.YtjnaeoelnmhjfaaPkDumpEncodes1
import Derived.Test.YtjnaeoelnmhjfaaPkDumpEncodes2
import Derived.Test.YtjnaeoelnmhjfaaPkDumpEncodes3


set_option linter.unusedSimpArgs false
set_option linter.unusedVariables false
namespace Go.Proofs.Ytjnaeoelnmhjfaa
open Go Go.RowKit

section
set_option maxRecDepth 100000 in
set_option maxHeartbeats 1000000 in
theorem cr_num (b br : Nat) (l : List UInt8) (e : Nat) (hl : l.length ≤ 140737488350000) (he : e ≤ 1000) (bx k : Nat) (cs : Array Value) (T : TypeId) (hk : k < cs.size) :
    Ct Try.prog 94 [.pointer (some ⟨b, 0, none⟩), .pointer (some ⟨bx, k, none⟩)] [(some b, .cells #[.pointer none, .slice none 0 0, .pointer (some ⟨br, 0, none⟩), .bool false] 80 (0, 0))] [(some br, .cells #[.string (bs l), .int .i64 ((e : Nat) : Int)] 169 (0, 0)), (some bx, .cells (cs) T (0, 0))] fun v post => ∃ n l1 e1, Rdg encU GU l e n l1 e1 ∧ v = .tuple #[] ∧ post = [(some br, .cells #[.string (bs l1), .int .i64 ((e1 : Nat) : Int)] 169 (0, 0)), (some bx, .cells (cs.setIfInBounds k (.int .u64 (n : Int))) T (0, 0))] := by
 obtain ⟨n, l1, e1, h1⟩ : ∃ a_ l_ e_, rdNum l e = (a_, l_, e_) := ⟨_, _, _, rfl⟩
 refine Yv Try.func94 rfl rfl (fun w0 => ?_)
 show G _ _ [(0, _), (1, _)] _ _
 refine Zi ?_
 refine Zi ?_
 refine Zd (l := [0, 1, 2, 3, 4]) rfl ?_
 refine Za rfl rfl rfl rfl (Zc rfl rfl) ?_
 refine Za rfl rfl rfl rfl (Ze rfl rfl) ?_
 refine Za rfl rfl rfl rfl (Zb (fo := 2) rfl Try.underlying80 rfl i_74 rfl rfl rfl) ?_
 refine Za rfl rfl rfl rfl (Zj rfl rfl (Zf 0 rfl) rfl Try.underlying74 rfl) ?_
 refine Za rfl rfl rfl rfl (V_pneqN rfl Try.underlying74 rfl rfl) ?_
 refine Zg ?_
 refine G_then rfl ?_
 refine Zi ?_
 refine Zd (l := [0, 1, 2, 3, 4, 5, 6, 7]) rfl ?_
 refine Za rfl rfl rfl rfl (Zc rfl rfl) ?_
 refine Za rfl rfl rfl rfl (Zc rfl rfl) ?_
 refine Za rfl rfl rfl rfl (Ze rfl rfl) ?_
 refine Za rfl rfl rfl rfl (Zb (fo := 2) rfl Try.underlying80 rfl i_74 rfl rfl rfl) ?_
 refine Za rfl rfl rfl rfl (Zj rfl rfl (Zf 0 rfl) rfl Try.underlying74 rfl) ?_
 refine Yh (L2 := [_]) rfl rfl rfl rfl rfl rfl Try.call133 ((rd_num br l e (by omega) (by omega)).weaken (fun v post h => by rewrite [h1] at h; exact h)) [0] [] rfl rfl ?_
 rintro v post ⟨rfl, rfl⟩
 show G _ _ _ [_, _] _
 refine Za rfl rfl rfl rfl (Ze rfl rfl) ?_
 refine Xl (l1 := [_]) (L' := [_, _]) rfl rfl rfl rfl (Zq rfl rfl rfl (Zf 1 rfl) (by first | exact of_decide_eq_true rfl | omega | (simp [cOp, cWk, cIv, cHr, cLt, cWt, cIt, cFl, cTn, cCl, cPo, cSt, cDt, cDs]; done) | (simp [cOp, cWk, cIv, cHr, cLt, cWt, cIt, cFl, cTn, cCl, cPo, cSt, cDt, cDs]; omega) | (simp [cOp, cWk, cIv, cHr, cLt, cWt, cIt, cFl, cTn, cCl, cPo, cSt, cDt, cDs] at *; omega)) i_23 rfl rfl) rfl ?_
 refine Zg ?_
 refine Xa (post := [_, _]) Try.func94 rfl Zo [0, 0] rfl ?_
 dsimp only [packed]
 exact ⟨n, l1, e1, rdg_U he h1, rfl, rfl⟩

set_option maxRecDepth 100000 in
set_option maxHeartbeats 1000000 in
theorem cr_flag (b br : Nat) (l : List UInt8) (e : Nat) (hl : l.length ≤ 140737488350000) (he : e ≤ 1000) (bx k : Nat) (cs : Array Value) (T : TypeId) (hk : k < cs.size) :
    Ct Try.prog 95 [.pointer (some ⟨b, 0, none⟩), .pointer (some ⟨bx, k, none⟩)] [(some b, .cells #[.pointer none, .slice none 0 0, .pointer (some ⟨br, 0, none⟩), .bool false] 80 (0, 0))] [(some br, .cells #[.string (bs l), .int .i64 ((e : Nat) : Int)] 169 (0, 0)), (some bx, .cells (cs) T (0, 0))] fun v post => ∃ n l1 e1, Rdg encB (fun _ => True) l e n l1 e1 ∧ v = .tuple #[] ∧ post = [(some br, .cells #[.string (bs l1), .int .i64 ((e1 : Nat) : Int)] 169 (0, 0)), (some bx, .cells (cs.setIfInBounds k (.bool n)) T (0, 0))] := by
 obtain ⟨n, l1, e1, h1⟩ : ∃ a_ l_ e_, rdFlag l e = (a_, l_, e_) := ⟨_, _, _, rfl⟩
 refine Yv Try.func95 rfl rfl (fun w0 => ?_)
 show G _ _ [(0, _), (1, _)] _ _
 refine Zp ?_
 refine Zi ?_
 refine Zd (l := [0, 1, 2, 3, 4, 5]) rfl ?_
 refine Za rfl rfl rfl rfl (Zc rfl rfl) ?_
 refine Za rfl rfl rfl rfl (Ze rfl rfl) ?_
 refine Za rfl rfl rfl rfl (Zb (fo := 2) rfl Try.underlying80 rfl i_74 rfl rfl rfl) ?_
 refine Za rfl rfl rfl rfl (Zj rfl rfl (Zf 0 rfl) rfl Try.underlying74 rfl) ?_
 refine Za rfl rfl rfl rfl (V_pneqN rfl Try.underlying74 rfl rfl) ?_
 refine Za rfl rfl rfl rfl (Zk rfl rfl) ?_
 refine Zg ?_
 refine G_then rfl ?_
 refine Zd (l := [0, 1, 2, 3, 4, 5, 6, 7]) rfl ?_
 refine Za rfl rfl rfl rfl (Zc rfl rfl) ?_
 refine Za rfl rfl rfl rfl (Zc rfl rfl) ?_
 refine Za rfl rfl rfl rfl (Ze rfl rfl) ?_
 refine Za rfl rfl rfl rfl (Zb (fo := 2) rfl Try.underlying80 rfl i_74 rfl rfl rfl) ?_
 refine Za rfl rfl rfl rfl (Zj rfl rfl (Zf 0 rfl) rfl Try.underlying74 rfl) ?_
 refine Yh (L2 := [_]) rfl rfl rfl rfl rfl rfl Try.call141 ((rd_flag br l e (by omega) (by omega)).weaken (fun v post h => by rewrite [h1] at h; exact h)) [0] [] rfl rfl ?_
 rintro v post ⟨rfl, rfl⟩
 show G _ _ _ [_, _] _
 refine Za rfl rfl rfl rfl (Ze rfl rfl) ?_
 refine Xl (l1 := [_]) (L' := [_, _]) rfl rfl rfl rfl (Zq rfl rfl rfl (Zf 1 rfl) (by first | exact of_decide_eq_true rfl | omega | (simp [cOp, cWk, cIv, cHr, cLt, cWt, cIt, cFl, cTn, cCl, cPo, cSt, cDt, cDs]; done) | (simp [cOp, cWk, cIv, cHr, cLt, cWt, cIt, cFl, cTn, cCl, cPo, cSt, cDt, cDs]; omega) | (simp [cOp, cWk, cIv, cHr, cLt, cWt, cIt, cFl, cTn, cCl, cPo, cSt, cDt, cDs] at *; omega)) i_4 rfl rfl) rfl ?_
 refine Zg ?_
 refine Zs ?_
 refine G_end (post := [_, _]) Try.func95 rfl Zo [0, 0] rfl ?_
 dsimp only [packed]
 exact ⟨n, l1, e1, rdg_B he h1, rfl, rfl⟩


theorem put_next {α : Type} (f : α → Value) (cs : Array Value) {ks : List Nat} {xs : List α} {i y : Nat} (hy : ks[i]? = some y) (hn : xs.length = i) (v : α) : putAll f cs (ks.take (i + 1)) (xs ++ [v]) = (putAll f cs (ks.take i) xs).setIfInBounds y (f v) := by
  obtain ⟨hi, rfl⟩ := List.getElem?_eq_some_iff.1 hy
  rw [List.take_succ_eq_append_getElem hi]
  exact putAll_snoc f cs (ks.take i) xs _ v (by simp; omega)

set_option maxRecDepth 100000 in
set_option maxHeartbeats 1000000 in
theorem cr_ints (b br : Nat) (l : List UInt8) (e : Nat) (hl : l.length ≤ 140737488350000) (he : e ≤ 1000) (o1 : Option Nat) (p1 q1 : Nat) (c1 : Array Value) (T1 : TypeId) (f1 : Nat × Nat) (bx : Nat) (cs : Array Value) (T : TypeId) (ks : List Nat) (hs : Sees 1 o1 p1 q1 c1 (ks.map fun y => .pointer (some ⟨bx, y, none⟩)) ks.length) (hk : ∀ y ∈ ks, y < cs.size) :
    Ct Try.prog 96 [.pointer (some ⟨b, 0, none⟩), sv o1 p1 ks.length q1] [(o1, .cells c1 T1 f1), (some b, .cells #[.pointer none, .slice none 0 0, .pointer (some ⟨br, 0, none⟩), .bool false] 80 (0, 0))] [(some br, .cells #[.string (bs l), .int .i64 ((e : Nat) : Int)] 169 (0, 0)), (some bx, .cells (cs) T (0, 0))] fun v post => ∃ xs l1 e1, xs.length = ks.length ∧ Rdg encIs (GIs ks.length) l e xs l1 e1 ∧ v = .tuple #[] ∧ post = [(some br, .cells #[.string (bs l1), .int .i64 ((e1 : Nat) : Int)] 169 (0, 0)), (some bx, .cells (putAll (fun z : Int => .int .i64 z) cs ks xs) T (0, 0))] := by
 have hl1 := hs.le
 have hl2 := hs.max
 refine Yv Try.func96 rfl rfl (fun w0 => ?_)
 show G _ _ [(0, _), (1, _)] _ _
 refine Zi ?_
 refine Zd (l := [0, 1, 2]) rfl ?_
 refine Za rfl rfl rfl rfl (Zc rfl rfl) ?_
 refine Za rfl rfl rfl rfl (Yf rfl rfl Try.underlying241 rfl) ?_
 refine Za rfl rfl rfl rfl (Zc rfl rfl) ?_
 refine Zg ?_
 refine Zp ?_
 refine Yc ?he1 [0, 0] ?hl1 (Xc (X := Nat × List (Int) × List UInt8 × Nat) (fun x_ => match x_ with | ⟨i, xs, l1, e1⟩ => i ≤ ks.length ∧ RdgL encI GI ks.length l e i xs l1 e1) (fun x_ => match x_ with | ⟨i, xs, l1, e1⟩ => ks.length - i) (fun x_ => match x_ with | ⟨i, xs, l1, e1⟩ => [(0, .pointer (some ⟨b, 0, none⟩)), (6, sv o1 p1 ks.length q1), (7, .int .i64 (ks.length : Int)), (8, .int .i64 (i : Int))]) (fun x_ => match x_ with | ⟨i, xs, l1, e1⟩ => [(some br, .cells #[.string (bs l1), .int .i64 ((e1 : Nat) : Int)] 169 (0, 0)), (some bx, .cells (putAll (fun z : Int => .int .i64 z) cs (ks.take i) xs) T (0, 0))]) ?round1 (0, [], l, e) ?h01)
 case he1 => exact (And.intro rfl (And.intro rfl (And.intro rfl (And.intro rfl trivial))))
 case hl1 => exact ⟨_, rfl⟩
 case h01 => exact ⟨Nat.zero_le _, .zero he⟩
 case round1 =>
  intro x_ hJ ih
  try dsimp only at hJ ih
  obtain ⟨i, xs, l1, e1⟩ := x_
  try dsimp only at hJ ih
  obtain ⟨hi, hx⟩ := hJ
  show G _ _ [(0, .pointer (some ⟨b, 0, none⟩)), (6, sv o1 p1 ks.length q1), (7, .int .i64 (ks.length : Int)), (8, .int .i64 (i : Int))] [(some br, .cells #[.string (bs l1), .int .i64 ((e1 : Nat) : Int)] 169 (0, 0)), (some bx, .cells (putAll (fun z : Int => .int .i64 z) cs (ks.take i) xs) T (0, 0))] _
  refine Zi ?_
  refine Zd (l := [0]) rfl ?_
  refine Za rfl rfl rfl rfl (Xh rfl rfl rfl) ?_
  refine Zg ?_
  refine Zi ?_
  refine Yl rfl (fun hc1 => ?_) (fun hc1 => ?_)
  ·
   refine Zu ?_
   refine Zi ?_
   refine Zp ?_
   refine Zi ?_
   obtain ⟨y, hy⟩ := Xv (show i < ks.length by omega)
   obtain ⟨bo1, rfl⟩ := hs.isSome (by omega)
   have hyk := hk y (List.mem_of_getElem? hy)
   have hps := putAll_size (fun z : Int => .int .i64 z) cs (ks.take i) xs
   have hl3 := hx.len
   have he3 := hx.err
   obtain ⟨n, l2, e2, h1⟩ : ∃ a_ l_ e_, rdInt 1099511627776 l1 e1 = (a_, l_, e_) := ⟨_, _, _, rfl⟩
   refine Zd (l := [0, 1, 2]) rfl ?_
   refine Za rfl rfl rfl rfl (Zl (s := 1) rfl Try.underlying241 i_176 rfl rfl rfl rfl (by omega)) ?_
   refine Za rfl rfl rfl rfl (Zj rfl rfl (Zf 0 rfl) (Zr (ptr_at hs hy)) Try.underlying176 rfl) ?_
   refine Za rfl rfl rfl rfl (Zk rfl rfl) ?_
   refine Zg ?_
   refine Zi ?_
   refine Zi ?_
   refine Zd (l := [0, 1, 2, 3, 4]) rfl ?_
   refine Za rfl rfl rfl rfl (Zc rfl rfl) ?_
   refine Za rfl rfl rfl rfl (Ze rfl rfl) ?_
   refine Za rfl rfl rfl rfl (Zb (fo := 2) rfl Try.underlying80 rfl i_74 rfl rfl rfl) ?_
   refine Za rfl rfl rfl rfl (Zj rfl rfl (Zf 1 rfl) rfl Try.underlying74 rfl) ?_
   refine Za rfl rfl rfl rfl (V_pneqN rfl Try.underlying74 rfl rfl) ?_
   refine Zg ?_
   refine G_then rfl ?_
   refine Zi ?_
   refine Zd (l := [0, 1, 2, 3, 4, 5, 6, 7]) rfl ?_
   refine Za rfl rfl rfl rfl (Zc rfl rfl) ?_
   refine Za rfl rfl rfl rfl (Zc rfl rfl) ?_
   refine Za rfl rfl rfl rfl (Ze rfl rfl) ?_
   refine Za rfl rfl rfl rfl (Zb (fo := 2) rfl Try.underlying80 rfl i_74 rfl rfl rfl) ?_
   refine Za rfl rfl rfl rfl (Zj rfl rfl (Zf 1 rfl) rfl Try.underlying74 rfl) ?_
   refine Yh (L2 := [_]) rfl rfl rfl rfl rfl rfl Try.call84 ((rd_int br l1 e1 1099511627776 (by omega) (by omega) (by omega)).weaken (fun v post h => by rewrite [h1] at h; exact h)) [0] [] rfl rfl ?_
   rintro v post ⟨rfl, rfl⟩
   show G _ _ _ [_, _] _
   refine Za rfl rfl rfl rfl (Ze rfl rfl) ?_
   refine Xl (l1 := [_]) (L' := [_, _]) rfl rfl rfl rfl (Zq rfl rfl rfl (Zf 1 rfl) (by first | exact of_decide_eq_true rfl | omega | (simp [cOp, cWk, cIv, cHr, cLt, cWt, cIt, cFl, cTn, cCl, cPo, cSt, cDt, cDs]; done) | (simp [cOp, cWk, cIv, cHr, cLt, cWt, cIt, cFl, cTn, cCl, cPo, cSt, cDt, cDs]; omega) | (simp [cOp, cWk, cIv, cHr, cLt, cWt, cIt, cFl, cTn, cCl, cPo, cSt, cDt, cDs] at *; omega)) i_3 rfl rfl) rfl ?_
   refine Zg ?_
   refine Yx rfl ?_
   refine Zd (l := [0, 1]) rfl ?_
   refine Za rfl rfl rfl rfl ((Yu rfl rfl rfl).int (Zv (by omega))) ?_
   refine Za rfl rfl rfl rfl (Zc rfl rfl) ?_
   refine Zg ?_
   have hnx := put_next (fun z : Int => .int .i64 z) cs hy hx.num (n : Int)
   refine Yc ?_ [0, 0] ?_ (ih (i + 1, xs ++ [(n : Int)], l2, e2) ?_ ?_)
   · (refine (And.intro ?_ (And.intro ?_ (And.intro ?_ (And.intro ?_ trivial)))) <;> first | rfl | exact Zm (by omega) | exact Zm (by simp))
   · exact ⟨_, by rw [← hnx]; rfl⟩
   · exact ⟨by omega, hx.next (rdg_I he3 h1) (by omega)⟩
   · (first | omega | (dsimp only; omega))
  refine Yx rfl ?_
  refine G_end (post := [_, _]) Try.func96 rfl Zo [0, 0] rfl ?_
  dsimp only [packed]
  obtain rfl : i = ks.length := by omega
  have e_ : ks.take ks.length = ks := List.take_length
  rw [e_]
  exact ⟨xs, l1, e1, hx.num, rdg_Is hx, rfl, rfl⟩

set_option maxRecDepth 100000 in
set_option maxHeartbeats 1000000 in
theorem cr_texts (b br : Nat) (l : List UInt8) (e : Nat) (hl : l.length ≤ 140737488350000) (he : e ≤ 1000) (o1 : Option Nat) (p1 q1 : Nat) (c1 : Array Value) (T1 : TypeId) (f1 : Nat × Nat) (bx : Nat) (cs : Array Value) (T : TypeId) (ks : List Nat) (hs : Sees 1 o1 p1 q1 c1 (ks.map fun y => .pointer (some ⟨bx, y, none⟩)) ks.length) (hk : ∀ y ∈ ks, y < cs.size) :
    Ct Try.prog 142 [.pointer (some ⟨b, 0, none⟩), sv o1 p1 ks.length q1] [(o1, .cells c1 T1 f1), (some b, .cells #[.pointer none, .slice none 0 0, .pointer (some ⟨br, 0, none⟩), .bool false] 80 (0, 0))] [(some br, .cells #[.string (bs l), .int .i64 ((e : Nat) : Int)] 169 (0, 0)), (some bx, .cells (cs) T (0, 0))] fun v post => ∃ xs l1 e1, xs.length = ks.length ∧ Rdg encTs (GTs ks.length) l e xs l1 e1 ∧ v = .tuple #[] ∧ post = [(some br, .cells #[.string (bs l1), .int .i64 ((e1 : Nat) : Int)] 169 (0, 0)), (some bx, .cells (putAll (fun z : List UInt8 => .string (bs z)) cs ks xs) T (0, 0))] := by
 have hl1 := hs.le
 have hl2 := hs.max
 refine Yv Try.func142 rfl rfl (fun w0 => ?_)
 show G _ _ [(0, _), (1, _)] _ _
 refine Zi ?_
 refine Zd (l := [0, 1, 2]) rfl ?_
 refine Za rfl rfl rfl rfl (Zc rfl rfl) ?_
 refine Za rfl rfl rfl rfl (Yf rfl rfl Try.underlying278 rfl) ?_
 refine Za rfl rfl rfl rfl (Zc rfl rfl) ?_
 refine Zg ?_
 refine Zp ?_
 refine Yc ?he1 [0, 0] ?hl1 (Xc (X := Nat × List (List UInt8) × List UInt8 × Nat) (fun x_ => match x_ with | ⟨i, xs, l1, e1⟩ => i ≤ ks.length ∧ RdgL text GT ks.length l e i xs l1 e1) (fun x_ => match x_ with | ⟨i, xs, l1, e1⟩ => ks.length - i) (fun x_ => match x_ with | ⟨i, xs, l1, e1⟩ => [(0, .pointer (some ⟨b, 0, none⟩)), (6, sv o1 p1 ks.length q1), (7, .int .i64 (ks.length : Int)), (8, .int .i64 (i : Int))]) (fun x_ => match x_ with | ⟨i, xs, l1, e1⟩ => [(some br, .cells #[.string (bs l1), .int .i64 ((e1 : Nat) : Int)] 169 (0, 0)), (some bx, .cells (putAll (fun z : List UInt8 => .string (bs z)) cs (ks.take i) xs) T (0, 0))]) ?round1 (0, [], l, e) ?h01)
 case he1 => exact (And.intro rfl (And.intro rfl (And.intro rfl (And.intro rfl trivial))))
 case hl1 => exact ⟨_, rfl⟩
 case h01 => exact ⟨Nat.zero_le _, .zero he⟩
 case round1 =>
  intro x_ hJ ih
  try dsimp only at hJ ih
  obtain ⟨i, xs, l1, e1⟩ := x_
  try dsimp only at hJ ih
  obtain ⟨hi, hx⟩ := hJ
  show G _ _ [(0, .pointer (some ⟨b, 0, none⟩)), (6, sv o1 p1 ks.length q1), (7, .int .i64 (ks.length : Int)), (8, .int .i64 (i : Int))] [(some br, .cells #[.string (bs l1), .int .i64 ((e1 : Nat) : Int)] 169 (0, 0)), (some bx, .cells (putAll (fun z : List UInt8 => .string (bs z)) cs (ks.take i) xs) T (0, 0))] _
  refine Zi ?_
  refine Zd (l := [0]) rfl ?_
  refine Za rfl rfl rfl rfl (Xh rfl rfl rfl) ?_
  refine Zg ?_
  refine Zi ?_
  refine Yl rfl (fun hc1 => ?_) (fun hc1 => ?_)
  ·
   refine Zu ?_
   refine Zi ?_
   refine Zp ?_
   refine Zi ?_
   obtain ⟨y, hy⟩ := Xv (show i < ks.length by omega)
   obtain ⟨bo1, rfl⟩ := hs.isSome (by omega)
   have hyk := hk y (List.mem_of_getElem? hy)
   have hps := putAll_size (fun z : List UInt8 => .string (bs z)) cs (ks.take i) xs
   have hl3 := hx.len
   have he3 := hx.err
   obtain ⟨n, l2, e2, h1⟩ : ∃ a_ l_ e_, rdStr 200 l1 e1 = (a_, l_, e_) := ⟨_, _, _, rfl⟩
   refine Zd (l := [0, 1, 2]) rfl ?_
   refine Za rfl rfl rfl rfl (Zl (s := 1) rfl Try.underlying278 i_244 rfl rfl rfl rfl (by omega)) ?_
   refine Za rfl rfl rfl rfl (Zj rfl rfl (Zf 0 rfl) (Zr (ptr_at hs hy)) Try.underlying244 rfl) ?_
   refine Za rfl rfl rfl rfl (Zk rfl rfl) ?_
   refine Zg ?_
   refine Zi ?_
   refine Zi ?_
   refine Zd (l := [0, 1, 2, 3, 4]) rfl ?_
   refine Za rfl rfl rfl rfl (Zc rfl rfl) ?_
   refine Za rfl rfl rfl rfl (Ze rfl rfl) ?_
   refine Za rfl rfl rfl rfl (Zb (fo := 2) rfl Try.underlying80 rfl i_74 rfl rfl rfl) ?_
   refine Za rfl rfl rfl rfl (Zj rfl rfl (Zf 1 rfl) rfl Try.underlying74 rfl) ?_
   refine Za rfl rfl rfl rfl (V_pneqN rfl Try.underlying74 rfl rfl) ?_
   refine Zg ?_
   refine G_then rfl ?_
   refine Zi ?_
   refine Zd (l := [0, 1, 2, 3, 4, 5, 6, 7]) rfl ?_
   refine Za rfl rfl rfl rfl (Zc rfl rfl) ?_
   refine Za rfl rfl rfl rfl (Zc rfl rfl) ?_
   refine Za rfl rfl rfl rfl (Ze rfl rfl) ?_
   refine Za rfl rfl rfl rfl (Zb (fo := 2) rfl Try.underlying80 rfl i_74 rfl rfl rfl) ?_
   refine Za rfl rfl rfl rfl (Zj rfl rfl (Zf 1 rfl) rfl Try.underlying74 rfl) ?_
   refine Yh (L2 := [_]) rfl rfl rfl rfl rfl rfl Try.call134 ((rd_str br l1 e1 200 (by omega) (by omega) (by omega)).weaken (fun v post h => by rewrite [h1] at h; exact h)) [0] [] rfl rfl ?_
   rintro v post ⟨rfl, rfl⟩
   show G _ _ _ [_, _] _
   refine Za rfl rfl rfl rfl (Ze rfl rfl) ?_
   refine Xl (l1 := [_]) (L' := [_, _]) rfl rfl rfl rfl (Zq rfl rfl rfl (Zf 1 rfl) (by first | exact of_decide_eq_true rfl | omega | (simp [cOp, cWk, cIv, cHr, cLt, cWt, cIt, cFl, cTn, cCl, cPo, cSt, cDt, cDs]; done) | (simp [cOp, cWk, cIv, cHr, cLt, cWt, cIt, cFl, cTn, cCl, cPo, cSt, cDt, cDs]; omega) | (simp [cOp, cWk, cIv, cHr, cLt, cWt, cIt, cFl, cTn, cCl, cPo, cSt, cDt, cDs] at *; omega)) i_9 rfl rfl) rfl ?_
   refine Zg ?_
   refine Yx rfl ?_
   refine Zd (l := [0, 1]) rfl ?_
   refine Za rfl rfl rfl rfl ((Yu rfl rfl rfl).int (Zv (by omega))) ?_
   refine Za rfl rfl rfl rfl (Zc rfl rfl) ?_
   refine Zg ?_
   have hnx := put_next (fun z : List UInt8 => .string (bs z)) cs hy hx.num n
   refine Yc ?_ [0, 0] ?_ (ih (i + 1, xs ++ [n], l2, e2) ?_ ?_)
   · (refine (And.intro ?_ (And.intro ?_ (And.intro ?_ (And.intro ?_ trivial)))) <;> first | rfl | exact Zm (by omega) | exact Zm (by simp))
   · exact ⟨_, by rw [← hnx]; rfl⟩
   · exact ⟨by omega, hx.next (rdg_T he3 h1) (by omega)⟩
   · (first | omega | (dsimp only; omega))
  refine Yx rfl ?_
  refine G_end (post := [_, _]) Try.func142 rfl Zo [0, 0] rfl ?_
  dsimp only [packed]
  obtain rfl : i = ks.length := by omega
  have e_ : ks.take ks.length = ks := List.take_length
  rw [e_]
  exact ⟨xs, l1, e1, hx.num, rdg_Ts hx, rfl, rfl⟩

theorem cr_intsL (b br : Nat) (l : List UInt8) (e : Nat) (hl : l.length ≤ 140737488350000) (he : e ≤ 1000) (b2 : Nat) (T2 : TypeId) (bx : Nat) (cs : Array Value) (T : TypeId) (ks : List Nat) (hn : ks.length ≤ 1000) (hk : ∀ y ∈ ks, y < cs.size) :
    Ct Try.prog 96 [.pointer (some ⟨b, 0, none⟩), .slice (some ⟨b2, 0, none⟩) ks.length ks.length] [(some b2, .cells (ks.map fun y => Value.pointer (some ⟨bx, y, none⟩)).toArray T2 (0, 0)), (some b, .cells #[.pointer none, .slice none 0 0, .pointer (some ⟨br, 0, none⟩), .bool false] 80 (0, 0))] [(some br, .cells #[.string (bs l), .int .i64 ((e : Nat) : Int)] 169 (0, 0)), (some bx, .cells (cs) T (0, 0))]
      (fun v post => ∃ xs l1 e1, xs.length = ks.length ∧ Rdg encIs (GIs ks.length) l e xs l1 e1 ∧ v = .tuple #[] ∧ post = [(some br, .cells #[.string (bs l1), .int .i64 ((e1 : Nat) : Int)] 169 (0, 0)), (some bx, .cells (putAll (fun z : Int => .int .i64 z) cs ks xs) T (0, 0))]) :=
  cr_ints b br l e hl he (some b2) 0 ks.length _ T2 (0, 0) bx cs T ks ⟨by simp, Nat.le_refl _, by omega, by rw [Nat.mul_one, List.drop_zero]; exact List.take_of_length_le (by simp), fun h => by cases h⟩ hk
theorem cr_textsL (b br : Nat) (l : List UInt8) (e : Nat) (hl : l.length ≤ 140737488350000) (he : e ≤ 1000) (b2 : Nat) (T2 : TypeId) (bx : Nat) (cs : Array Value) (T : TypeId) (ks : List Nat) (hn : ks.length ≤ 1000) (hk : ∀ y ∈ ks, y < cs.size) :
    Ct Try.prog 142 [.pointer (some ⟨b, 0, none⟩), .slice (some ⟨b2, 0, none⟩) ks.length ks.length] [(some b2, .cells (ks.map fun y => Value.pointer (some ⟨bx, y, none⟩)).toArray T2 (0, 0)), (some b, .cells #[.pointer none, .slice none 0 0, .pointer (some ⟨br, 0, none⟩), .bool false] 80 (0, 0))] [(some br, .cells #[.string (bs l), .int .i64 ((e : Nat) : Int)] 169 (0, 0)), (some bx, .cells (cs) T (0, 0))]
      (fun v post => ∃ xs l1 e1, xs.length = ks.length ∧ Rdg encTs (GTs ks.length) l e xs l1 e1 ∧ v = .tuple #[] ∧ post = [(some br, .cells #[.string (bs l1), .int .i64 ((e1 : Nat) : Int)] 169 (0, 0)), (some bx, .cells (putAll (fun z : List UInt8 => .string (bs z)) cs ks xs) T (0, 0))]) :=
  cr_texts b br l e hl he (some b2) 0 ks.length _ T2 (0, 0) bx cs T ks ⟨by simp, Nat.le_refl _, by omega, by rw [Nat.mul_one, List.drop_zero]; exact List.take_of_length_le (by simp), fun h => by cases h⟩ hk

end
end Go.Proofs.Ytjnaeoelnmhjfaa

set_option linter.unusedSimpArgs false
set_option linter.unusedVariables false
namespace Go.Proofs.Ytjnaeoelnmhjfaa
open Go Go.RowKit

section
theorem cIt_sz (x : It) : (cIt x).toArray.size = 2 := rfl
set_option maxRecDepth 100000 in
set_option maxHeartbeats 1000000 in
theorem cr_item (b br : Nat) (l : List UInt8) (e : Nat) (hl : l.length ≤ 140737488350000) (he : e ≤ 1000) (bx : Nat) (x : It) (T : TypeId) :
    Ct Try.prog 179 [.pointer (some ⟨b, 0, none⟩), .pointer (some ⟨bx, 0, none⟩)] [(some b, .cells #[.pointer none, .slice none 0 0, .pointer (some ⟨br, 0, none⟩), .bool false] 80 (0, 0))] [(some br, .cells #[.string (bs l), .int .i64 ((e : Nat) : Int)] 169 (0, 0)), (some bx, .cells ((cIt x).toArray) T (0, 0))] fun v post => ∃ m l1 e1, Rdg encIt GIt l e m l1 e1 ∧ v = .tuple #[] ∧ post = [(some br, .cells #[.string (bs l1), .int .i64 ((e1 : Nat) : Int)] 169 (0, 0)), (some bx, .cells ((cIt m).toArray) T (0, 0))] := by
 refine Yv Try.func179 rfl rfl (fun w0 => ?_)
 show G _ _ [(0, _), (1, _)] _ _
 refine Ya (Lq := []) (isq := []) (m := 9) Ym rfl rfl ?_
 refine Zh 0 rfl rfl rfl rfl (by kernel_rfl) (fun _ _ => Zc rfl rfl) ?_
 refine Zh 1 rfl rfl rfl rfl (by kernel_rfl) (fun _ _ => Zc rfl rfl) ?_
 refine Zh 2 rfl rfl rfl rfl (by kernel_rfl) (fun _ _ => Ze rfl rfl) ?_
 refine Zh 3 rfl rfl rfl rfl (by kernel_rfl) (fun _ _ => Zb (fo := 0) rfl Try.underlying262 rfl i_3 rfl rfl rfl) ?_
 refine Zh 4 rfl rfl rfl rfl (by kernel_rfl) (fun _ _ => Zc rfl rfl) ?_
 refine Zh 5 rfl rfl rfl rfl (by kernel_rfl) (fun _ _ => Ze rfl rfl) ?_
 refine Zh 6 rfl rfl rfl rfl (by kernel_rfl) (fun _ _ => Zb (fo := 1) rfl Try.underlying262 rfl i_3 rfl rfl rfl) ?_
 refine GH_all [7] (by kernel_rfl) (by decide) ?_
 refine (And.intro ?_ trivial)
 ·
  refine Yz rfl rfl rfl rfl (Zn (s := 1) (cs := [_, _]) rfl Try.underlying241 i_176 rfl rfl rfl rfl rfl rfl rfl rfl rfl) [] (fun _ => ⟨_, rfl⟩) (fun b11 => ?_)
  refine GH_all [8] (by kernel_rfl) (by decide) ?_
  refine (And.intro ?_ trivial)
  ·
   refine Zz (L2 := [_]) rfl rfl rfl rfl rfl rfl Try.call96 (cr_intsL b br l e (by omega) (by omega) _ _ bx (cIt x).toArray T [0, 1] (by simp) (by intro y hy; simp only [cIt_sz]; simp only [List.mem_cons, List.not_mem_nil, or_false] at hy; omega)) [1, 1] [1, 0] rfl rfl [] (by rintro v post ⟨xs0, l1, e1, hxs, r0, rfl, rfl⟩; exact ⟨_, rfl⟩) ?_
   rintro v post ⟨xs0, l1, e1, hxs, r0, rfl, rfl⟩
   show GH _ _ _ _ _ _ _ [_, _, _] _
   obtain ⟨a0, a1, rfl⟩ := len_2 hxs
   rw [show putAll (fun z : Int => Value.int .i64 z) (cIt x).toArray [0, 1] [a0, a1] = (cIt ⟨a0, a1⟩).toArray by unfold cIt; simp only [putAll_cons, putAll_nil, List.set_cons_succ, List.set_cons_zero]]
   have hl1_ := r0.len
   have he1_ := r0.err
   refine Zw (by kernel_rfl) ?_
   refine G_end (post := [_, _]) Try.func179 rfl Zo [0, 0] rfl ?_
   dsimp only [packed]
   exact ⟨⟨a0, a1⟩, l1, e1, rdgIt r0, rfl, rfl⟩

theorem cIv_sz (x : Iv) : (cIv x).toArray.size = 5 := rfl
set_option maxRecDepth 100000 in
set_option maxHeartbeats 1000000 in
theorem cr_inv (b br : Nat) (l : List UInt8) (e : Nat) (hl : l.length ≤ 140737488350000) (he : e ≤ 1000) (bx : Nat) (x : Iv) (T : TypeId) :
    Ct Try.prog 102 [.pointer (some ⟨b, 0, none⟩), .pointer (some ⟨bx, 0, none⟩)] [(some b, .cells #[.pointer none, .slice none 0 0, .pointer (some ⟨br, 0, none⟩), .bool false] 80 (0, 0))] [(some br, .cells #[.string (bs l), .int .i64 ((e : Nat) : Int)] 169 (0, 0)), (some bx, .cells ((cIv x).toArray) T (0, 0))] fun v post => ∃ m l1 e1, Rdg encIv GIv l e m l1 e1 ∧ v = .tuple #[] ∧ post = [(some br, .cells #[.string (bs l1), .int .i64 ((e1 : Nat) : Int)] 169 (0, 0)), (some bx, .cells ((cIv m).toArray) T (0, 0))] := by
 refine Yv Try.func102 rfl rfl (fun w0 => ?_)
 show G _ _ [(0, _), (1, _)] _ _
 refine Zi ?_
 refine Ya (Lq := []) (isq := []) (m := 15) Ym rfl rfl ?_
 refine Zh 0 rfl rfl rfl rfl (by kernel_rfl) (fun _ _ => Zc rfl rfl) ?_
 refine Zh 1 rfl rfl rfl rfl (by kernel_rfl) (fun _ _ => Zc rfl rfl) ?_
 refine Zh 2 rfl rfl rfl rfl (by kernel_rfl) (fun _ _ => Ze rfl rfl) ?_
 refine Zh 3 rfl rfl rfl rfl (by kernel_rfl) (fun _ _ => Zb (fo := 0) rfl Try.underlying95 rfl i_3 rfl rfl rfl) ?_
 refine Zh 4 rfl rfl rfl rfl (by kernel_rfl) (fun _ _ => Zc rfl rfl) ?_
 refine Zh 5 rfl rfl rfl rfl (by kernel_rfl) (fun _ _ => Ze rfl rfl) ?_
 refine Zh 6 rfl rfl rfl rfl (by kernel_rfl) (fun _ _ => Zb (fo := 1) rfl Try.underlying95 rfl i_3 rfl rfl rfl) ?_
 refine Zh 7 rfl rfl rfl rfl (by kernel_rfl) (fun _ _ => Zc rfl rfl) ?_
 refine Zh 8 rfl rfl rfl rfl (by kernel_rfl) (fun _ _ => Ze rfl rfl) ?_
 refine Zh 9 rfl rfl rfl rfl (by kernel_rfl) (fun _ _ => Zb (fo := 3) rfl Try.underlying95 rfl i_3 rfl rfl rfl) ?_
 refine Zh 10 rfl rfl rfl rfl (by kernel_rfl) (fun _ _ => Zc rfl rfl) ?_
 refine Zh 11 rfl rfl rfl rfl (by kernel_rfl) (fun _ _ => Ze rfl rfl) ?_
 refine Zh 12 rfl rfl rfl rfl (by kernel_rfl) (fun _ _ => Zb (fo := 4) rfl Try.underlying95 rfl i_3 rfl rfl rfl) ?_
 refine GH_all [13] (by kernel_rfl) (by decide) ?_
 refine (And.intro ?_ trivial)
 ·
  refine Yz rfl rfl rfl rfl (Zn (s := 1) (cs := [_, _, _, _]) rfl Try.underlying241 i_176 rfl rfl rfl rfl rfl rfl rfl rfl rfl) [] (fun _ => ⟨_, rfl⟩) (fun b17 => ?_)
  refine GH_all [14] (by kernel_rfl) (by decide) ?_
  refine (And.intro ?_ trivial)
  ·
   refine Zz (L2 := [_]) rfl rfl rfl rfl rfl rfl Try.call96 (cr_intsL b br l e (by omega) (by omega) _ _ bx (cIv x).toArray T [0, 1, 3, 4] (by simp) (by intro y hy; simp only [cIv_sz]; simp only [List.mem_cons, List.not_mem_nil, or_false] at hy; omega)) [1, 1] [1, 0] rfl rfl [] (by rintro v post ⟨xs0, l1, e1, hxs, r0, rfl, rfl⟩; exact ⟨_, rfl⟩) ?_
   rintro v post ⟨xs0, l1, e1, hxs, r0, rfl, rfl⟩
   show GH _ _ _ _ _ _ _ [_, _, _] _
   obtain ⟨a0, a1, a3, a4, rfl⟩ := len_4 hxs
   rw [show putAll (fun z : Int => Value.int .i64 z) (cIv x).toArray [0, 1, 3, 4] [a0, a1, a3, a4] = (cIv ⟨a0, a1, x.v2, a3, a4⟩).toArray by unfold cIv; simp only [putAll_cons, putAll_nil, List.set_cons_succ, List.set_cons_zero]]
   have hl1_ := r0.len
   have he1_ := r0.err
   refine Zw (by kernel_rfl) ?_
   refine Zd (l := [0, 1, 2, 3, 4, 5]) rfl ?_
   refine Za rfl rfl rfl rfl (Zc rfl rfl) ?_
   refine Za rfl rfl rfl rfl (Zc rfl rfl) ?_
   refine Za rfl rfl rfl rfl (Ze rfl rfl) ?_
   refine Za rfl rfl rfl rfl (Zb (fo := 2) rfl Try.underlying95 rfl i_9 rfl rfl rfl) ?_
   refine Yr rfl rfl rfl rfl (Zn (s := 1) (cs := [_]) rfl Try.underlying278 i_244 rfl rfl rfl rfl rfl rfl rfl rfl rfl) (fun b23 => ?_)
   refine Yh (L2 := [_, _]) rfl rfl rfl rfl rfl rfl Try.call142 (cr_textsL b br l1 e1 (by omega) (by omega) _ _ bx (cIv ⟨a0, a1, x.v2, a3, a4⟩).toArray T [2] (by simp) (by intro y hy; simp only [cIv_sz]; simp only [List.mem_cons, List.not_mem_nil, or_false] at hy; omega)) [1, 1] [1, 0] rfl rfl ?_
   rintro v post ⟨xs1, l2, e2, hxs, r1, rfl, rfl⟩
   show G _ _ _ [_, _, _, _] _
   obtain ⟨a2, rfl⟩ := len_1 hxs
   rw [show putAll (fun z : List UInt8 => Value.string (bs z)) (cIv ⟨a0, a1, x.v2, a3, a4⟩).toArray [2] [a2] = (cIv ⟨a0, a1, a2, a3, a4⟩).toArray by unfold cIv; simp only [putAll_cons, putAll_nil, List.set_cons_succ, List.set_cons_zero]]
   have hl2_ := r1.len
   have he2_ := r1.err
   refine Zg ?_
   refine G_end (post := [_, _]) Try.func102 rfl Zo [0, 0] rfl ?_
   dsimp only [packed]
   exact ⟨⟨a0, a1, a2, a3, a4⟩, l2, e2, rdgIv r0 r1, rfl, rfl⟩

theorem cLt_sz (x : Lt) : (cLt x).toArray.size = 6 := rfl
set_option maxRecDepth 100000 in
set_option maxHeartbeats 1000000 in
theorem cr_letter (b br : Nat) (l : List UInt8) (e : Nat) (hl : l.length ≤ 140737488350000) (he : e ≤ 1000) (bx : Nat) (x : Lt) (T : TypeId) :
    Ct Try.prog 108 [.pointer (some ⟨b, 0, none⟩), .pointer (some ⟨bx, 0, none⟩)] [(some b, .cells #[.pointer none, .slice none 0 0, .pointer (some ⟨br, 0, none⟩), .bool false] 80 (0, 0))] [(some br, .cells #[.string (bs l), .int .i64 ((e : Nat) : Int)] 169 (0, 0)), (some bx, .cells ((cLt x).toArray) T (0, 0))] fun v post => ∃ m l1 e1, Rdg encLt GLt l e m l1 e1 ∧ v = .tuple #[] ∧ post = [(some br, .cells #[.string (bs l1), .int .i64 ((e1 : Nat) : Int)] 169 (0, 0)), (some bx, .cells ((cLt m).toArray) T (0, 0))] := by
 refine Yv Try.func108 rfl rfl (fun w0 => ?_)
 show G _ _ [(0, _), (1, _)] _ _
 refine Zi ?_
 refine Ya (Lq := []) (isq := []) (m := 15) Ym rfl rfl ?_
 refine Zh 0 rfl rfl rfl rfl (by kernel_rfl) (fun _ _ => Zc rfl rfl) ?_
 refine Zh 1 rfl rfl rfl rfl (by kernel_rfl) (fun _ _ => Zc rfl rfl) ?_
 refine Zh 2 rfl rfl rfl rfl (by kernel_rfl) (fun _ _ => Ze rfl rfl) ?_
 refine Zh 3 rfl rfl rfl rfl (by kernel_rfl) (fun _ _ => Zb (fo := 0) rfl Try.underlying143 rfl i_3 rfl rfl rfl) ?_
 refine Zh 4 rfl rfl rfl rfl (by kernel_rfl) (fun _ _ => Zc rfl rfl) ?_
 refine Zh 5 rfl rfl rfl rfl (by kernel_rfl) (fun _ _ => Ze rfl rfl) ?_
 refine Zh 6 rfl rfl rfl rfl (by kernel_rfl) (fun _ _ => Zb (fo := 1) rfl Try.underlying143 rfl i_3 rfl rfl rfl) ?_
 refine Zh 7 rfl rfl rfl rfl (by kernel_rfl) (fun _ _ => Zc rfl rfl) ?_
 refine Zh 8 rfl rfl rfl rfl (by kernel_rfl) (fun _ _ => Ze rfl rfl) ?_
 refine Zh 9 rfl rfl rfl rfl (by kernel_rfl) (fun _ _ => Zb (fo := 2) rfl Try.underlying143 rfl i_3 rfl rfl rfl) ?_
 refine Zh 10 rfl rfl rfl rfl (by kernel_rfl) (fun _ _ => Zc rfl rfl) ?_
 refine Zh 11 rfl rfl rfl rfl (by kernel_rfl) (fun _ _ => Ze rfl rfl) ?_
 refine Zh 12 rfl rfl rfl rfl (by kernel_rfl) (fun _ _ => Zb (fo := 3) rfl Try.underlying143 rfl i_3 rfl rfl rfl) ?_
 refine GH_all [13] (by kernel_rfl) (by decide) ?_
 refine (And.intro ?_ trivial)
 ·
  refine Yz rfl rfl rfl rfl (Zn (s := 1) (cs := [_, _, _, _]) rfl Try.underlying241 i_176 rfl rfl rfl rfl rfl rfl rfl rfl rfl) [] (fun _ => ⟨_, rfl⟩) (fun b17 => ?_)
  refine GH_all [14] (by kernel_rfl) (by decide) ?_
  refine (And.intro ?_ trivial)
  ·
   refine Zz (L2 := [_]) rfl rfl rfl rfl rfl rfl Try.call96 (cr_intsL b br l e (by omega) (by omega) _ _ bx (cLt x).toArray T [0, 1, 2, 3] (by simp) (by intro y hy; simp only [cLt_sz]; simp only [List.mem_cons, List.not_mem_nil, or_false] at hy; omega)) [1, 1] [1, 0] rfl rfl [] (by rintro v post ⟨xs0, l1, e1, hxs, r0, rfl, rfl⟩; exact ⟨_, rfl⟩) ?_
   rintro v post ⟨xs0, l1, e1, hxs, r0, rfl, rfl⟩
   show GH _ _ _ _ _ _ _ [_, _, _] _
   obtain ⟨a0, a1, a2, a3, rfl⟩ := len_4 hxs
   rw [show putAll (fun z : Int => Value.int .i64 z) (cLt x).toArray [0, 1, 2, 3] [a0, a1, a2, a3] = (cLt ⟨a0, a1, a2, a3, x.v4, x.v5⟩).toArray by unfold cLt; simp only [putAll_cons, putAll_nil, List.set_cons_succ, List.set_cons_zero]]
   have hl1_ := r0.len
   have he1_ := r0.err
   refine Zw (by kernel_rfl) ?_
   refine Zi ?_
   refine Zd (l := [0, 1, 2, 3, 4, 5]) rfl ?_
   refine Za rfl rfl rfl rfl (Zc rfl rfl) ?_
   refine Za rfl rfl rfl rfl (Zc rfl rfl) ?_
   refine Za rfl rfl rfl rfl (Ze rfl rfl) ?_
   refine Za rfl rfl rfl rfl (Zb (fo := 4) rfl Try.underlying143 rfl i_9 rfl rfl rfl) ?_
   refine Yr rfl rfl rfl rfl (Zn (s := 1) (cs := [_]) rfl Try.underlying278 i_244 rfl rfl rfl rfl rfl rfl rfl rfl rfl) (fun b23 => ?_)
   refine Yh (L2 := [_, _]) rfl rfl rfl rfl rfl rfl Try.call142 (cr_textsL b br l1 e1 (by omega) (by omega) _ _ bx (cLt ⟨a0, a1, a2, a3, x.v4, x.v5⟩).toArray T [4] (by simp) (by intro y hy; simp only [cLt_sz]; simp only [List.mem_cons, List.not_mem_nil, or_false] at hy; omega)) [1, 1] [1, 0] rfl rfl ?_
   rintro v post ⟨xs1, l2, e2, hxs, r1, rfl, rfl⟩
   show G _ _ _ [_, _, _, _] _
   obtain ⟨a4, rfl⟩ := len_1 hxs
   rw [show putAll (fun z : List UInt8 => Value.string (bs z)) (cLt ⟨a0, a1, a2, a3, x.v4, x.v5⟩).toArray [4] [a4] = (cLt ⟨a0, a1, a2, a3, a4, x.v5⟩).toArray by unfold cLt; simp only [putAll_cons, putAll_nil, List.set_cons_succ, List.set_cons_zero]]
   have hl2_ := r1.len
   have he2_ := r1.err
   refine Zg ?_
   refine Zd (l := [0, 1, 2, 3, 4]) rfl ?_
   refine Za rfl rfl rfl rfl (Zc rfl rfl) ?_
   refine Za rfl rfl rfl rfl (Zc rfl rfl) ?_
   refine Za rfl rfl rfl rfl (Ze rfl rfl) ?_
   refine Za rfl rfl rfl rfl (Zb (fo := 5) rfl Try.underlying143 rfl i_23 rfl rfl rfl) ?_
   refine Yh (L2 := [_, _]) rfl rfl rfl rfl rfl rfl Try.call94 (cr_num b br l2 e2 (by omega) (by omega) bx 5 (cLt ⟨a0, a1, a2, a3, a4, x.v5⟩).toArray T (by rw [cLt_sz]; omega)) [0, 0] [0] rfl rfl ?_
   rintro v post ⟨a5, l3, e3, r2, rfl, rfl⟩
   show G _ _ _ [_, _, _, _] _
   rw [show ((cLt ⟨a0, a1, a2, a3, a4, x.v5⟩).toArray).setIfInBounds 5 (.int .u64 (a5 : Int)) = (cLt ⟨a0, a1, a2, a3, a4, a5⟩).toArray from rfl]
   have hl3_ := r2.len
   have he3_ := r2.err
   refine Zg ?_
   refine G_end (post := [_, _]) Try.func108 rfl Zo [0, 0] rfl ?_
   dsimp only [packed]
   exact ⟨⟨a0, a1, a2, a3, a4, a5⟩, l3, e3, rdgLt r0 r1 r2, rfl, rfl⟩

theorem cWt_sz (x : Wt) : (cWt x).toArray.size = 2 := rfl
set_option maxRecDepth 100000 in
set_option maxHeartbeats 1000000 in
theorem cr_watcher (b br : Nat) (l : List UInt8) (e : Nat) (hl : l.length ≤ 140737488350000) (he : e ≤ 1000) (bx : Nat) (x : Wt) (T : TypeId) :
    Ct Try.prog 110 [.pointer (some ⟨b, 0, none⟩), .pointer (some ⟨bx, 0, none⟩)] [(some b, .cells #[.pointer none, .slice none 0 0, .pointer (some ⟨br, 0, none⟩), .bool false] 80 (0, 0))] [(some br, .cells #[.string (bs l), .int .i64 ((e : Nat) : Int)] 169 (0, 0)), (some bx, .cells ((cWt x).toArray) T (0, 0))] fun v post => ∃ m l1 e1, Rdg encWt GWt l e m l1 e1 ∧ v = .tuple #[] ∧ post = [(some br, .cells #[.string (bs l1), .int .i64 ((e1 : Nat) : Int)] 169 (0, 0)), (some bx, .cells ((cWt m).toArray) T (0, 0))] := by
 refine Yv Try.func110 rfl rfl (fun w0 => ?_)
 show G _ _ [(0, _), (1, _)] _ _
 refine Zi ?_
 refine Zd (l := [0, 1, 2, 3, 4, 5]) rfl ?_
 refine Za rfl rfl rfl rfl (Zc rfl rfl) ?_
 refine Za rfl rfl rfl rfl (Zc rfl rfl) ?_
 refine Za rfl rfl rfl rfl (Ze rfl rfl) ?_
 refine Za rfl rfl rfl rfl (Zb (fo := 0) rfl Try.underlying145 rfl i_9 rfl rfl rfl) ?_
 refine Yr rfl rfl rfl rfl (Zn (s := 1) (cs := [_]) rfl Try.underlying278 i_244 rfl rfl rfl rfl rfl rfl rfl rfl rfl) (fun b8 => ?_)
 refine Yh (L2 := [_]) rfl rfl rfl rfl rfl rfl Try.call142 (cr_textsL b br l e (by omega) (by omega) _ _ bx (cWt x).toArray T [0] (by simp) (by intro y hy; simp only [cWt_sz]; simp only [List.mem_cons, List.not_mem_nil, or_false] at hy; omega)) [1, 1] [1, 0] rfl rfl ?_
 rintro v post ⟨xs0, l1, e1, hxs, r0, rfl, rfl⟩
 show G _ _ _ [_, _, _] _
 obtain ⟨a0, rfl⟩ := len_1 hxs
 rw [show putAll (fun z : List UInt8 => Value.string (bs z)) (cWt x).toArray [0] [a0] = (cWt ⟨a0, x.v1⟩).toArray by unfold cWt; simp only [putAll_cons, putAll_nil, List.set_cons_succ, List.set_cons_zero]]
 have hl1_ := r0.len
 have he1_ := r0.err
 refine Zg ?_
 refine Zd (l := [0, 1, 2, 3, 4, 5]) rfl ?_
 refine Za rfl rfl rfl rfl (Zc rfl rfl) ?_
 refine Za rfl rfl rfl rfl (Zc rfl rfl) ?_
 refine Za rfl rfl rfl rfl (Ze rfl rfl) ?_
 refine Za rfl rfl rfl rfl (Zb (fo := 1) rfl Try.underlying145 rfl i_3 rfl rfl rfl) ?_
 refine Yr rfl rfl rfl rfl (Zn (s := 1) (cs := [_]) rfl Try.underlying241 i_176 rfl rfl rfl rfl rfl rfl rfl rfl rfl) (fun b14 => ?_)
 refine Yh (L2 := [_, _]) rfl rfl rfl rfl rfl rfl Try.call96 (cr_intsL b br l1 e1 (by omega) (by omega) _ _ bx (cWt ⟨a0, x.v1⟩).toArray T [1] (by simp) (by intro y hy; simp only [cWt_sz]; simp only [List.mem_cons, List.not_mem_nil, or_false] at hy; omega)) [1, 1] [1, 0] rfl rfl ?_
 rintro v post ⟨xs1, l2, e2, hxs, r1, rfl, rfl⟩
 show G _ _ _ [_, _, _, _] _
 obtain ⟨a1, rfl⟩ := len_1 hxs
 rw [show putAll (fun z : Int => Value.int .i64 z) (cWt ⟨a0, x.v1⟩).toArray [1] [a1] = (cWt ⟨a0, a1⟩).toArray by unfold cWt; simp only [putAll_cons, putAll_nil, List.set_cons_succ, List.set_cons_zero]]
 have hl2_ := r1.len
 have he2_ := r1.err
 refine Zg ?_
 refine G_end (post := [_, _]) Try.func110 rfl Zo [0, 0] rfl ?_
 dsimp only [packed]
 exact ⟨⟨a0, a1⟩, l2, e2, rdgWt r0 r1, rfl, rfl⟩

theorem cWk_sz (x : Wk) : (cWk x).toArray.size = 7 := rfl
set_option maxRecDepth 100000 in
set_option maxHeartbeats 1000000 in
theorem cr_worker (b br : Nat) (l : List UInt8) (e : Nat) (hl : l.length ≤ 140737488350000) (he : e ≤ 1000) (bx : Nat) (x : Wk) (T : TypeId) :
    Ct Try.prog 100 [.pointer (some ⟨b, 0, none⟩), .pointer (some ⟨bx, 0, none⟩)] [(some b, .cells #[.pointer none, .slice none 0 0, .pointer (some ⟨br, 0, none⟩), .bool false] 80 (0, 0))] [(some br, .cells #[.string (bs l), .int .i64 ((e : Nat) : Int)] 169 (0, 0)), (some bx, .cells ((cWk x).toArray) T (0, 0))] fun v post => ∃ m l1 e1, Rdg encWk GWk l e m l1 e1 ∧ v = .tuple #[] ∧ post = [(some br, .cells #[.string (bs l1), .int .i64 ((e1 : Nat) : Int)] 169 (0, 0)), (some bx, .cells ((cWk m).toArray) T (0, 0))] := by
 refine Yv Try.func100 rfl rfl (fun w0 => ?_)
 show G _ _ [(0, _), (1, _)] _ _
 refine Zi ?_
 refine Ya (Lq := []) (isq := []) (m := 12) Ym rfl rfl ?_
 refine Zh 0 rfl rfl rfl rfl (by kernel_rfl) (fun _ _ => Zc rfl rfl) ?_
 refine Zh 1 rfl rfl rfl rfl (by kernel_rfl) (fun _ _ => Zc rfl rfl) ?_
 refine Zh 2 rfl rfl rfl rfl (by kernel_rfl) (fun _ _ => Ze rfl rfl) ?_
 refine Zh 3 rfl rfl rfl rfl (by kernel_rfl) (fun _ _ => Zb (fo := 0) rfl Try.underlying92 rfl i_3 rfl rfl rfl) ?_
 refine Zh 4 rfl rfl rfl rfl (by kernel_rfl) (fun _ _ => Zc rfl rfl) ?_
 refine Zh 5 rfl rfl rfl rfl (by kernel_rfl) (fun _ _ => Ze rfl rfl) ?_
 refine Zh 6 rfl rfl rfl rfl (by kernel_rfl) (fun _ _ => Zb (fo := 1) rfl Try.underlying92 rfl i_3 rfl rfl rfl) ?_
 refine Zh 7 rfl rfl rfl rfl (by kernel_rfl) (fun _ _ => Zc rfl rfl) ?_
 refine Zh 8 rfl rfl rfl rfl (by kernel_rfl) (fun _ _ => Ze rfl rfl) ?_
 refine Zh 9 rfl rfl rfl rfl (by kernel_rfl) (fun _ _ => Zb (fo := 2) rfl Try.underlying92 rfl i_3 rfl rfl rfl) ?_
 refine GH_all [10] (by kernel_rfl) (by decide) ?_
 refine (And.intro ?_ trivial)
 ·
  refine Yz rfl rfl rfl rfl (Zn (s := 1) (cs := [_, _, _]) rfl Try.underlying241 i_176 rfl rfl rfl rfl rfl rfl rfl rfl rfl) [] (fun _ => ⟨_, rfl⟩) (fun b14 => ?_)
  refine GH_all [11] (by kernel_rfl) (by decide) ?_
  refine (And.intro ?_ trivial)
  ·
   refine Zz (L2 := [_]) rfl rfl rfl rfl rfl rfl Try.call96 (cr_intsL b br l e (by omega) (by omega) _ _ bx (cWk x).toArray T [0, 1, 2] (by simp) (by intro y hy; simp only [cWk_sz]; simp only [List.mem_cons, List.not_mem_nil, or_false] at hy; omega)) [1, 1] [1, 0] rfl rfl [] (by rintro v post ⟨xs0, l1, e1, hxs, r0, rfl, rfl⟩; exact ⟨_, rfl⟩) ?_
   rintro v post ⟨xs0, l1, e1, hxs, r0, rfl, rfl⟩
   show GH _ _ _ _ _ _ _ [_, _, _] _
   obtain ⟨a0, a1, a2, rfl⟩ := len_3 hxs
   rw [show putAll (fun z : Int => Value.int .i64 z) (cWk x).toArray [0, 1, 2] [a0, a1, a2] = (cWk ⟨a0, a1, a2, x.v3, x.v4, x.v5, x.v6⟩).toArray by unfold cWk; simp only [putAll_cons, putAll_nil, List.set_cons_succ, List.set_cons_zero]]
   have hl1_ := r0.len
   have he1_ := r0.err
   refine Zw (by kernel_rfl) ?_
   refine Zi ?_
   refine Ya (Lq := []) (isq := []) (m := 9) Ym rfl rfl ?_
   refine Zh 0 rfl rfl rfl rfl (by kernel_rfl) (fun _ _ => Zc rfl rfl) ?_
   refine Zh 1 rfl rfl rfl rfl (by kernel_rfl) (fun _ _ => Zc rfl rfl) ?_
   refine Zh 2 rfl rfl rfl rfl (by kernel_rfl) (fun _ _ => Ze rfl rfl) ?_
   refine Zh 3 rfl rfl rfl rfl (by kernel_rfl) (fun _ _ => Zb (fo := 3) rfl Try.underlying92 rfl i_9 rfl rfl rfl) ?_
   refine Zh 4 rfl rfl rfl rfl (by kernel_rfl) (fun _ _ => Zc rfl rfl) ?_
   refine Zh 5 rfl rfl rfl rfl (by kernel_rfl) (fun _ _ => Ze rfl rfl) ?_
   refine Zh 6 rfl rfl rfl rfl (by kernel_rfl) (fun _ _ => Zb (fo := 4) rfl Try.underlying92 rfl i_9 rfl rfl rfl) ?_
   refine GH_all [7] (by kernel_rfl) (by decide) ?_
   refine (And.intro ?_ trivial)
   ·
    refine Yz rfl rfl rfl rfl (Zn (s := 1) (cs := [_, _]) rfl Try.underlying278 i_244 rfl rfl rfl rfl rfl rfl rfl rfl rfl) [] (fun _ => ⟨_, rfl⟩) (fun b23 => ?_)
    refine GH_all [8] (by kernel_rfl) (by decide) ?_
    refine (And.intro ?_ trivial)
    ·
     refine Zz (L2 := [_, _]) rfl rfl rfl rfl rfl rfl Try.call142 (cr_textsL b br l1 e1 (by omega) (by omega) _ _ bx (cWk ⟨a0, a1, a2, x.v3, x.v4, x.v5, x.v6⟩).toArray T [3, 4] (by simp) (by intro y hy; simp only [cWk_sz]; simp only [List.mem_cons, List.not_mem_nil, or_false] at hy; omega)) [1, 1] [1, 0] rfl rfl [] (by rintro v post ⟨xs1, l2, e2, hxs, r1, rfl, rfl⟩; exact ⟨_, rfl⟩) ?_
     rintro v post ⟨xs1, l2, e2, hxs, r1, rfl, rfl⟩
     show GH _ _ _ _ _ _ _ [_, _, _, _] _
     obtain ⟨a3, a4, rfl⟩ := len_2 hxs
     rw [show putAll (fun z : List UInt8 => Value.string (bs z)) (cWk ⟨a0, a1, a2, x.v3, x.v4, x.v5, x.v6⟩).toArray [3, 4] [a3, a4] = (cWk ⟨a0, a1, a2, a3, a4, x.v5, x.v6⟩).toArray by unfold cWk; simp only [putAll_cons, putAll_nil, List.set_cons_succ, List.set_cons_zero]]
     have hl2_ := r1.len
     have he2_ := r1.err
     refine Zw (by kernel_rfl) ?_
     refine Zi ?_
     refine Zd (l := [0, 1, 2, 3, 4]) rfl ?_
     refine Za rfl rfl rfl rfl (Zc rfl rfl) ?_
     refine Za rfl rfl rfl rfl (Zc rfl rfl) ?_
     refine Za rfl rfl rfl rfl (Ze rfl rfl) ?_
     refine Za rfl rfl rfl rfl (Zb (fo := 5) rfl Try.underlying92 rfl i_4 rfl rfl rfl) ?_
     refine Yh (L2 := [_, _]) rfl rfl rfl rfl rfl rfl Try.call95 (cr_flag b br l2 e2 (by omega) (by omega) bx 5 (cWk ⟨a0, a1, a2, a3, a4, x.v5, x.v6⟩).toArray T (by rw [cWk_sz]; omega)) [0, 0] [0] rfl rfl ?_
     rintro v post ⟨a5, l3, e3, r2, rfl, rfl⟩
     show G _ _ _ [_, _, _, _] _
     rw [show ((cWk ⟨a0, a1, a2, a3, a4, x.v5, x.v6⟩).toArray).setIfInBounds 5 (.bool a5) = (cWk ⟨a0, a1, a2, a3, a4, a5, x.v6⟩).toArray from rfl]
     have hl3_ := r2.len
     have he3_ := r2.err
     refine Zg ?_
     refine Zd (l := [0, 1, 2, 3, 4]) rfl ?_
     refine Za rfl rfl rfl rfl (Zc rfl rfl) ?_
     refine Za rfl rfl rfl rfl (Zc rfl rfl) ?_
     refine Za rfl rfl rfl rfl (Ze rfl rfl) ?_
     refine Za rfl rfl rfl rfl (Zb (fo := 6) rfl Try.underlying92 rfl i_23 rfl rfl rfl) ?_
     refine Yh (L2 := [_, _]) rfl rfl rfl rfl rfl rfl Try.call94 (cr_num b br l3 e3 (by omega) (by omega) bx 6 (cWk ⟨a0, a1, a2, a3, a4, a5, x.v6⟩).toArray T (by rw [cWk_sz]; omega)) [0, 0] [0] rfl rfl ?_
     rintro v post ⟨a6, l4, e4, r3, rfl, rfl⟩
     show G _ _ _ [_, _, _, _] _
     rw [show ((cWk ⟨a0, a1, a2, a3, a4, a5, x.v6⟩).toArray).setIfInBounds 6 (.int .u64 (a6 : Int)) = (cWk ⟨a0, a1, a2, a3, a4, a5, a6⟩).toArray from rfl]
     have hl4_ := r3.len
     have he4_ := r3.err
     refine Zg ?_
     refine G_end (post := [_, _]) Try.func100 rfl Zo [0, 0] rfl ?_
     dsimp only [packed]
     exact ⟨⟨a0, a1, a2, a3, a4, a5, a6⟩, l4, e4, rdgWk r0 r1 r2 r3, rfl, rfl⟩

theorem cOp_sz (x : Op) : (cOp x).toArray.size = 18 := rfl
set_option maxRecDepth 100000 in
set_option maxHeartbeats 1000000 in
theorem cr_op (b br : Nat) (l : List UInt8) (e : Nat) (hl : l.length ≤ 140737488350000) (he : e ≤ 1000) (bx : Nat) (x : Op) (T : TypeId) :
    Ct Try.prog 98 [.pointer (some ⟨b, 0, none⟩), .pointer (some ⟨bx, 0, none⟩)] [(some b, .cells #[.pointer none, .slice none 0 0, .pointer (some ⟨br, 0, none⟩), .bool false] 80 (0, 0))] [(some br, .cells #[.string (bs l), .int .i64 ((e : Nat) : Int)] 169 (0, 0)), (some bx, .cells ((cOp x).toArray) T (0, 0))] fun v post => ∃ m l1 e1, Rdg encOp GOp l e m l1 e1 ∧ v = .tuple #[] ∧ post = [(some br, .cells #[.string (bs l1), .int .i64 ((e1 : Nat) : Int)] 169 (0, 0)), (some bx, .cells ((cOp m).toArray) T (0, 0))] := by
 refine Yv Try.func98 rfl rfl (fun w0 => ?_)
 show G _ _ [(0, _), (1, _)] _ _
 refine Zi ?_
 refine Ya (Lq := []) (isq := []) (m := 39) Ym rfl rfl ?_
 refine Zh 0 rfl rfl rfl rfl (by kernel_rfl) (fun _ _ => Zc rfl rfl) ?_
 refine Zh 1 rfl rfl rfl rfl (by kernel_rfl) (fun _ _ => Zc rfl rfl) ?_
 refine Zh 2 rfl rfl rfl rfl (by kernel_rfl) (fun _ _ => Ze rfl rfl) ?_
 refine Zh 3 rfl rfl rfl rfl (by kernel_rfl) (fun _ _ => Zb (fo := 0) rfl Try.underlying137 rfl i_3 rfl rfl rfl) ?_
 refine Zh 4 rfl rfl rfl rfl (by kernel_rfl) (fun _ _ => Zc rfl rfl) ?_
 refine Zh 5 rfl rfl rfl rfl (by kernel_rfl) (fun _ _ => Ze rfl rfl) ?_
 refine Zh 6 rfl rfl rfl rfl (by kernel_rfl) (fun _ _ => Zb (fo := 1) rfl Try.underlying137 rfl i_3 rfl rfl rfl) ?_
 refine Zh 7 rfl rfl rfl rfl (by kernel_rfl) (fun _ _ => Zc rfl rfl) ?_
 refine Zh 8 rfl rfl rfl rfl (by kernel_rfl) (fun _ _ => Ze rfl rfl) ?_
 refine Zh 9 rfl rfl rfl rfl (by kernel_rfl) (fun _ _ => Zb (fo := 2) rfl Try.underlying137 rfl i_3 rfl rfl rfl) ?_
 refine Zh 10 rfl rfl rfl rfl (by kernel_rfl) (fun _ _ => Zc rfl rfl) ?_
 refine Zh 11 rfl rfl rfl rfl (by kernel_rfl) (fun _ _ => Ze rfl rfl) ?_
 refine Zh 12 rfl rfl rfl rfl (by kernel_rfl) (fun _ _ => Zb (fo := 6) rfl Try.underlying137 rfl i_3 rfl rfl rfl) ?_
 refine Zh 13 rfl rfl rfl rfl (by kernel_rfl) (fun _ _ => Zc rfl rfl) ?_
 refine Zh 14 rfl rfl rfl rfl (by kernel_rfl) (fun _ _ => Ze rfl rfl) ?_
 refine Zh 15 rfl rfl rfl rfl (by kernel_rfl) (fun _ _ => Zb (fo := 7) rfl Try.underlying137 rfl i_3 rfl rfl rfl) ?_
 refine Zh 16 rfl rfl rfl rfl (by kernel_rfl) (fun _ _ => Zc rfl rfl) ?_
 refine Zh 17 rfl rfl rfl rfl (by kernel_rfl) (fun _ _ => Ze rfl rfl) ?_
 refine Zh 18 rfl rfl rfl rfl (by kernel_rfl) (fun _ _ => Zb (fo := 8) rfl Try.underlying137 rfl i_3 rfl rfl rfl) ?_
 refine Zh 19 rfl rfl rfl rfl (by kernel_rfl) (fun _ _ => Zc rfl rfl) ?_
 refine Zh 20 rfl rfl rfl rfl (by kernel_rfl) (fun _ _ => Ze rfl rfl) ?_
 refine Zh 21 rfl rfl rfl rfl (by kernel_rfl) (fun _ _ => Zb (fo := 9) rfl Try.underlying137 rfl i_3 rfl rfl rfl) ?_
 refine Zh 22 rfl rfl rfl rfl (by kernel_rfl) (fun _ _ => Zc rfl rfl) ?_
 refine Zh 23 rfl rfl rfl rfl (by kernel_rfl) (fun _ _ => Ze rfl rfl) ?_
 refine Zh 24 rfl rfl rfl rfl (by kernel_rfl) (fun _ _ => Zb (fo := 10) rfl Try.underlying137 rfl i_3 rfl rfl rfl) ?_
 refine Zh 25 rfl rfl rfl rfl (by kernel_rfl) (fun _ _ => Zc rfl rfl) ?_
 refine Zh 26 rfl rfl rfl rfl (by kernel_rfl) (fun _ _ => Ze rfl rfl) ?_
 refine Zh 27 rfl rfl rfl rfl (by kernel_rfl) (fun _ _ => Zb (fo := 11) rfl Try.underlying137 rfl i_3 rfl rfl rfl) ?_
 refine Zh 28 rfl rfl rfl rfl (by kernel_rfl) (fun _ _ => Zc rfl rfl) ?_
 refine Zh 29 rfl rfl rfl rfl (by kernel_rfl) (fun _ _ => Ze rfl rfl) ?_
 refine Zh 30 rfl rfl rfl rfl (by kernel_rfl) (fun _ _ => Zb (fo := 12) rfl Try.underlying137 rfl i_3 rfl rfl rfl) ?_
 refine Zh 31 rfl rfl rfl rfl (by kernel_rfl) (fun _ _ => Zc rfl rfl) ?_
 refine Zh 32 rfl rfl rfl rfl (by kernel_rfl) (fun _ _ => Ze rfl rfl) ?_
 refine Zh 33 rfl rfl rfl rfl (by kernel_rfl) (fun _ _ => Zb (fo := 13) rfl Try.underlying137 rfl i_3 rfl rfl rfl) ?_
 refine Zh 34 rfl rfl rfl rfl (by kernel_rfl) (fun _ _ => Zc rfl rfl) ?_
 refine Zh 35 rfl rfl rfl rfl (by kernel_rfl) (fun _ _ => Ze rfl rfl) ?_
 refine Zh 36 rfl rfl rfl rfl (by kernel_rfl) (fun _ _ => Zb (fo := 14) rfl Try.underlying137 rfl i_3 rfl rfl rfl) ?_
 refine GH_all [37] (by kernel_rfl) (by decide) ?_
 refine (And.intro ?_ trivial)
 ·
  refine Yz rfl rfl rfl rfl (Zn (s := 1) (cs := [_, _, _, _, _, _, _, _, _, _, _, _]) rfl Try.underlying241 i_176 rfl rfl rfl rfl rfl rfl rfl rfl rfl) [] (fun _ => ⟨_, rfl⟩) (fun b41 => ?_)
  refine GH_all [38] (by kernel_rfl) (by decide) ?_
  refine (And.intro ?_ trivial)
  ·
   refine Zz (L2 := [_]) rfl rfl rfl rfl rfl rfl Try.call96 (cr_intsL b br l e (by omega) (by omega) _ _ bx (cOp x).toArray T [0, 1, 2, 6, 7, 8, 9, 10, 11, 12, 13, 14] (by simp) (by intro y hy; simp only [cOp_sz]; simp only [List.mem_cons, List.not_mem_nil, or_false] at hy; omega)) [1, 1] [1, 0] rfl rfl [] (by rintro v post ⟨xs0, l1, e1, hxs, r0, rfl, rfl⟩; exact ⟨_, rfl⟩) ?_
   rintro v post ⟨xs0, l1, e1, hxs, r0, rfl, rfl⟩
   show GH _ _ _ _ _ _ _ [_, _, _] _
   obtain ⟨a0, a1, a2, a6, a7, a8, a9, a10, a11, a12, a13, a14, rfl⟩ := len_12 hxs
   rw [show putAll (fun z : Int => Value.int .i64 z) (cOp x).toArray [0, 1, 2, 6, 7, 8, 9, 10, 11, 12, 13, 14] [a0, a1, a2, a6, a7, a8, a9, a10, a11, a12, a13, a14] = (cOp ⟨a0, a1, a2, x.v3, x.v4, x.v5, a6, a7, a8, a9, a10, a11, a12, a13, a14, x.v15, x.v16, x.v17⟩).toArray by unfold cOp; simp only [putAll_cons, putAll_nil, List.set_cons_succ, List.set_cons_zero]]
   have hl1_ := r0.len
   have he1_ := r0.err
   refine Zw (by kernel_rfl) ?_
   refine Zi ?_
   refine Ya (Lq := []) (isq := []) (m := 15) Ym rfl rfl ?_
   refine Zh 0 rfl rfl rfl rfl (by kernel_rfl) (fun _ _ => Zc rfl rfl) ?_
   refine Zh 1 rfl rfl rfl rfl (by kernel_rfl) (fun _ _ => Zc rfl rfl) ?_
   refine Zh 2 rfl rfl rfl rfl (by kernel_rfl) (fun _ _ => Ze rfl rfl) ?_
   refine Zh 3 rfl rfl rfl rfl (by kernel_rfl) (fun _ _ => Zb (fo := 3) rfl Try.underlying137 rfl i_135 rfl rfl rfl) ?_
   refine Zh 4 rfl rfl rfl rfl (by kernel_rfl) (fun _ _ => Zb (fo := 3) rfl Try.underlying135 rfl i_9 rfl rfl rfl) ?_
   refine Zh 5 rfl rfl rfl rfl (by kernel_rfl) (fun _ _ => Zc rfl rfl) ?_
   refine Zh 6 rfl rfl rfl rfl (by kernel_rfl) (fun _ _ => Ze rfl rfl) ?_
   refine Zh 7 rfl rfl rfl rfl (by kernel_rfl) (fun _ _ => Zb (fo := 3) rfl Try.underlying137 rfl i_135 rfl rfl rfl) ?_
   refine Zh 8 rfl rfl rfl rfl (by kernel_rfl) (fun _ _ => Zb (fo := 4) rfl Try.underlying135 rfl i_9 rfl rfl rfl) ?_
   refine Zh 9 rfl rfl rfl rfl (by kernel_rfl) (fun _ _ => Zc rfl rfl) ?_
   refine Zh 10 rfl rfl rfl rfl (by kernel_rfl) (fun _ _ => Ze rfl rfl) ?_
   refine Zh 11 rfl rfl rfl rfl (by kernel_rfl) (fun _ _ => Zb (fo := 3) rfl Try.underlying137 rfl i_135 rfl rfl rfl) ?_
   refine Zh 12 rfl rfl rfl rfl (by kernel_rfl) (fun _ _ => Zb (fo := 5) rfl Try.underlying135 rfl i_9 rfl rfl rfl) ?_
   refine GH_all [13] (by kernel_rfl) (by decide) ?_
   refine (And.intro ?_ trivial)
   ·
    refine Yz rfl rfl rfl rfl (Zn (s := 1) (cs := [_, _, _]) rfl Try.underlying278 i_244 rfl rfl rfl rfl rfl rfl rfl rfl rfl) [] (fun _ => ⟨_, rfl⟩) (fun b56 => ?_)
    refine GH_all [14] (by kernel_rfl) (by decide) ?_
    refine (And.intro ?_ trivial)
    ·
     refine Zz (L2 := [_, _]) rfl rfl rfl rfl rfl rfl Try.call142 (cr_textsL b br l1 e1 (by omega) (by omega) _ _ bx (cOp ⟨a0, a1, a2, x.v3, x.v4, x.v5, a6, a7, a8, a9, a10, a11, a12, a13, a14, x.v15, x.v16, x.v17⟩).toArray T [3, 4, 5] (by simp) (by intro y hy; simp only [cOp_sz]; simp only [List.mem_cons, List.not_mem_nil, or_false] at hy; omega)) [1, 1] [1, 0] rfl rfl [] (by rintro v post ⟨xs1, l2, e2, hxs, r1, rfl, rfl⟩; exact ⟨_, rfl⟩) ?_
     rintro v post ⟨xs1, l2, e2, hxs, r1, rfl, rfl⟩
     show GH _ _ _ _ _ _ _ [_, _, _, _] _
     obtain ⟨a3, a4, a5, rfl⟩ := len_3 hxs
     rw [show putAll (fun z : List UInt8 => Value.string (bs z)) (cOp ⟨a0, a1, a2, x.v3, x.v4, x.v5, a6, a7, a8, a9, a10, a11, a12, a13, a14, x.v15, x.v16, x.v17⟩).toArray [3, 4, 5] [a3, a4, a5] = (cOp ⟨a0, a1, a2, a3, a4, a5, a6, a7, a8, a9, a10, a11, a12, a13, a14, x.v15, x.v16, x.v17⟩).toArray by unfold cOp; simp only [putAll_cons, putAll_nil, List.set_cons_succ, List.set_cons_zero]]
     have hl2_ := r1.len
     have he2_ := r1.err
     refine Zw (by kernel_rfl) ?_
     refine Zi ?_
     refine Zd (l := [0, 1, 2, 3, 4]) rfl ?_
     refine Za rfl rfl rfl rfl (Zc rfl rfl) ?_
     refine Za rfl rfl rfl rfl (Zc rfl rfl) ?_
     refine Za rfl rfl rfl rfl (Ze rfl rfl) ?_
     refine Za rfl rfl rfl rfl (Zb (fo := 15) rfl Try.underlying137 rfl i_23 rfl rfl rfl) ?_
     refine Yh (L2 := [_, _]) rfl rfl rfl rfl rfl rfl Try.call94 (cr_num b br l2 e2 (by omega) (by omega) bx 15 (cOp ⟨a0, a1, a2, a3, a4, a5, a6, a7, a8, a9, a10, a11, a12, a13, a14, x.v15, x.v16, x.v17⟩).toArray T (by rw [cOp_sz]; omega)) [0, 0] [0] rfl rfl ?_
     rintro v post ⟨a15, l3, e3, r2, rfl, rfl⟩
     show G _ _ _ [_, _, _, _] _
     rw [show ((cOp ⟨a0, a1, a2, a3, a4, a5, a6, a7, a8, a9, a10, a11, a12, a13, a14, x.v15, x.v16, x.v17⟩).toArray).setIfInBounds 15 (.int .u64 (a15 : Int)) = (cOp ⟨a0, a1, a2, a3, a4, a5, a6, a7, a8, a9, a10, a11, a12, a13, a14, a15, x.v16, x.v17⟩).toArray from rfl]
     have hl3_ := r2.len
     have he3_ := r2.err
     refine Zg ?_
     refine Zi ?_
     refine Zd (l := [0, 1, 2, 3, 4]) rfl ?_
     refine Za rfl rfl rfl rfl (Zc rfl rfl) ?_
     refine Za rfl rfl rfl rfl (Zc rfl rfl) ?_
     refine Za rfl rfl rfl rfl (Ze rfl rfl) ?_
     refine Za rfl rfl rfl rfl (Zb (fo := 16) rfl Try.underlying137 rfl i_23 rfl rfl rfl) ?_
     refine Yh (L2 := [_, _]) rfl rfl rfl rfl rfl rfl Try.call94 (cr_num b br l3 e3 (by omega) (by omega) bx 16 (cOp ⟨a0, a1, a2, a3, a4, a5, a6, a7, a8, a9, a10, a11, a12, a13, a14, a15, x.v16, x.v17⟩).toArray T (by rw [cOp_sz]; omega)) [0, 0] [0] rfl rfl ?_
     rintro v post ⟨a16, l4, e4, r3, rfl, rfl⟩
     show G _ _ _ [_, _, _, _] _
     rw [show ((cOp ⟨a0, a1, a2, a3, a4, a5, a6, a7, a8, a9, a10, a11, a12, a13, a14, a15, x.v16, x.v17⟩).toArray).setIfInBounds 16 (.int .u64 (a16 : Int)) = (cOp ⟨a0, a1, a2, a3, a4, a5, a6, a7, a8, a9, a10, a11, a12, a13, a14, a15, a16, x.v17⟩).toArray from rfl]
     have hl4_ := r3.len
     have he4_ := r3.err
     refine Zg ?_
     refine Zd (l := [0, 1, 2, 3, 4]) rfl ?_
     refine Za rfl rfl rfl rfl (Zc rfl rfl) ?_
     refine Za rfl rfl rfl rfl (Zc rfl rfl) ?_
     refine Za rfl rfl rfl rfl (Ze rfl rfl) ?_
     refine Za rfl rfl rfl rfl (Zb (fo := 17) rfl Try.underlying137 rfl i_23 rfl rfl rfl) ?_
     refine Yh (L2 := [_, _]) rfl rfl rfl rfl rfl rfl Try.call94 (cr_num b br l4 e4 (by omega) (by omega) bx 17 (cOp ⟨a0, a1, a2, a3, a4, a5, a6, a7, a8, a9, a10, a11, a12, a13, a14, a15, a16, x.v17⟩).toArray T (by rw [cOp_sz]; omega)) [0, 0] [0] rfl rfl ?_
     rintro v post ⟨a17, l5, e5, r4, rfl, rfl⟩
     show G _ _ _ [_, _, _, _] _
     rw [show ((cOp ⟨a0, a1, a2, a3, a4, a5, a6, a7, a8, a9, a10, a11, a12, a13, a14, a15, a16, x.v17⟩).toArray).setIfInBounds 17 (.int .u64 (a17 : Int)) = (cOp ⟨a0, a1, a2, a3, a4, a5, a6, a7, a8, a9, a10, a11, a12, a13, a14, a15, a16, a17⟩).toArray from rfl]
     have hl5_ := r4.len
     have he5_ := r4.err
     refine Zg ?_
     refine G_end (post := [_, _]) Try.func98 rfl Zo [0, 0] rfl ?_
     dsimp only [packed]
     exact ⟨⟨a0, a1, a2, a3, a4, a5, a6, a7, a8, a9, a10, a11, a12, a13, a14, a15, a16, a17⟩, l5, e5, rdgOp r0 r1 r2 r3 r4, rfl, rfl⟩


theorem len_16 {α : Type} {xs : List α} (h : xs.length = 16) : ∃ a0 a1 a2 a3 a4 a5 a6 a7 a8 a9 a10 a11 a12 a13 a14 a15, xs = [a0, a1, a2, a3, a4, a5, a6, a7, a8, a9, a10, a11, a12, a13, a14, a15] := by
  match xs, h with
  | [a0, a1, a2, a3, a4, a5, a6, a7, a8, a9, a10, a11, a12, a13, a14, a15], _ => exact ⟨_, _, _, _, _, _, _, _, _, _, _, _, _, _, _, _, rfl⟩
/-- A key, and the first ones of its numbers. -/
def hrC (s : List UInt8) (ys : List Int) : Array Value := (.string (bs s) :: ys.map fun z => Value.int .i64 z).toArray
theorem hrC_size (s : List UInt8) (ys : List Int) : (hrC s ys).size = ys.length + 1 := by simp [hrC]
theorem hrC_set {s : List UInt8} {ys : List Int} {i : Nat} {v : Int} : (hrC s ys).setIfInBounds (1 + i * 1) (.int .i64 v) = hrC s (ys.set i v) := by
  unfold hrC
  rw [Nat.mul_one, Nat.add_comm, List.setIfInBounds_toArray, List.set_cons_succ, List.map_set]
theorem set_next {α : Type} {xs ys : List α} {i : Nat} {v : α} (hn : xs.length = i) (h : i < ys.length) : (xs ++ ys.drop i).set i v = (xs ++ [v]) ++ ys.drop (i + 1) := by
  rw [List.set_append_right _ _ (by omega), hn, Nat.sub_self, List.drop_eq_getElem_cons h, List.set_cons_zero]; simp
theorem rdgHr2 {l l1 l2 : List UInt8} {e e1 e2 : Nat} {s : List UInt8} {xs : List Int} (hn : xs.length = 16) (r0 : Rdg encTs (GTs 1) l e [s] l1 e1) (r1 : Rdg encIs (GIs 16) l1 e1 xs l2 e2) : ∃ m : Hr, hrC s xs = (cHr m).toArray ∧ Rdg encHr GHr l e m l2 e2 := by
  obtain ⟨a0, a1, a2, a3, a4, a5, a6, a7, a8, a9, a10, a11, a12, a13, a14, a15, rfl⟩ := len_16 hn
  exact ⟨⟨s, a0, a1, a2, a3, a4, a5, a6, a7, a8, a9, a10, a11, a12, a13, a14, a15⟩, rfl, rdgHr r0 r1⟩
theorem cHr_sz (x : Hr) : (cHr x).toArray.size = 17 := rfl
theorem rdg_cat {n : Nat} {l l1 l2 : List UInt8} {e e1 e2 i : Nat} {xs : List Int} {v : Int} (h : RdgL encI GI n l e i xs l1 e1) (h1 : Rdg encIs (GIs 1) l1 e1 [v] l2 e2) (hi : i < n) : RdgL encI GI n l e (i + 1) (xs ++ [v]) l2 e2 :=
  h.next (Rdg.map h1 v (fun x => [x]) rfl (fun x y _ _ h => by simpa using h) (fun x h => ⟨rfl, fun y hy => by rw [List.mem_singleton.1 hy]; exact h⟩) (fun h => h.2 v List.mem_cons_self) (fun x _ => by simp [encIs])) hi

set_option maxRecDepth 100000 in
set_option maxHeartbeats 1000000 in
theorem cr_row (b br : Nat) (l : List UInt8) (e : Nat) (hl : l.length ≤ 140737488350000) (he : e ≤ 1000) (bx : Nat) (x : Hr) (T : TypeId) :
    Ct Try.prog 106 [.pointer (some ⟨b, 0, none⟩), .pointer (some ⟨bx, 0, none⟩)] [(some b, .cells #[.pointer none, .slice none 0 0, .pointer (some ⟨br, 0, none⟩), .bool false] 80 (0, 0))] [(some br, .cells #[.string (bs l), .int .i64 ((e : Nat) : Int)] 169 (0, 0)), (some bx, .cells ((cHr x).toArray) T (0, 0))] fun v post => ∃ m l1 e1, Rdg encHr GHr l e m l1 e1 ∧ v = .tuple #[] ∧ post = [(some br, .cells #[.string (bs l1), .int .i64 ((e1 : Nat) : Int)] 169 (0, 0)), (some bx, .cells ((cHr m).toArray) T (0, 0))] := by
 obtain ⟨ys, hyl, hys⟩ : ∃ ys : List Int, ys.length = 16 ∧ ∀ s : List UInt8, (cHr x).toArray.setIfInBounds 0 (.string (bs s)) = hrC s ys := ⟨[x.v1, x.v2, x.v3, x.v4, x.v5, x.v6, x.v7, x.v8, x.v9, x.v10, x.v11, x.v12, x.v13, x.v14, x.v15, x.v16], rfl, fun s => rfl⟩
 refine Yv Try.func106 rfl rfl (fun w0 => ?_)
 show G _ _ [(0, _), (1, _)] _ _
 refine Zi ?_
 refine Zd (l := [0, 1, 2, 3, 4, 5]) rfl ?_
 refine Za rfl rfl rfl rfl (Zc rfl rfl) ?_
 refine Za rfl rfl rfl rfl (Zc rfl rfl) ?_
 refine Za rfl rfl rfl rfl (Ze rfl rfl) ?_
 refine Za rfl rfl rfl rfl (Zb (fo := 0) rfl Try.underlying141 rfl i_9 rfl rfl rfl) ?_
 refine Yr rfl rfl rfl rfl (Zn (s := 1) (cs := [_]) rfl Try.underlying278 i_244 rfl rfl rfl rfl rfl rfl rfl rfl rfl) (fun b9 => ?_)
 refine Yh (L2 := [_]) rfl rfl rfl rfl rfl rfl Try.call142 (cr_textsL b br l e (by omega) (by omega) _ _ bx (cHr x).toArray T [0] (by simp) (by intro y hy; simp only [cHr_sz]; simp only [List.mem_cons, List.not_mem_nil, or_false] at hy; omega)) [1, 1] [1, 0] rfl rfl ?_
 rintro v post ⟨xs0, l1, e1, hxs, r0, rfl, rfl⟩
 show G _ _ _ [_, _, _] _
 obtain ⟨a0, rfl⟩ := len_1 hxs
 rw [show putAll (fun z : List UInt8 => Value.string (bs z)) (cHr x).toArray [0] [a0] = (cHr x).toArray.setIfInBounds 0 (.string (bs a0)) from rfl, hys a0]
 have hl1_ := r0.len
 have he1_ := r0.err
 refine Zg ?_
 refine Zi ?_
 refine Zd (l := [0]) rfl ?_
 refine Za rfl rfl rfl rfl (Zc rfl rfl) ?_
 refine Zg ?_
 refine Zp ?_
 refine Yc ?he2 [0, 0] ?hl2 (Xc (X := Nat × List Int × List UInt8 × Nat) (fun x_ => match x_ with | ⟨i, xs, l2, e2⟩ => i ≤ 16 ∧ RdgL encI GI 16 l1 e1 i xs l2 e2) (fun x_ => match x_ with | ⟨i, xs, l2, e2⟩ => 16 - i) (fun x_ => match x_ with | ⟨i, xs, l2, e2⟩ => [(0, .pointer (some ⟨b, 0, none⟩)), (1, .pointer (some ⟨bx, 0, none⟩)), (11, .int .i64 (i : Int))]) (fun x_ => match x_ with | ⟨i, xs, l2, e2⟩ => [(some br, .cells #[.string (bs l2), .int .i64 ((e2 : Nat) : Int)] 169 (0, 0)), (some bx, .cells (hrC a0 (xs ++ ys.drop i)) T (0, 0))]) ?round2 (0, [], l1, e1) ?h02)
 case he2 => exact (And.intro rfl (And.intro rfl (And.intro rfl trivial)))
 case hl2 => exact ⟨_, rfl⟩
 case h02 => exact ⟨Nat.zero_le _, .zero he1_⟩
 case round2 =>
  intro x_ hJ ih
  try dsimp only at hJ ih
  obtain ⟨i, xs, l2, e2⟩ := x_
  try dsimp only at hJ ih
  obtain ⟨hi, hx⟩ := hJ
  show G _ _ [(0, .pointer (some ⟨b, 0, none⟩)), (1, .pointer (some ⟨bx, 0, none⟩)), (11, .int .i64 (i : Int))] [(some br, .cells #[.string (bs l2), .int .i64 ((e2 : Nat) : Int)] 169 (0, 0)), (some bx, .cells (hrC a0 (xs ++ ys.drop i)) T (0, 0))] _
  refine Zi ?_
  refine Zd (l := [0]) rfl ?_
  refine Za rfl rfl rfl rfl (Xh rfl rfl rfl) ?_
  refine Zg ?_
  refine Zi ?_
  refine Yl rfl (fun hc1 => ?_) (fun hc1 => ?_)
  ·
   refine Zu ?_
   refine Zi ?_
   refine Zp ?_
   refine Zi ?_
   refine Zd (l := [0, 1]) rfl ?_
   refine Za rfl rfl rfl rfl (Zc rfl rfl) ?_
   refine Za rfl rfl rfl rfl (Zk rfl rfl) ?_
   refine Zg ?_
   have hlx := hx.num
   have hl2 := hx.len
   have he2 := hx.err
   have hsz := hrC_size a0 (xs ++ ys.drop i)
   rw [List.length_append, List.length_drop] at hsz
   refine Zd (l := [0, 1, 2, 3, 4, 5, 6, 7]) rfl ?_
   refine Za rfl rfl rfl rfl (Zc rfl rfl) ?_
   refine Za rfl rfl rfl rfl (Zc rfl rfl) ?_
   refine Za rfl rfl rfl rfl (Zc rfl rfl) ?_
   refine Za rfl rfl rfl rfl (Ze rfl rfl) ?_
   refine Za rfl rfl rfl rfl (Zb (fo := 1) rfl Try.underlying141 rfl i_139 rfl rfl rfl) ?_
   refine Za rfl rfl rfl rfl (V_aindexAddr rfl Try.underlying139 i_3 rfl rfl rfl (by omega) (by omega)) ?_
   refine Yr rfl rfl rfl rfl (Zn (s := 1) (cs := [_]) rfl Try.underlying241 i_176 rfl rfl rfl rfl rfl rfl rfl rfl rfl) (fun b20 => ?_)
   refine Yh (L2 := [_]) rfl rfl rfl rfl rfl rfl Try.call96 (cr_intsL b br l2 e2 (by omega) (by omega) _ _ bx (hrC a0 (xs ++ ys.drop i)) T [1 + i * 1] (by simp) (by intro y hy; simp only [List.mem_cons, List.not_mem_nil, or_false] at hy; omega)) [1, 1] [1, 0] rfl rfl ?_
   rintro v post ⟨xs0, l3, e3, hxs2, r1, rfl, rfl⟩
   show G _ _ _ [_, _, _] _
   obtain ⟨a1, rfl⟩ := len_1 hxs2
   rw [show putAll (fun z : Int => Value.int .i64 z) (hrC a0 (xs ++ ys.drop i)) [1 + i * 1] [a1] = (hrC a0 (xs ++ ys.drop i)).setIfInBounds (1 + i * 1) (.int .i64 a1) from rfl, hrC_set, set_next hx.num (by omega)]
   refine Zg ?_
   refine Zs ?_
   refine Zd (l := [0, 1]) rfl ?_
   refine Za rfl rfl rfl rfl ((Yu rfl rfl rfl).int (Zv (by omega))) ?_
   refine Za rfl rfl rfl rfl (Zc rfl rfl) ?_
   refine Zg ?_
   refine Yc ?_ [0, 0] ?_ (ih (i + 1, xs ++ [a1], l3, e3) ?_ ?_)
   · (refine (And.intro ?_ (And.intro ?_ (And.intro ?_ trivial))) <;> first | rfl | exact Zm (by omega) | exact Zm (by simp))
   · exact ⟨_, rfl⟩
   · exact ⟨by omega, rdg_cat hx r1 (by omega)⟩
   · (first | omega | (dsimp only; omega))
  refine Yx rfl ?_
  refine G_end (post := [_, _]) Try.func106 rfl Zo [0, 0] rfl ?_
  dsimp only [packed]
  obtain rfl : i = 16 := by omega
  obtain ⟨m, hm, hr⟩ := rdgHr2 hx.num r0 (rdg_Is hx)
  rw [List.drop_eq_nil_of_le (by omega), List.append_nil, hm]
  exact ⟨m, l2, e2, hr, rfl, rfl⟩

end
end Go.Proofs.Ytjnaeoelnmhjfaa

set_option linter.unusedSimpArgs false
set_option linter.unusedVariables false
namespace Go.Proofs.Ytjnaeoelnmhjfaa
open Go Go.RowKit

section
theorem set_self {cs : Array Value} {k : Nat} {v : Value} (h : cs[k]? = some v) : cs.setIfInBounds k v = cs := by
  obtain ⟨hk, rfl⟩ := Array.getElem?_eq_some_iff.1 h
  apply Array.ext_getElem?; intro i
  rw [Array.getElem?_setIfInBounds]
  by_cases hi : k = i
  · subst hi; simp [hk]
  · rw [if_neg hi]
theorem oks_nx {α : Type} {ok : α → Prop} {ms : List α} {m : α} (h : ∀ x ∈ ms, ok x) (hm : ok m) : ∀ x ∈ ms ++ [m], ok x := by
  intro x hx
  rcases List.mem_append.1 hx with hx | hx
  · exact h x hx
  · rw [List.mem_singleton.1 hx]; exact hm
theorem sub_next {α : Type} {K : α → List HBk} {ms : List α} {m : α} {M M0 M1 : List HBk} (hM : ∀ z ∈ ms.flatMap K, z ∈ M) (hM0 : ∀ z ∈ K m, z ∈ M0) (h1 : ∀ z ∈ M, z ∈ M1) (h2 : ∀ z ∈ M0, z ∈ M1) : ∀ z ∈ (ms ++ [m]).flatMap K, z ∈ M1 := by
  intro z hz
  rw [List.flatMap_append, List.flatMap_singleton] at hz
  rcases List.mem_append.1 hz with hz | hz
  · exact h1 z (hM z hz)
  · exact h2 z (hM0 z hz)
theorem sub_hd {α : Type} {l M : List α} {a : α} (h : ∀ z ∈ l, z ∈ M) : ∀ z ∈ a :: l, z ∈ a :: M := by
  intro z hz
  rcases List.mem_cons.1 hz with rfl | hz
  · exact List.mem_cons_self
  · exact List.mem_cons_of_mem _ (h z hz)
theorem at_lt {cs : Array Value} {k : Nat} {v : Value} (h : cs[k]? = some v) : k < cs.size := (Array.getElem?_eq_some_iff.1 h).1

set_option maxRecDepth 100000 in
set_option maxHeartbeats 2000000 in
theorem cr_listIt (b br : Nat) (l : List UInt8) (e : Nat) (hl : l.length ≤ 140737488350000) (he : e ≤ 1000) (bx k : Nat) (cs : Array Value) (T : TypeId) (hk : cs[k]? = some (.slice none 0 0)) :
    Ct Try.prog 178 [.pointer (some ⟨b, 0, none⟩), .pointer (some ⟨bx, k, none⟩), .func (.func 179) #[.pointer (some ⟨b, 0, none⟩)] #[]] [(some b, .cells #[.pointer none, .slice none 0 0, .pointer (some ⟨br, 0, none⟩), .bool false] 80 (0, 0))] [(some br, .cells #[.string (bs l), .int .i64 ((e : Nat) : Int)] 169 (0, 0)), (some bx, .cells (cs) T (0, 0))] fun v post => ∃ (s : Ins It) (l1 : List UInt8) (e1 : Nat), InsOk 2 cIt s ∧ s.l.length ≤ 1000 ∧ Rdg (encL encIt) (GL GIt) l e s.l l1 e1 ∧ v = .tuple #[] ∧ post = [(some br, .cells #[.string (bs l1), .int .i64 ((e1 : Nat) : Int)] 169 (0, 0)), (some bx, .cells (cs.setIfInBounds k (insV s)) T (0, 0)), insK s] := by
 obtain ⟨n, l0, e0, h0⟩ : ∃ a_ l_ e_, rdInt 1000 l e = (a_, l_, e_) := ⟨_, _, _, rfl⟩
 obtain ⟨hn, hl0, he0⟩ := rd_n he h0
 have hks := at_lt hk
 have hcs : cs.setIfInBounds k (slNil.v 0) = cs := set_self hk
 refine Yv Try.func178 rfl rfl (fun w0 => ?_)
 show G _ _ [(0, _), (1, _), (2, _)] _ _
 refine Zi ?_
 refine Zi ?_
 refine Zd (l := [0, 1, 2, 3, 4]) rfl ?_
 refine Za rfl rfl rfl rfl (Zc rfl rfl) ?_
 refine Za rfl rfl rfl rfl (Ze rfl rfl) ?_
 refine Za rfl rfl rfl rfl (Zb (fo := 2) rfl Try.underlying80 rfl i_74 rfl rfl rfl) ?_
 refine Za rfl rfl rfl rfl (Zj rfl rfl (Zf 0 rfl) rfl Try.underlying74 rfl) ?_
 refine Za rfl rfl rfl rfl (V_peqlN rfl Try.underlying74 rfl rfl) ?_
 refine Zg ?_
 refine G_else rfl ?_
 refine Zu ?_
 refine Zi ?_
 refine G_addNone (.cells #[] 262 (0, 0)) ?_
 refine Zd (l := [0, 1, 2, 3, 4, 5]) rfl ?_
 refine Za rfl rfl rfl rfl (Zc rfl rfl) ?_
 refine Za rfl rfl rfl rfl (Ze rfl rfl) ?_
 refine Za rfl rfl rfl rfl (Zb (fo := 2) rfl Try.underlying80 rfl i_74 rfl rfl rfl) ?_
 refine Za rfl rfl rfl rfl (Zj rfl rfl (Zf 0 rfl) rfl Try.underlying74 rfl) ?_
 refine Yh (L2 := [_, _]) rfl rfl rfl rfl rfl rfl Try.call84 ((rd_int br l e 1000 (by omega) (by omega) (by omega)).weaken (fun v post h => by rewrite [h0] at h; exact h)) [1] [] rfl rfl ?_
 rintro v post ⟨rfl, rfl⟩
 show G _ _ _ [_, _, _] _
 refine Za rfl rfl rfl rfl (Zc rfl rfl) ?_
 refine Zg ?_
 refine Zp ?_
 refine Yc ?he10 [0, 1, 0] ?hl10 (Xc (X := Nat × Sl × List It × List UInt8 × Nat) (fun x_ => match x_ with | ⟨i, u, ms, l1, e1⟩ => i ≤ n ∧ ms.length = i ∧ Own 2 u (ms.flatMap cIt) i ∧ RdgL encIt GIt n l0 e0 i ms l1 e1) (fun x_ => match x_ with | ⟨i, u, ms, l1, e1⟩ => n - i) (fun x_ => match x_ with | ⟨i, u, ms, l1, e1⟩ => [(0, .pointer (some ⟨b, 0, none⟩)), (1, .pointer (some ⟨bx, k, none⟩)), (2, .func (.func 179) #[.pointer (some ⟨b, 0, none⟩)] #[]), (58, .int .i64 (n : Int)), (59, .int .i64 (i : Int))]) (fun x_ => match x_ with | ⟨i, u, ms, l1, e1⟩ => [(some br, .cells #[.string (bs l1), .int .i64 ((e1 : Nat) : Int)] 169 (0, 0)), (some bx, .cells (cs.setIfInBounds k (u.v i)) T (0, 0)), (u.ob, .cells u.cs 262 u.fz)]) ?round10 (0, slNil, [], l0, e0) ?h010)
 case he10 => exact (And.intro rfl (And.intro rfl (And.intro rfl (And.intro rfl (And.intro rfl trivial)))))
 case hl10 => exact ⟨_, by show tk _ _ = some ([_, (some bx, .cells (cs.setIfInBounds k (slNil.v 0)) T (0, 0)), _], _); rw [hcs]; rfl⟩
 case h010 => exact ⟨Nat.zero_le _, rfl, own_nil 2, .zero he0⟩
 case round10 =>
  intro x_ hJ ih
  try dsimp only at hJ ih
  obtain ⟨i, u, ms, l1, e1⟩ := x_
  try dsimp only at hJ ih
  obtain ⟨hi, hml, hu, hx⟩ := hJ
  show G _ _ [(0, .pointer (some ⟨b, 0, none⟩)), (1, .pointer (some ⟨bx, k, none⟩)), (2, .func (.func 179) #[.pointer (some ⟨b, 0, none⟩)] #[]), (58, .int .i64 (n : Int)), (59, .int .i64 (i : Int))] [(some br, .cells #[.string (bs l1), .int .i64 ((e1 : Nat) : Int)] 169 (0, 0)), (some bx, .cells (cs.setIfInBounds k (u.v i)) T (0, 0)), (u.ob, .cells u.cs 262 u.fz)] _
  have hl1 := hx.len
  have he1 := hx.err
  refine Zi ?_
  refine Zd (l := [0]) rfl ?_
  refine Za rfl rfl rfl rfl (Xh rfl rfl rfl) ?_
  refine Zg ?_
  refine Zi ?_
  refine Yl rfl (fun hc1 => ?_) (fun hc1 => ?_)
  ·
   refine Zu ?_
   refine Zi ?_
   refine Zp ?_
   refine Zi ?_
   refine Zi ?_
   refine Zd (l := [0, 1, 2, 3, 4, 5]) rfl ?_
   refine Za rfl rfl rfl rfl (Zc rfl rfl) ?_
   refine Za rfl rfl rfl rfl (Ze rfl rfl) ?_
   refine Za rfl rfl rfl rfl (Zb (fo := 2) rfl Try.underlying80 rfl i_74 rfl rfl rfl) ?_
   refine Za rfl rfl rfl rfl (Zj rfl rfl (Zf 0 rfl) rfl Try.underlying74 rfl) ?_
   refine Yh (L2 := [_, _, _]) rfl rfl rfl rfl rfl rfl Try.call86 (rd_err _ _ _) [] [1] rfl rfl ?_
   rintro v post ⟨rfl, rfl⟩
   show G _ _ _ [_, _, _] _
   refine Za rfl rfl rfl rfl (V_neq rfl rfl rfl) ?_
   refine Zg ?_
   refine Yl rfl (fun hc2 => ?_) (fun hc2 => ?_)
   ·
    refine Xa (post := [_, _, _]) Try.func178 rfl Zo [0, 0, 0] rfl ?_
    dsimp only [packed]
    first
      | exact ⟨insOf u 262 ms, l1, e1, Xd (by rw [hml]; exact hu) (by omega), by show ms.length ≤ _; omega, rdg_Lbad he h0 hx (by omega) _, rfl, by (try simp only [Xp, hml]); first | done | rfl⟩
      | (obtain rfl : i = n := by omega
         exact ⟨insOf u 262 ms, l1, e1, Xd (by rw [hml]; exact hu) (by omega), by show ms.length ≤ _; omega, rdg_L he h0 hx, rfl, by (try simp only [Xp, hml]); first | done | rfl⟩)
   refine Zu ?_
   refine Zi ?_
   refine Zd (l := [0]) rfl ?_
   refine Yr rfl rfl rfl rfl (Xb rfl i_262 rfl) (fun b8 => ?_)
   refine Zg ?_
   refine Zi ?_
   refine Zd (l := [0, 1]) rfl ?_
   refine Za rfl rfl rfl rfl (Zc rfl rfl) ?_
   refine G_callB (L2 := [_, _]) rfl rfl rfl rfl rfl rfl Try.call179 rfl (cr_item b br l1 e1 (by omega) (by omega) _ (⟨0, 0⟩ : It) _) [1, 0] [0] rfl rfl ?_
   rintro v post ⟨m, l2, e2, hm, rfl, rfl⟩
   show G _ _ _ [_, _, _, _] _
   refine Zg ?_
   refine Ya (Lq := [_]) (isq := [1]) (m := 9) Ym rfl rfl ?_
   refine Zh 0 rfl rfl rfl rfl (by kernel_rfl) (fun _ _ => Zc rfl rfl) ?_
   refine Zh 1 rfl rfl rfl rfl (by kernel_rfl) (fun _ _ => Zc rfl rfl) ?_
   refine Zh 2 rfl rfl rfl rfl (by kernel_rfl) (fun _ _ => Ze rfl rfl) ?_
   refine Zh 4 rfl rfl rfl rfl (by kernel_rfl) (fun _ _ => V_loadW (s := 2) rfl rfl (Zf 1 rfl) Try.underlying262 rfl i_262 rfl (by rfl)) ?_
   refine GH_all [3, 5] (by kernel_rfl) (by decide) ?_
   refine (And.intro ?_ (And.intro ?_ trivial))
   ·
    refine Xn rfl rfl rfl rfl (Zj rfl rfl (Zf 3 rfl) (Zr (set_at (u.v i) hks)) Try.underlying215 rfl) ?_
    refine GH_all [5] (by kernel_rfl) (by decide) ?_
    refine (And.intro ?_ trivial)
    ·
     refine Yz rfl rfl rfl rfl (Zn (s := 2) (cs := [_, _]) rfl Try.underlying215 i_262 rfl rfl rfl rfl rfl rfl rfl rfl rfl) [2] (fun _ => ⟨_, rfl⟩) (fun b74 => ?_)
     refine GH_all [6] (by kernel_rfl) (by decide) ?_
     refine (And.intro ?_ trivial)
     ·
      refine Xf (l1 := [_, _, _, _]) (s := u) (nn := i) (m := 1) (news := (cIt m)) (bt := 16) rfl rfl rfl rfl Try.underlying215 Try.underlying215 (by first | exact .inl rfl | exact .inr ⟨_, rfl⟩) i_262 rfl rfl rfl rfl rfl rfl hu rfl (Yp (Zf 1 rfl) rfl rfl (by simp [cIt, Value.oneCell'])) (by omega) (by omega) [2] (fun _ => ⟨_, rfl⟩) ?_
      intro u1 hu1 _
      show GH _ _ _ _ _ _ _ [_, _, _, _, _] _
      refine Zh 7 rfl rfl rfl rfl (by kernel_rfl) (fun _ _ => Ze rfl rfl) ?_
      refine GH_all [8] (by kernel_rfl) (by decide) ?_
      refine (And.intro ?_ trivial)
      ·
       refine Xi (l1 := [_, _, _]) (L' := [_, _, _, _, _]) rfl rfl rfl rfl (Zq rfl rfl rfl (Zf 3 rfl) (by first | exact of_decide_eq_true rfl | omega | (simp [cOp, cWk, cIv, cHr, cLt, cWt, cIt, cFl, cTn, cCl, cPo, cSt, cDt, cDs, Sl.v]; done) | (simp [cOp, cWk, cIv, cHr, cLt, cWt, cIt, cFl, cTn, cCl, cPo, cSt, cDt, cDs, Sl.v]; omega) | (simp [cOp, cWk, cIv, cHr, cLt, cWt, cIt, cFl, cTn, cCl, cPo, cSt, cDt, cDs, Sl.v] at *; omega)) i_215 rfl rfl) rfl [2] rfl ?_
       refine Zw (by kernel_rfl) ?_
       refine Zs ?_
       refine Zd (l := [0, 1]) rfl ?_
       refine Za rfl rfl rfl rfl ((Yu rfl rfl rfl).int (Zv (by omega))) ?_
       refine Za rfl rfl rfl rfl (Zc rfl rfl) ?_
       refine Zg ?_
       rw [set_set]
       refine Yc ?_ [1, 2, 2] ?_ (ih (i + 1, u1, ms ++ [m], l2, e2) ?_ ?_)
       · (refine (And.intro ?_ (And.intro ?_ (And.intro ?_ (And.intro ?_ (And.intro ?_ trivial))))) <;> first | rfl | exact Zm (by omega) | exact Zm (by simp))
       · exact ⟨_, rfl⟩
       · exact ⟨by omega, by simp [hml], by rw [List.flatMap_append, List.flatMap_singleton]; exact hu1, hx.next hm (by omega)⟩
       · (first | omega | (dsimp only; omega))
   ·
    refine Yz rfl rfl rfl rfl (Zn (s := 2) (cs := [_, _]) rfl Try.underlying215 i_262 rfl rfl rfl rfl rfl rfl rfl rfl rfl) [2] (fun _ => ⟨_, rfl⟩) (fun b74 => ?_)
    refine GH_all [3] (by kernel_rfl) (by decide) ?_
    refine (And.intro ?_ trivial)
    ·
     refine Xn rfl rfl rfl rfl (Zj rfl rfl (Zf 4 rfl) (Zr (set_at (u.v i) hks)) Try.underlying215 rfl) ?_
     refine GH_all [6] (by kernel_rfl) (by decide) ?_
     refine (And.intro ?_ trivial)
     ·
      refine Xf (l1 := [_, _, _, _]) (s := u) (nn := i) (m := 1) (news := (cIt m)) (bt := 16) rfl rfl rfl rfl Try.underlying215 Try.underlying215 (by first | exact .inl rfl | exact .inr ⟨_, rfl⟩) i_262 rfl rfl rfl rfl rfl rfl hu rfl (Yp (Zf 1 rfl) rfl rfl (by simp [cIt, Value.oneCell'])) (by omega) (by omega) [2] (fun _ => ⟨_, rfl⟩) ?_
      intro u1 hu1 _
      show GH _ _ _ _ _ _ _ [_, _, _, _, _] _
      refine Zh 7 rfl rfl rfl rfl (by kernel_rfl) (fun _ _ => Ze rfl rfl) ?_
      refine GH_all [8] (by kernel_rfl) (by decide) ?_
      refine (And.intro ?_ trivial)
      ·
       refine Xi (l1 := [_, _, _]) (L' := [_, _, _, _, _]) rfl rfl rfl rfl (Zq rfl rfl rfl (Zf 3 rfl) (by first | exact of_decide_eq_true rfl | omega | (simp [cOp, cWk, cIv, cHr, cLt, cWt, cIt, cFl, cTn, cCl, cPo, cSt, cDt, cDs, Sl.v]; done) | (simp [cOp, cWk, cIv, cHr, cLt, cWt, cIt, cFl, cTn, cCl, cPo, cSt, cDt, cDs, Sl.v]; omega) | (simp [cOp, cWk, cIv, cHr, cLt, cWt, cIt, cFl, cTn, cCl, cPo, cSt, cDt, cDs, Sl.v] at *; omega)) i_215 rfl rfl) rfl [2] rfl ?_
       refine Zw (by kernel_rfl) ?_
       refine Zs ?_
       refine Zd (l := [0, 1]) rfl ?_
       refine Za rfl rfl rfl rfl ((Yu rfl rfl rfl).int (Zv (by omega))) ?_
       refine Za rfl rfl rfl rfl (Zc rfl rfl) ?_
       refine Zg ?_
       rw [set_set]
       refine Yc ?_ [1, 2, 2] ?_ (ih (i + 1, u1, ms ++ [m], l2, e2) ?_ ?_)
       · (refine (And.intro ?_ (And.intro ?_ (And.intro ?_ (And.intro ?_ (And.intro ?_ trivial))))) <;> first | rfl | exact Zm (by omega) | exact Zm (by simp))
       · exact ⟨_, rfl⟩
       · exact ⟨by omega, by simp [hml], by rw [List.flatMap_append, List.flatMap_singleton]; exact hu1, hx.next hm (by omega)⟩
       · (first | omega | (dsimp only; omega))
  refine Yx rfl ?_
  refine G_end (post := [_, _, _]) Try.func178 rfl Zo [0, 0, 0] rfl ?_
  dsimp only [packed]
  first
    | exact ⟨insOf u 262 ms, l1, e1, Xd (by rw [hml]; exact hu) (by omega), by show ms.length ≤ _; omega, rdg_Lbad he h0 hx (by omega) _, rfl, by (try simp only [Xp, hml]); first | done | rfl⟩
    | (obtain rfl : i = n := by omega
       exact ⟨insOf u 262 ms, l1, e1, Xd (by rw [hml]; exact hu) (by omega), by show ms.length ≤ _; omega, rdg_L he h0 hx, rfl, by (try simp only [Xp, hml]); first | done | rfl⟩)

set_option maxRecDepth 100000 in
set_option maxHeartbeats 2000000 in
theorem cr_listOp (b br : Nat) (l : List UInt8) (e : Nat) (hl : l.length ≤ 140737488350000) (he : e ≤ 1000) (bx k : Nat) (cs : Array Value) (T : TypeId) (hk : cs[k]? = some (.slice none 0 0)) :
    Ct Try.prog 97 [.pointer (some ⟨b, 0, none⟩), .pointer (some ⟨bx, k, none⟩), .func (.func 98) #[.pointer (some ⟨b, 0, none⟩)] #[]] [(some b, .cells #[.pointer none, .slice none 0 0, .pointer (some ⟨br, 0, none⟩), .bool false] 80 (0, 0))] [(some br, .cells #[.string (bs l), .int .i64 ((e : Nat) : Int)] 169 (0, 0)), (some bx, .cells (cs) T (0, 0))] fun v post => ∃ (s : Ins Op) (l1 : List UInt8) (e1 : Nat), InsOk 18 cOp s ∧ s.l.length ≤ 1000 ∧ Rdg (encL encOp) (GL GOp) l e s.l l1 e1 ∧ v = .tuple #[] ∧ post = [(some br, .cells #[.string (bs l1), .int .i64 ((e1 : Nat) : Int)] 169 (0, 0)), (some bx, .cells (cs.setIfInBounds k (insV s)) T (0, 0)), insK s] := by
 obtain ⟨n, l0, e0, h0⟩ : ∃ a_ l_ e_, rdInt 1000 l e = (a_, l_, e_) := ⟨_, _, _, rfl⟩
 obtain ⟨hn, hl0, he0⟩ := rd_n he h0
 have hks := at_lt hk
 have hcs : cs.setIfInBounds k (slNil.v 0) = cs := set_self hk
 refine Yv Try.func97 rfl rfl (fun w0 => ?_)
 show G _ _ [(0, _), (1, _), (2, _)] _ _
 refine Zi ?_
 refine Zi ?_
 refine Zd (l := [0, 1, 2, 3, 4]) rfl ?_
 refine Za rfl rfl rfl rfl (Zc rfl rfl) ?_
 refine Za rfl rfl rfl rfl (Ze rfl rfl) ?_
 refine Za rfl rfl rfl rfl (Zb (fo := 2) rfl Try.underlying80 rfl i_74 rfl rfl rfl) ?_
 refine Za rfl rfl rfl rfl (Zj rfl rfl (Zf 0 rfl) rfl Try.underlying74 rfl) ?_
 refine Za rfl rfl rfl rfl (V_peqlN rfl Try.underlying74 rfl rfl) ?_
 refine Zg ?_
 refine G_else rfl ?_
 refine Zu ?_
 refine Zi ?_
 refine G_addNone (.cells #[] 137 (0, 0)) ?_
 refine Zd (l := [0, 1, 2, 3, 4, 5]) rfl ?_
 refine Za rfl rfl rfl rfl (Zc rfl rfl) ?_
 refine Za rfl rfl rfl rfl (Ze rfl rfl) ?_
 refine Za rfl rfl rfl rfl (Zb (fo := 2) rfl Try.underlying80 rfl i_74 rfl rfl rfl) ?_
 refine Za rfl rfl rfl rfl (Zj rfl rfl (Zf 0 rfl) rfl Try.underlying74 rfl) ?_
 refine Yh (L2 := [_, _]) rfl rfl rfl rfl rfl rfl Try.call84 ((rd_int br l e 1000 (by omega) (by omega) (by omega)).weaken (fun v post h => by rewrite [h0] at h; exact h)) [1] [] rfl rfl ?_
 rintro v post ⟨rfl, rfl⟩
 show G _ _ _ [_, _, _] _
 refine Za rfl rfl rfl rfl (Zc rfl rfl) ?_
 refine Zg ?_
 refine Zp ?_
 refine Yc ?he10 [0, 1, 0] ?hl10 (Xc (X := Nat × Sl × List Op × List UInt8 × Nat) (fun x_ => match x_ with | ⟨i, u, ms, l1, e1⟩ => i ≤ n ∧ ms.length = i ∧ Own 18 u (ms.flatMap cOp) i ∧ RdgL encOp GOp n l0 e0 i ms l1 e1) (fun x_ => match x_ with | ⟨i, u, ms, l1, e1⟩ => n - i) (fun x_ => match x_ with | ⟨i, u, ms, l1, e1⟩ => [(0, .pointer (some ⟨b, 0, none⟩)), (1, .pointer (some ⟨bx, k, none⟩)), (2, .func (.func 98) #[.pointer (some ⟨b, 0, none⟩)] #[]), (58, .int .i64 (n : Int)), (59, .int .i64 (i : Int))]) (fun x_ => match x_ with | ⟨i, u, ms, l1, e1⟩ => [(some br, .cells #[.string (bs l1), .int .i64 ((e1 : Nat) : Int)] 169 (0, 0)), (some bx, .cells (cs.setIfInBounds k (u.v i)) T (0, 0)), (u.ob, .cells u.cs 137 u.fz)]) ?round10 (0, slNil, [], l0, e0) ?h010)
 case he10 => exact (And.intro rfl (And.intro rfl (And.intro rfl (And.intro rfl (And.intro rfl trivial)))))
 case hl10 => exact ⟨_, by show tk _ _ = some ([_, (some bx, .cells (cs.setIfInBounds k (slNil.v 0)) T (0, 0)), _], _); rw [hcs]; rfl⟩
 case h010 => exact ⟨Nat.zero_le _, rfl, own_nil 18, .zero he0⟩
 case round10 =>
  intro x_ hJ ih
  try dsimp only at hJ ih
  obtain ⟨i, u, ms, l1, e1⟩ := x_
  try dsimp only at hJ ih
  obtain ⟨hi, hml, hu, hx⟩ := hJ
  show G _ _ [(0, .pointer (some ⟨b, 0, none⟩)), (1, .pointer (some ⟨bx, k, none⟩)), (2, .func (.func 98) #[.pointer (some ⟨b, 0, none⟩)] #[]), (58, .int .i64 (n : Int)), (59, .int .i64 (i : Int))] [(some br, .cells #[.string (bs l1), .int .i64 ((e1 : Nat) : Int)] 169 (0, 0)), (some bx, .cells (cs.setIfInBounds k (u.v i)) T (0, 0)), (u.ob, .cells u.cs 137 u.fz)] _
  have hl1 := hx.len
  have he1 := hx.err
  refine Zi ?_
  refine Zd (l := [0]) rfl ?_
  refine Za rfl rfl rfl rfl (Xh rfl rfl rfl) ?_
  refine Zg ?_
  refine Zi ?_
  refine Yl rfl (fun hc1 => ?_) (fun hc1 => ?_)
  ·
   refine Zu ?_
   refine Zi ?_
   refine Zp ?_
   refine Zi ?_
   refine Zi ?_
   refine Zd (l := [0, 1, 2, 3, 4, 5]) rfl ?_
   refine Za rfl rfl rfl rfl (Zc rfl rfl) ?_
   refine Za rfl rfl rfl rfl (Ze rfl rfl) ?_
   refine Za rfl rfl rfl rfl (Zb (fo := 2) rfl Try.underlying80 rfl i_74 rfl rfl rfl) ?_
   refine Za rfl rfl rfl rfl (Zj rfl rfl (Zf 0 rfl) rfl Try.underlying74 rfl) ?_
   refine Yh (L2 := [_, _, _]) rfl rfl rfl rfl rfl rfl Try.call86 (rd_err _ _ _) [] [1] rfl rfl ?_
   rintro v post ⟨rfl, rfl⟩
   show G _ _ _ [_, _, _] _
   refine Za rfl rfl rfl rfl (V_neq rfl rfl rfl) ?_
   refine Zg ?_
   refine Yl rfl (fun hc2 => ?_) (fun hc2 => ?_)
   ·
    refine Xa (post := [_, _, _]) Try.func97 rfl Zo [0, 0, 0] rfl ?_
    dsimp only [packed]
    first
      | exact ⟨insOf u 137 ms, l1, e1, Xd (by rw [hml]; exact hu) (by omega), by show ms.length ≤ _; omega, rdg_Lbad he h0 hx (by omega) _, rfl, by (try simp only [Xp, hml]); first | done | rfl⟩
      | (obtain rfl : i = n := by omega
         exact ⟨insOf u 137 ms, l1, e1, Xd (by rw [hml]; exact hu) (by omega), by show ms.length ≤ _; omega, rdg_L he h0 hx, rfl, by (try simp only [Xp, hml]); first | done | rfl⟩)
   refine Zu ?_
   refine Zi ?_
   refine Zd (l := [0]) rfl ?_
   refine Yr rfl rfl rfl rfl (Xb rfl i_137 rfl) (fun b8 => ?_)
   refine Zg ?_
   refine Zi ?_
   refine Zd (l := [0, 1]) rfl ?_
   refine Za rfl rfl rfl rfl (Zc rfl rfl) ?_
   refine G_callB (L2 := [_, _]) rfl rfl rfl rfl rfl rfl Try.call98 rfl (cr_op b br l1 e1 (by omega) (by omega) _ (⟨0, 0, 0, [], [], [], 0, 0, 0, 0, 0, 0, 0, 0, 0, 0, 0, 0⟩ : Op) _) [1, 0] [0] rfl rfl ?_
   rintro v post ⟨m, l2, e2, hm, rfl, rfl⟩
   show G _ _ _ [_, _, _, _] _
   refine Zg ?_
   refine Ya (Lq := [_]) (isq := [1]) (m := 9) Ym rfl rfl ?_
   refine Zh 0 rfl rfl rfl rfl (by kernel_rfl) (fun _ _ => Zc rfl rfl) ?_
   refine Zh 1 rfl rfl rfl rfl (by kernel_rfl) (fun _ _ => Zc rfl rfl) ?_
   refine Zh 2 rfl rfl rfl rfl (by kernel_rfl) (fun _ _ => Ze rfl rfl) ?_
   refine Zh 4 rfl rfl rfl rfl (by kernel_rfl) (fun _ _ => V_loadW (s := 18) rfl rfl (Zf 1 rfl) Try.underlying137 rfl i_137 rfl (by rfl)) ?_
   refine GH_all [3, 5] (by kernel_rfl) (by decide) ?_
   refine (And.intro ?_ (And.intro ?_ trivial))
   ·
    refine Xn rfl rfl rfl rfl (Zj rfl rfl (Zf 3 rfl) (Zr (set_at (u.v i) hks)) Try.underlying24 rfl) ?_
    refine GH_all [5] (by kernel_rfl) (by decide) ?_
    refine (And.intro ?_ trivial)
    ·
     refine Yz rfl rfl rfl rfl (Zn (s := 18) (cs := [_, _, _, _, _, _, _, _, _, _, _, _, _, _, _, _, _, _]) rfl Try.underlying24 i_137 rfl rfl rfl rfl rfl rfl rfl rfl rfl) [2] (fun _ => ⟨_, rfl⟩) (fun b74 => ?_)
     refine GH_all [6] (by kernel_rfl) (by decide) ?_
     refine (And.intro ?_ trivial)
     ·
      refine Xf (l1 := [_, _, _, _]) (s := u) (nn := i) (m := 1) (news := (cOp m)) (bt := 168) rfl rfl rfl rfl Try.underlying24 Try.underlying24 (by first | exact .inl rfl | exact .inr ⟨_, rfl⟩) i_137 rfl rfl rfl rfl rfl rfl hu rfl (Yp (Zf 1 rfl) rfl rfl (by simp [cOp, Value.oneCell'])) (by omega) (by omega) [2] (fun _ => ⟨_, rfl⟩) ?_
      intro u1 hu1 _
      show GH _ _ _ _ _ _ _ [_, _, _, _, _] _
      refine Zh 7 rfl rfl rfl rfl (by kernel_rfl) (fun _ _ => Ze rfl rfl) ?_
      refine GH_all [8] (by kernel_rfl) (by decide) ?_
      refine (And.intro ?_ trivial)
      ·
       refine Xi (l1 := [_, _, _]) (L' := [_, _, _, _, _]) rfl rfl rfl rfl (Zq rfl rfl rfl (Zf 3 rfl) (by first | exact of_decide_eq_true rfl | omega | (simp [cOp, cWk, cIv, cHr, cLt, cWt, cIt, cFl, cTn, cCl, cPo, cSt, cDt, cDs, Sl.v]; done) | (simp [cOp, cWk, cIv, cHr, cLt, cWt, cIt, cFl, cTn, cCl, cPo, cSt, cDt, cDs, Sl.v]; omega) | (simp [cOp, cWk, cIv, cHr, cLt, cWt, cIt, cFl, cTn, cCl, cPo, cSt, cDt, cDs, Sl.v] at *; omega)) i_24 rfl rfl) rfl [2] rfl ?_
       refine Zw (by kernel_rfl) ?_
       refine Zs ?_
       refine Zd (l := [0, 1]) rfl ?_
       refine Za rfl rfl rfl rfl ((Yu rfl rfl rfl).int (Zv (by omega))) ?_
       refine Za rfl rfl rfl rfl (Zc rfl rfl) ?_
       refine Zg ?_
       rw [set_set]
       refine Yc ?_ [1, 2, 2] ?_ (ih (i + 1, u1, ms ++ [m], l2, e2) ?_ ?_)
       · (refine (And.intro ?_ (And.intro ?_ (And.intro ?_ (And.intro ?_ (And.intro ?_ trivial))))) <;> first | rfl | exact Zm (by omega) | exact Zm (by simp))
       · exact ⟨_, rfl⟩
       · exact ⟨by omega, by simp [hml], by rw [List.flatMap_append, List.flatMap_singleton]; exact hu1, hx.next hm (by omega)⟩
       · (first | omega | (dsimp only; omega))
   ·
    refine Yz rfl rfl rfl rfl (Zn (s := 18) (cs := [_, _, _, _, _, _, _, _, _, _, _, _, _, _, _, _, _, _]) rfl Try.underlying24 i_137 rfl rfl rfl rfl rfl rfl rfl rfl rfl) [2] (fun _ => ⟨_, rfl⟩) (fun b74 => ?_)
    refine GH_all [3] (by kernel_rfl) (by decide) ?_
    refine (And.intro ?_ trivial)
    ·
     refine Xn rfl rfl rfl rfl (Zj rfl rfl (Zf 4 rfl) (Zr (set_at (u.v i) hks)) Try.underlying24 rfl) ?_
     refine GH_all [6] (by kernel_rfl) (by decide) ?_
     refine (And.intro ?_ trivial)
     ·
      refine Xf (l1 := [_, _, _, _]) (s := u) (nn := i) (m := 1) (news := (cOp m)) (bt := 168) rfl rfl rfl rfl Try.underlying24 Try.underlying24 (by first | exact .inl rfl | exact .inr ⟨_, rfl⟩) i_137 rfl rfl rfl rfl rfl rfl hu rfl (Yp (Zf 1 rfl) rfl rfl (by simp [cOp, Value.oneCell'])) (by omega) (by omega) [2] (fun _ => ⟨_, rfl⟩) ?_
      intro u1 hu1 _
      show GH _ _ _ _ _ _ _ [_, _, _, _, _] _
      refine Zh 7 rfl rfl rfl rfl (by kernel_rfl) (fun _ _ => Ze rfl rfl) ?_
      refine GH_all [8] (by kernel_rfl) (by decide) ?_
      refine (And.intro ?_ trivial)
      ·
       refine Xi (l1 := [_, _, _]) (L' := [_, _, _, _, _]) rfl rfl rfl rfl (Zq rfl rfl rfl (Zf 3 rfl) (by first | exact of_decide_eq_true rfl | omega | (simp [cOp, cWk, cIv, cHr, cLt, cWt, cIt, cFl, cTn, cCl, cPo, cSt, cDt, cDs, Sl.v]; done) | (simp [cOp, cWk, cIv, cHr, cLt, cWt, cIt, cFl, cTn, cCl, cPo, cSt, cDt, cDs, Sl.v]; omega) | (simp [cOp, cWk, cIv, cHr, cLt, cWt, cIt, cFl, cTn, cCl, cPo, cSt, cDt, cDs, Sl.v] at *; omega)) i_24 rfl rfl) rfl [2] rfl ?_
       refine Zw (by kernel_rfl) ?_
       refine Zs ?_
       refine Zd (l := [0, 1]) rfl ?_
       refine Za rfl rfl rfl rfl ((Yu rfl rfl rfl).int (Zv (by omega))) ?_
       refine Za rfl rfl rfl rfl (Zc rfl rfl) ?_
       refine Zg ?_
       rw [set_set]
       refine Yc ?_ [1, 2, 2] ?_ (ih (i + 1, u1, ms ++ [m], l2, e2) ?_ ?_)
       · (refine (And.intro ?_ (And.intro ?_ (And.intro ?_ (And.intro ?_ (And.intro ?_ trivial))))) <;> first | rfl | exact Zm (by omega) | exact Zm (by simp))
       · exact ⟨_, rfl⟩
       · exact ⟨by omega, by simp [hml], by rw [List.flatMap_append, List.flatMap_singleton]; exact hu1, hx.next hm (by omega)⟩
       · (first | omega | (dsimp only; omega))
  refine Yx rfl ?_
  refine G_end (post := [_, _, _]) Try.func97 rfl Zo [0, 0, 0] rfl ?_
  dsimp only [packed]
  first
    | exact ⟨insOf u 137 ms, l1, e1, Xd (by rw [hml]; exact hu) (by omega), by show ms.length ≤ _; omega, rdg_Lbad he h0 hx (by omega) _, rfl, by (try simp only [Xp, hml]); first | done | rfl⟩
    | (obtain rfl : i = n := by omega
       exact ⟨insOf u 137 ms, l1, e1, Xd (by rw [hml]; exact hu) (by omega), by show ms.length ≤ _; omega, rdg_L he h0 hx, rfl, by (try simp only [Xp, hml]); first | done | rfl⟩)

set_option maxRecDepth 100000 in
set_option maxHeartbeats 2000000 in
theorem cr_listWk (b br : Nat) (l : List UInt8) (e : Nat) (hl : l.length ≤ 140737488350000) (he : e ≤ 1000) (bx k : Nat) (cs : Array Value) (T : TypeId) (hk : cs[k]? = some (.slice none 0 0)) :
    Ct Try.prog 99 [.pointer (some ⟨b, 0, none⟩), .pointer (some ⟨bx, k, none⟩), .func (.func 100) #[.pointer (some ⟨b, 0, none⟩)] #[]] [(some b, .cells #[.pointer none, .slice none 0 0, .pointer (some ⟨br, 0, none⟩), .bool false] 80 (0, 0))] [(some br, .cells #[.string (bs l), .int .i64 ((e : Nat) : Int)] 169 (0, 0)), (some bx, .cells (cs) T (0, 0))] fun v post => ∃ (s : Ins Wk) (l1 : List UInt8) (e1 : Nat), InsOk 7 cWk s ∧ s.l.length ≤ 1000 ∧ Rdg (encL encWk) (GL GWk) l e s.l l1 e1 ∧ v = .tuple #[] ∧ post = [(some br, .cells #[.string (bs l1), .int .i64 ((e1 : Nat) : Int)] 169 (0, 0)), (some bx, .cells (cs.setIfInBounds k (insV s)) T (0, 0)), insK s] := by
 obtain ⟨n, l0, e0, h0⟩ : ∃ a_ l_ e_, rdInt 1000 l e = (a_, l_, e_) := ⟨_, _, _, rfl⟩
 obtain ⟨hn, hl0, he0⟩ := rd_n he h0
 have hks := at_lt hk
 have hcs : cs.setIfInBounds k (slNil.v 0) = cs := set_self hk
 refine Yv Try.func99 rfl rfl (fun w0 => ?_)
 show G _ _ [(0, _), (1, _), (2, _)] _ _
 refine Zi ?_
 refine Zi ?_
 refine Zd (l := [0, 1, 2, 3, 4]) rfl ?_
 refine Za rfl rfl rfl rfl (Zc rfl rfl) ?_
 refine Za rfl rfl rfl rfl (Ze rfl rfl) ?_
 refine Za rfl rfl rfl rfl (Zb (fo := 2) rfl Try.underlying80 rfl i_74 rfl rfl rfl) ?_
 refine Za rfl rfl rfl rfl (Zj rfl rfl (Zf 0 rfl) rfl Try.underlying74 rfl) ?_
 refine Za rfl rfl rfl rfl (V_peqlN rfl Try.underlying74 rfl rfl) ?_
 refine Zg ?_
 refine G_else rfl ?_
 refine Zu ?_
 refine Zi ?_
 refine G_addNone (.cells #[] 92 (0, 0)) ?_
 refine Zd (l := [0, 1, 2, 3, 4, 5]) rfl ?_
 refine Za rfl rfl rfl rfl (Zc rfl rfl) ?_
 refine Za rfl rfl rfl rfl (Ze rfl rfl) ?_
 refine Za rfl rfl rfl rfl (Zb (fo := 2) rfl Try.underlying80 rfl i_74 rfl rfl rfl) ?_
 refine Za rfl rfl rfl rfl (Zj rfl rfl (Zf 0 rfl) rfl Try.underlying74 rfl) ?_
 refine Yh (L2 := [_, _]) rfl rfl rfl rfl rfl rfl Try.call84 ((rd_int br l e 1000 (by omega) (by omega) (by omega)).weaken (fun v post h => by rewrite [h0] at h; exact h)) [1] [] rfl rfl ?_
 rintro v post ⟨rfl, rfl⟩
 show G _ _ _ [_, _, _] _
 refine Za rfl rfl rfl rfl (Zc rfl rfl) ?_
 refine Zg ?_
 refine Zp ?_
 refine Yc ?he10 [0, 1, 0] ?hl10 (Xc (X := Nat × Sl × List Wk × List UInt8 × Nat) (fun x_ => match x_ with | ⟨i, u, ms, l1, e1⟩ => i ≤ n ∧ ms.length = i ∧ Own 7 u (ms.flatMap cWk) i ∧ RdgL encWk GWk n l0 e0 i ms l1 e1) (fun x_ => match x_ with | ⟨i, u, ms, l1, e1⟩ => n - i) (fun x_ => match x_ with | ⟨i, u, ms, l1, e1⟩ => [(0, .pointer (some ⟨b, 0, none⟩)), (1, .pointer (some ⟨bx, k, none⟩)), (2, .func (.func 100) #[.pointer (some ⟨b, 0, none⟩)] #[]), (58, .int .i64 (n : Int)), (59, .int .i64 (i : Int))]) (fun x_ => match x_ with | ⟨i, u, ms, l1, e1⟩ => [(some br, .cells #[.string (bs l1), .int .i64 ((e1 : Nat) : Int)] 169 (0, 0)), (some bx, .cells (cs.setIfInBounds k (u.v i)) T (0, 0)), (u.ob, .cells u.cs 92 u.fz)]) ?round10 (0, slNil, [], l0, e0) ?h010)
 case he10 => exact (And.intro rfl (And.intro rfl (And.intro rfl (And.intro rfl (And.intro rfl trivial)))))
 case hl10 => exact ⟨_, by show tk _ _ = some ([_, (some bx, .cells (cs.setIfInBounds k (slNil.v 0)) T (0, 0)), _], _); rw [hcs]; rfl⟩
 case h010 => exact ⟨Nat.zero_le _, rfl, own_nil 7, .zero he0⟩
 case round10 =>
  intro x_ hJ ih
  try dsimp only at hJ ih
  obtain ⟨i, u, ms, l1, e1⟩ := x_
  try dsimp only at hJ ih
  obtain ⟨hi, hml, hu, hx⟩ := hJ
  show G _ _ [(0, .pointer (some ⟨b, 0, none⟩)), (1, .pointer (some ⟨bx, k, none⟩)), (2, .func (.func 100) #[.pointer (some ⟨b, 0, none⟩)] #[]), (58, .int .i64 (n : Int)), (59, .int .i64 (i : Int))] [(some br, .cells #[.string (bs l1), .int .i64 ((e1 : Nat) : Int)] 169 (0, 0)), (some bx, .cells (cs.setIfInBounds k (u.v i)) T (0, 0)), (u.ob, .cells u.cs 92 u.fz)] _
  have hl1 := hx.len
  have he1 := hx.err
  refine Zi ?_
  refine Zd (l := [0]) rfl ?_
  refine Za rfl rfl rfl rfl (Xh rfl rfl rfl) ?_
  refine Zg ?_
  refine Zi ?_
  refine Yl rfl (fun hc1 => ?_) (fun hc1 => ?_)
  ·
   refine Zu ?_
   refine Zi ?_
   refine Zp ?_
   refine Zi ?_
   refine Zi ?_
   refine Zd (l := [0, 1, 2, 3, 4, 5]) rfl ?_
   refine Za rfl rfl rfl rfl (Zc rfl rfl) ?_
   refine Za rfl rfl rfl rfl (Ze rfl rfl) ?_
   refine Za rfl rfl rfl rfl (Zb (fo := 2) rfl Try.underlying80 rfl i_74 rfl rfl rfl) ?_
   refine Za rfl rfl rfl rfl (Zj rfl rfl (Zf 0 rfl) rfl Try.underlying74 rfl) ?_
   refine Yh (L2 := [_, _, _]) rfl rfl rfl rfl rfl rfl Try.call86 (rd_err _ _ _) [] [1] rfl rfl ?_
   rintro v post ⟨rfl, rfl⟩
   show G _ _ _ [_, _, _] _
   refine Za rfl rfl rfl rfl (V_neq rfl rfl rfl) ?_
   refine Zg ?_
   refine Yl rfl (fun hc2 => ?_) (fun hc2 => ?_)
   ·
    refine Xa (post := [_, _, _]) Try.func99 rfl Zo [0, 0, 0] rfl ?_
    dsimp only [packed]
    first
      | exact ⟨insOf u 92 ms, l1, e1, Xd (by rw [hml]; exact hu) (by omega), by show ms.length ≤ _; omega, rdg_Lbad he h0 hx (by omega) _, rfl, by (try simp only [Xp, hml]); first | done | rfl⟩
      | (obtain rfl : i = n := by omega
         exact ⟨insOf u 92 ms, l1, e1, Xd (by rw [hml]; exact hu) (by omega), by show ms.length ≤ _; omega, rdg_L he h0 hx, rfl, by (try simp only [Xp, hml]); first | done | rfl⟩)
   refine Zu ?_
   refine Zi ?_
   refine Zd (l := [0]) rfl ?_
   refine Yr rfl rfl rfl rfl (Xb rfl i_92 rfl) (fun b8 => ?_)
   refine Zg ?_
   refine Zi ?_
   refine Zd (l := [0, 1]) rfl ?_
   refine Za rfl rfl rfl rfl (Zc rfl rfl) ?_
   refine G_callB (L2 := [_, _]) rfl rfl rfl rfl rfl rfl Try.call100 rfl (cr_worker b br l1 e1 (by omega) (by omega) _ (⟨0, 0, 0, [], [], false, 0⟩ : Wk) _) [1, 0] [0] rfl rfl ?_
   rintro v post ⟨m, l2, e2, hm, rfl, rfl⟩
   show G _ _ _ [_, _, _, _] _
   refine Zg ?_
   refine Ya (Lq := [_]) (isq := [1]) (m := 9) Ym rfl rfl ?_
   refine Zh 0 rfl rfl rfl rfl (by kernel_rfl) (fun _ _ => Zc rfl rfl) ?_
   refine Zh 1 rfl rfl rfl rfl (by kernel_rfl) (fun _ _ => Zc rfl rfl) ?_
   refine Zh 2 rfl rfl rfl rfl (by kernel_rfl) (fun _ _ => Ze rfl rfl) ?_
   refine Zh 4 rfl rfl rfl rfl (by kernel_rfl) (fun _ _ => V_loadW (s := 7) rfl rfl (Zf 1 rfl) Try.underlying92 rfl i_92 rfl (by rfl)) ?_
   refine GH_all [3, 5] (by kernel_rfl) (by decide) ?_
   refine (And.intro ?_ (And.intro ?_ trivial))
   ·
    refine Xn rfl rfl rfl rfl (Zj rfl rfl (Zf 3 rfl) (Zr (set_at (u.v i) hks)) Try.underlying25 rfl) ?_
    refine GH_all [5] (by kernel_rfl) (by decide) ?_
    refine (And.intro ?_ trivial)
    ·
     refine Yz rfl rfl rfl rfl (Zn (s := 7) (cs := [_, _, _, _, _, _, _]) rfl Try.underlying25 i_92 rfl rfl rfl rfl rfl rfl rfl rfl rfl) [2] (fun _ => ⟨_, rfl⟩) (fun b74 => ?_)
     refine GH_all [6] (by kernel_rfl) (by decide) ?_
     refine (And.intro ?_ trivial)
     ·
      refine Xf (l1 := [_, _, _, _]) (s := u) (nn := i) (m := 1) (news := (cWk m)) (bt := 72) rfl rfl rfl rfl Try.underlying25 Try.underlying25 (by first | exact .inl rfl | exact .inr ⟨_, rfl⟩) i_92 rfl rfl rfl rfl rfl rfl hu rfl (Yp (Zf 1 rfl) rfl rfl (by simp [cWk, Value.oneCell'])) (by omega) (by omega) [2] (fun _ => ⟨_, rfl⟩) ?_
      intro u1 hu1 _
      show GH _ _ _ _ _ _ _ [_, _, _, _, _] _
      refine Zh 7 rfl rfl rfl rfl (by kernel_rfl) (fun _ _ => Ze rfl rfl) ?_
      refine GH_all [8] (by kernel_rfl) (by decide) ?_
      refine (And.intro ?_ trivial)
      ·
       refine Xi (l1 := [_, _, _]) (L' := [_, _, _, _, _]) rfl rfl rfl rfl (Zq rfl rfl rfl (Zf 3 rfl) (by first | exact of_decide_eq_true rfl | omega | (simp [cOp, cWk, cIv, cHr, cLt, cWt, cIt, cFl, cTn, cCl, cPo, cSt, cDt, cDs, Sl.v]; done) | (simp [cOp, cWk, cIv, cHr, cLt, cWt, cIt, cFl, cTn, cCl, cPo, cSt, cDt, cDs, Sl.v]; omega) | (simp [cOp, cWk, cIv, cHr, cLt, cWt, cIt, cFl, cTn, cCl, cPo, cSt, cDt, cDs, Sl.v] at *; omega)) i_25 rfl rfl) rfl [2] rfl ?_
       refine Zw (by kernel_rfl) ?_
       refine Zs ?_
       refine Zd (l := [0, 1]) rfl ?_
       refine Za rfl rfl rfl rfl ((Yu rfl rfl rfl).int (Zv (by omega))) ?_
       refine Za rfl rfl rfl rfl (Zc rfl rfl) ?_
       refine Zg ?_
       rw [set_set]
       refine Yc ?_ [1, 2, 2] ?_ (ih (i + 1, u1, ms ++ [m], l2, e2) ?_ ?_)
       · (refine (And.intro ?_ (And.intro ?_ (And.intro ?_ (And.intro ?_ (And.intro ?_ trivial))))) <;> first | rfl | exact Zm (by omega) | exact Zm (by simp))
       · exact ⟨_, rfl⟩
       · exact ⟨by omega, by simp [hml], by rw [List.flatMap_append, List.flatMap_singleton]; exact hu1, hx.next hm (by omega)⟩
       · (first | omega | (dsimp only; omega))
   ·
    refine Yz rfl rfl rfl rfl (Zn (s := 7) (cs := [_, _, _, _, _, _, _]) rfl Try.underlying25 i_92 rfl rfl rfl rfl rfl rfl rfl rfl rfl) [2] (fun _ => ⟨_, rfl⟩) (fun b74 => ?_)
    refine GH_all [3] (by kernel_rfl) (by decide) ?_
    refine (And.intro ?_ trivial)
    ·
     refine Xn rfl rfl rfl rfl (Zj rfl rfl (Zf 4 rfl) (Zr (set_at (u.v i) hks)) Try.underlying25 rfl) ?_
     refine GH_all [6] (by kernel_rfl) (by decide) ?_
     refine (And.intro ?_ trivial)
     ·
      refine Xf (l1 := [_, _, _, _]) (s := u) (nn := i) (m := 1) (news := (cWk m)) (bt := 72) rfl rfl rfl rfl Try.underlying25 Try.underlying25 (by first | exact .inl rfl | exact .inr ⟨_, rfl⟩) i_92 rfl rfl rfl rfl rfl rfl hu rfl (Yp (Zf 1 rfl) rfl rfl (by simp [cWk, Value.oneCell'])) (by omega) (by omega) [2] (fun _ => ⟨_, rfl⟩) ?_
      intro u1 hu1 _
      show GH _ _ _ _ _ _ _ [_, _, _, _, _] _
      refine Zh 7 rfl rfl rfl rfl (by kernel_rfl) (fun _ _ => Ze rfl rfl) ?_
      refine GH_all [8] (by kernel_rfl) (by decide) ?_
      refine (And.intro ?_ trivial)
      ·
       refine Xi (l1 := [_, _, _]) (L' := [_, _, _, _, _]) rfl rfl rfl rfl (Zq rfl rfl rfl (Zf 3 rfl) (by first | exact of_decide_eq_true rfl | omega | (simp [cOp, cWk, cIv, cHr, cLt, cWt, cIt, cFl, cTn, cCl, cPo, cSt, cDt, cDs, Sl.v]; done) | (simp [cOp, cWk, cIv, cHr, cLt, cWt, cIt, cFl, cTn, cCl, cPo, cSt, cDt, cDs, Sl.v]; omega) | (simp [cOp, cWk, cIv, cHr, cLt, cWt, cIt, cFl, cTn, cCl, cPo, cSt, cDt, cDs, Sl.v] at *; omega)) i_25 rfl rfl) rfl [2] rfl ?_
       refine Zw (by kernel_rfl) ?_
       refine Zs ?_
       refine Zd (l := [0, 1]) rfl ?_
       refine Za rfl rfl rfl rfl ((Yu rfl rfl rfl).int (Zv (by omega))) ?_
       refine Za rfl rfl rfl rfl (Zc rfl rfl) ?_
       refine Zg ?_
       rw [set_set]
       refine Yc ?_ [1, 2, 2] ?_ (ih (i + 1, u1, ms ++ [m], l2, e2) ?_ ?_)
       · (refine (And.intro ?_ (And.intro ?_ (And.intro ?_ (And.intro ?_ (And.intro ?_ trivial))))) <;> first | rfl | exact Zm (by omega) | exact Zm (by simp))
       · exact ⟨_, rfl⟩
       · exact ⟨by omega, by simp [hml], by rw [List.flatMap_append, List.flatMap_singleton]; exact hu1, hx.next hm (by omega)⟩
       · (first | omega | (dsimp only; omega))
  refine Yx rfl ?_
  refine G_end (post := [_, _, _]) Try.func99 rfl Zo [0, 0, 0] rfl ?_
  dsimp only [packed]
  first
    | exact ⟨insOf u 92 ms, l1, e1, Xd (by rw [hml]; exact hu) (by omega), by show ms.length ≤ _; omega, rdg_Lbad he h0 hx (by omega) _, rfl, by (try simp only [Xp, hml]); first | done | rfl⟩
    | (obtain rfl : i = n := by omega
       exact ⟨insOf u 92 ms, l1, e1, Xd (by rw [hml]; exact hu) (by omega), by show ms.length ≤ _; omega, rdg_L he h0 hx, rfl, by (try simp only [Xp, hml]); first | done | rfl⟩)

set_option maxRecDepth 100000 in
set_option maxHeartbeats 2000000 in
theorem cr_listIv (b br : Nat) (l : List UInt8) (e : Nat) (hl : l.length ≤ 140737488350000) (he : e ≤ 1000) (bx k : Nat) (cs : Array Value) (T : TypeId) (hk : cs[k]? = some (.slice none 0 0)) :
    Ct Try.prog 101 [.pointer (some ⟨b, 0, none⟩), .pointer (some ⟨bx, k, none⟩), .func (.func 102) #[.pointer (some ⟨b, 0, none⟩)] #[]] [(some b, .cells #[.pointer none, .slice none 0 0, .pointer (some ⟨br, 0, none⟩), .bool false] 80 (0, 0))] [(some br, .cells #[.string (bs l), .int .i64 ((e : Nat) : Int)] 169 (0, 0)), (some bx, .cells (cs) T (0, 0))] fun v post => ∃ (s : Ins Iv) (l1 : List UInt8) (e1 : Nat), InsOk 5 cIv s ∧ s.l.length ≤ 1000 ∧ Rdg (encL encIv) (GL GIv) l e s.l l1 e1 ∧ v = .tuple #[] ∧ post = [(some br, .cells #[.string (bs l1), .int .i64 ((e1 : Nat) : Int)] 169 (0, 0)), (some bx, .cells (cs.setIfInBounds k (insV s)) T (0, 0)), insK s] := by
 obtain ⟨n, l0, e0, h0⟩ : ∃ a_ l_ e_, rdInt 1000 l e = (a_, l_, e_) := ⟨_, _, _, rfl⟩
 obtain ⟨hn, hl0, he0⟩ := rd_n he h0
 have hks := at_lt hk
 have hcs : cs.setIfInBounds k (slNil.v 0) = cs := set_self hk
 refine Yv Try.func101 rfl rfl (fun w0 => ?_)
 show G _ _ [(0, _), (1, _), (2, _)] _ _
 refine Zi ?_
 refine Zi ?_
 refine Zd (l := [0, 1, 2, 3, 4]) rfl ?_
 refine Za rfl rfl rfl rfl (Zc rfl rfl) ?_
 refine Za rfl rfl rfl rfl (Ze rfl rfl) ?_
 refine Za rfl rfl rfl rfl (Zb (fo := 2) rfl Try.underlying80 rfl i_74 rfl rfl rfl) ?_
 refine Za rfl rfl rfl rfl (Zj rfl rfl (Zf 0 rfl) rfl Try.underlying74 rfl) ?_
 refine Za rfl rfl rfl rfl (V_peqlN rfl Try.underlying74 rfl rfl) ?_
 refine Zg ?_
 refine G_else rfl ?_
 refine Zu ?_
 refine Zi ?_
 refine G_addNone (.cells #[] 95 (0, 0)) ?_
 refine Zd (l := [0, 1, 2, 3, 4, 5]) rfl ?_
 refine Za rfl rfl rfl rfl (Zc rfl rfl) ?_
 refine Za rfl rfl rfl rfl (Ze rfl rfl) ?_
 refine Za rfl rfl rfl rfl (Zb (fo := 2) rfl Try.underlying80 rfl i_74 rfl rfl rfl) ?_
 refine Za rfl rfl rfl rfl (Zj rfl rfl (Zf 0 rfl) rfl Try.underlying74 rfl) ?_
 refine Yh (L2 := [_, _]) rfl rfl rfl rfl rfl rfl Try.call84 ((rd_int br l e 1000 (by omega) (by omega) (by omega)).weaken (fun v post h => by rewrite [h0] at h; exact h)) [1] [] rfl rfl ?_
 rintro v post ⟨rfl, rfl⟩
 show G _ _ _ [_, _, _] _
 refine Za rfl rfl rfl rfl (Zc rfl rfl) ?_
 refine Zg ?_
 refine Zp ?_
 refine Yc ?he10 [0, 1, 0] ?hl10 (Xc (X := Nat × Sl × List Iv × List UInt8 × Nat) (fun x_ => match x_ with | ⟨i, u, ms, l1, e1⟩ => i ≤ n ∧ ms.length = i ∧ Own 5 u (ms.flatMap cIv) i ∧ RdgL encIv GIv n l0 e0 i ms l1 e1) (fun x_ => match x_ with | ⟨i, u, ms, l1, e1⟩ => n - i) (fun x_ => match x_ with | ⟨i, u, ms, l1, e1⟩ => [(0, .pointer (some ⟨b, 0, none⟩)), (1, .pointer (some ⟨bx, k, none⟩)), (2, .func (.func 102) #[.pointer (some ⟨b, 0, none⟩)] #[]), (58, .int .i64 (n : Int)), (59, .int .i64 (i : Int))]) (fun x_ => match x_ with | ⟨i, u, ms, l1, e1⟩ => [(some br, .cells #[.string (bs l1), .int .i64 ((e1 : Nat) : Int)] 169 (0, 0)), (some bx, .cells (cs.setIfInBounds k (u.v i)) T (0, 0)), (u.ob, .cells u.cs 95 u.fz)]) ?round10 (0, slNil, [], l0, e0) ?h010)
 case he10 => exact (And.intro rfl (And.intro rfl (And.intro rfl (And.intro rfl (And.intro rfl trivial)))))
 case hl10 => exact ⟨_, by show tk _ _ = some ([_, (some bx, .cells (cs.setIfInBounds k (slNil.v 0)) T (0, 0)), _], _); rw [hcs]; rfl⟩
 case h010 => exact ⟨Nat.zero_le _, rfl, own_nil 5, .zero he0⟩
 case round10 =>
  intro x_ hJ ih
  try dsimp only at hJ ih
  obtain ⟨i, u, ms, l1, e1⟩ := x_
  try dsimp only at hJ ih
  obtain ⟨hi, hml, hu, hx⟩ := hJ
  show G _ _ [(0, .pointer (some ⟨b, 0, none⟩)), (1, .pointer (some ⟨bx, k, none⟩)), (2, .func (.func 102) #[.pointer (some ⟨b, 0, none⟩)] #[]), (58, .int .i64 (n : Int)), (59, .int .i64 (i : Int))] [(some br, .cells #[.string (bs l1), .int .i64 ((e1 : Nat) : Int)] 169 (0, 0)), (some bx, .cells (cs.setIfInBounds k (u.v i)) T (0, 0)), (u.ob, .cells u.cs 95 u.fz)] _
  have hl1 := hx.len
  have he1 := hx.err
  refine Zi ?_
  refine Zd (l := [0]) rfl ?_
  refine Za rfl rfl rfl rfl (Xh rfl rfl rfl) ?_
  refine Zg ?_
  refine Zi ?_
  refine Yl rfl (fun hc1 => ?_) (fun hc1 => ?_)
  ·
   refine Zu ?_
   refine Zi ?_
   refine Zp ?_
   refine Zi ?_
   refine Zi ?_
   refine Zd (l := [0, 1, 2, 3, 4, 5]) rfl ?_
   refine Za rfl rfl rfl rfl (Zc rfl rfl) ?_
   refine Za rfl rfl rfl rfl (Ze rfl rfl) ?_
   refine Za rfl rfl rfl rfl (Zb (fo := 2) rfl Try.underlying80 rfl i_74 rfl rfl rfl) ?_
   refine Za rfl rfl rfl rfl (Zj rfl rfl (Zf 0 rfl) rfl Try.underlying74 rfl) ?_
   refine Yh (L2 := [_, _, _]) rfl rfl rfl rfl rfl rfl Try.call86 (rd_err _ _ _) [] [1] rfl rfl ?_
   rintro v post ⟨rfl, rfl⟩
   show G _ _ _ [_, _, _] _
   refine Za rfl rfl rfl rfl (V_neq rfl rfl rfl) ?_
   refine Zg ?_
   refine Yl rfl (fun hc2 => ?_) (fun hc2 => ?_)
   ·
    refine Xa (post := [_, _, _]) Try.func101 rfl Zo [0, 0, 0] rfl ?_
    dsimp only [packed]
    first
      | exact ⟨insOf u 95 ms, l1, e1, Xd (by rw [hml]; exact hu) (by omega), by show ms.length ≤ _; omega, rdg_Lbad he h0 hx (by omega) _, rfl, by (try simp only [Xp, hml]); first | done | rfl⟩
      | (obtain rfl : i = n := by omega
         exact ⟨insOf u 95 ms, l1, e1, Xd (by rw [hml]; exact hu) (by omega), by show ms.length ≤ _; omega, rdg_L he h0 hx, rfl, by (try simp only [Xp, hml]); first | done | rfl⟩)
   refine Zu ?_
   refine Zi ?_
   refine Zd (l := [0]) rfl ?_
   refine Yr rfl rfl rfl rfl (Xb rfl i_95 rfl) (fun b8 => ?_)
   refine Zg ?_
   refine Zi ?_
   refine Zd (l := [0, 1]) rfl ?_
   refine Za rfl rfl rfl rfl (Zc rfl rfl) ?_
   refine G_callB (L2 := [_, _]) rfl rfl rfl rfl rfl rfl Try.call102 rfl (cr_inv b br l1 e1 (by omega) (by omega) _ (⟨0, 0, [], 0, 0⟩ : Iv) _) [1, 0] [0] rfl rfl ?_
   rintro v post ⟨m, l2, e2, hm, rfl, rfl⟩
   show G _ _ _ [_, _, _, _] _
   refine Zg ?_
   refine Ya (Lq := [_]) (isq := [1]) (m := 9) Ym rfl rfl ?_
   refine Zh 0 rfl rfl rfl rfl (by kernel_rfl) (fun _ _ => Zc rfl rfl) ?_
   refine Zh 1 rfl rfl rfl rfl (by kernel_rfl) (fun _ _ => Zc rfl rfl) ?_
   refine Zh 2 rfl rfl rfl rfl (by kernel_rfl) (fun _ _ => Ze rfl rfl) ?_
   refine Zh 4 rfl rfl rfl rfl (by kernel_rfl) (fun _ _ => V_loadW (s := 5) rfl rfl (Zf 1 rfl) Try.underlying95 rfl i_95 rfl (by rfl)) ?_
   refine GH_all [3, 5] (by kernel_rfl) (by decide) ?_
   refine (And.intro ?_ (And.intro ?_ trivial))
   ·
    refine Xn rfl rfl rfl rfl (Zj rfl rfl (Zf 3 rfl) (Zr (set_at (u.v i) hks)) Try.underlying26 rfl) ?_
    refine GH_all [5] (by kernel_rfl) (by decide) ?_
    refine (And.intro ?_ trivial)
    ·
     refine Yz rfl rfl rfl rfl (Zn (s := 5) (cs := [_, _, _, _, _]) rfl Try.underlying26 i_95 rfl rfl rfl rfl rfl rfl rfl rfl rfl) [2] (fun _ => ⟨_, rfl⟩) (fun b74 => ?_)
     refine GH_all [6] (by kernel_rfl) (by decide) ?_
     refine (And.intro ?_ trivial)
     ·
      refine Xf (l1 := [_, _, _, _]) (s := u) (nn := i) (m := 1) (news := (cIv m)) (bt := 48) rfl rfl rfl rfl Try.underlying26 Try.underlying26 (by first | exact .inl rfl | exact .inr ⟨_, rfl⟩) i_95 rfl rfl rfl rfl rfl rfl hu rfl (Yp (Zf 1 rfl) rfl rfl (by simp [cIv, Value.oneCell'])) (by omega) (by omega) [2] (fun _ => ⟨_, rfl⟩) ?_
      intro u1 hu1 _
      show GH _ _ _ _ _ _ _ [_, _, _, _, _] _
      refine Zh 7 rfl rfl rfl rfl (by kernel_rfl) (fun _ _ => Ze rfl rfl) ?_
      refine GH_all [8] (by kernel_rfl) (by decide) ?_
      refine (And.intro ?_ trivial)
      ·
       refine Xi (l1 := [_, _, _]) (L' := [_, _, _, _, _]) rfl rfl rfl rfl (Zq rfl rfl rfl (Zf 3 rfl) (by first | exact of_decide_eq_true rfl | omega | (simp [cOp, cWk, cIv, cHr, cLt, cWt, cIt, cFl, cTn, cCl, cPo, cSt, cDt, cDs, Sl.v]; done) | (simp [cOp, cWk, cIv, cHr, cLt, cWt, cIt, cFl, cTn, cCl, cPo, cSt, cDt, cDs, Sl.v]; omega) | (simp [cOp, cWk, cIv, cHr, cLt, cWt, cIt, cFl, cTn, cCl, cPo, cSt, cDt, cDs, Sl.v] at *; omega)) i_26 rfl rfl) rfl [2] rfl ?_
       refine Zw (by kernel_rfl) ?_
       refine Zs ?_
       refine Zd (l := [0, 1]) rfl ?_
       refine Za rfl rfl rfl rfl ((Yu rfl rfl rfl).int (Zv (by omega))) ?_
       refine Za rfl rfl rfl rfl (Zc rfl rfl) ?_
       refine Zg ?_
       rw [set_set]
       refine Yc ?_ [1, 2, 2] ?_ (ih (i + 1, u1, ms ++ [m], l2, e2) ?_ ?_)
       · (refine (And.intro ?_ (And.intro ?_ (And.intro ?_ (And.intro ?_ (And.intro ?_ trivial))))) <;> first | rfl | exact Zm (by omega) | exact Zm (by simp))
       · exact ⟨_, rfl⟩
       · exact ⟨by omega, by simp [hml], by rw [List.flatMap_append, List.flatMap_singleton]; exact hu1, hx.next hm (by omega)⟩
       · (first | omega | (dsimp only; omega))
   ·
    refine Yz rfl rfl rfl rfl (Zn (s := 5) (cs := [_, _, _, _, _]) rfl Try.underlying26 i_95 rfl rfl rfl rfl rfl rfl rfl rfl rfl) [2] (fun _ => ⟨_, rfl⟩) (fun b74 => ?_)
    refine GH_all [3] (by kernel_rfl) (by decide) ?_
    refine (And.intro ?_ trivial)
    ·
     refine Xn rfl rfl rfl rfl (Zj rfl rfl (Zf 4 rfl) (Zr (set_at (u.v i) hks)) Try.underlying26 rfl) ?_
     refine GH_all [6] (by kernel_rfl) (by decide) ?_
     refine (And.intro ?_ trivial)
     ·
      refine Xf (l1 := [_, _, _, _]) (s := u) (nn := i) (m := 1) (news := (cIv m)) (bt := 48) rfl rfl rfl rfl Try.underlying26 Try.underlying26 (by first | exact .inl rfl | exact .inr ⟨_, rfl⟩) i_95 rfl rfl rfl rfl rfl rfl hu rfl (Yp (Zf 1 rfl) rfl rfl (by simp [cIv, Value.oneCell'])) (by omega) (by omega) [2] (fun _ => ⟨_, rfl⟩) ?_
      intro u1 hu1 _
      show GH _ _ _ _ _ _ _ [_, _, _, _, _] _
      refine Zh 7 rfl rfl rfl rfl (by kernel_rfl) (fun _ _ => Ze rfl rfl) ?_
      refine GH_all [8] (by kernel_rfl) (by decide) ?_
      refine (And.intro ?_ trivial)
      ·
       refine Xi (l1 := [_, _, _]) (L' := [_, _, _, _, _]) rfl rfl rfl rfl (Zq rfl rfl rfl (Zf 3 rfl) (by first | exact of_decide_eq_true rfl | omega | (simp [cOp, cWk, cIv, cHr, cLt, cWt, cIt, cFl, cTn, cCl, cPo, cSt, cDt, cDs, Sl.v]; done) | (simp [cOp, cWk, cIv, cHr, cLt, cWt, cIt, cFl, cTn, cCl, cPo, cSt, cDt, cDs, Sl.v]; omega) | (simp [cOp, cWk, cIv, cHr, cLt, cWt, cIt, cFl, cTn, cCl, cPo, cSt, cDt, cDs, Sl.v] at *; omega)) i_26 rfl rfl) rfl [2] rfl ?_
       refine Zw (by kernel_rfl) ?_
       refine Zs ?_
       refine Zd (l := [0, 1]) rfl ?_
       refine Za rfl rfl rfl rfl ((Yu rfl rfl rfl).int (Zv (by omega))) ?_
       refine Za rfl rfl rfl rfl (Zc rfl rfl) ?_
       refine Zg ?_
       rw [set_set]
       refine Yc ?_ [1, 2, 2] ?_ (ih (i + 1, u1, ms ++ [m], l2, e2) ?_ ?_)
       · (refine (And.intro ?_ (And.intro ?_ (And.intro ?_ (And.intro ?_ (And.intro ?_ trivial))))) <;> first | rfl | exact Zm (by omega) | exact Zm (by simp))
       · exact ⟨_, rfl⟩
       · exact ⟨by omega, by simp [hml], by rw [List.flatMap_append, List.flatMap_singleton]; exact hu1, hx.next hm (by omega)⟩
       · (first | omega | (dsimp only; omega))
  refine Yx rfl ?_
  refine G_end (post := [_, _, _]) Try.func101 rfl Zo [0, 0, 0] rfl ?_
  dsimp only [packed]
  first
    | exact ⟨insOf u 95 ms, l1, e1, Xd (by rw [hml]; exact hu) (by omega), by show ms.length ≤ _; omega, rdg_Lbad he h0 hx (by omega) _, rfl, by (try simp only [Xp, hml]); first | done | rfl⟩
    | (obtain rfl : i = n := by omega
       exact ⟨insOf u 95 ms, l1, e1, Xd (by rw [hml]; exact hu) (by omega), by show ms.length ≤ _; omega, rdg_L he h0 hx, rfl, by (try simp only [Xp, hml]); first | done | rfl⟩)

set_option maxRecDepth 100000 in
set_option maxHeartbeats 2000000 in
theorem cr_listHr (b br : Nat) (l : List UInt8) (e : Nat) (hl : l.length ≤ 140737488350000) (he : e ≤ 1000) (bx k : Nat) (cs : Array Value) (T : TypeId) (hk : cs[k]? = some (.slice none 0 0)) :
    Ct Try.prog 105 [.pointer (some ⟨b, 0, none⟩), .pointer (some ⟨bx, k, none⟩), .func (.func 106) #[.pointer (some ⟨b, 0, none⟩)] #[]] [(some b, .cells #[.pointer none, .slice none 0 0, .pointer (some ⟨br, 0, none⟩), .bool false] 80 (0, 0))] [(some br, .cells #[.string (bs l), .int .i64 ((e : Nat) : Int)] 169 (0, 0)), (some bx, .cells (cs) T (0, 0))] fun v post => ∃ (s : Ins Hr) (l1 : List UInt8) (e1 : Nat), InsOk 17 cHr s ∧ s.l.length ≤ 1000 ∧ Rdg (encL encHr) (GL GHr) l e s.l l1 e1 ∧ v = .tuple #[] ∧ post = [(some br, .cells #[.string (bs l1), .int .i64 ((e1 : Nat) : Int)] 169 (0, 0)), (some bx, .cells (cs.setIfInBounds k (insV s)) T (0, 0)), insK s] := by
 obtain ⟨n, l0, e0, h0⟩ : ∃ a_ l_ e_, rdInt 1000 l e = (a_, l_, e_) := ⟨_, _, _, rfl⟩
 obtain ⟨hn, hl0, he0⟩ := rd_n he h0
 have hks := at_lt hk
 have hcs : cs.setIfInBounds k (slNil.v 0) = cs := set_self hk
 refine Yv Try.func105 rfl rfl (fun w0 => ?_)
 show G _ _ [(0, _), (1, _), (2, _)] _ _
 refine Zi ?_
 refine Zi ?_
 refine Zd (l := [0, 1, 2, 3, 4]) rfl ?_
 refine Za rfl rfl rfl rfl (Zc rfl rfl) ?_
 refine Za rfl rfl rfl rfl (Ze rfl rfl) ?_
 refine Za rfl rfl rfl rfl (Zb (fo := 2) rfl Try.underlying80 rfl i_74 rfl rfl rfl) ?_
 refine Za rfl rfl rfl rfl (Zj rfl rfl (Zf 0 rfl) rfl Try.underlying74 rfl) ?_
 refine Za rfl rfl rfl rfl (V_peqlN rfl Try.underlying74 rfl rfl) ?_
 refine Zg ?_
 refine G_else rfl ?_
 refine Zu ?_
 refine Zi ?_
 refine G_addNone (.cells #[] 141 (0, 0)) ?_
 refine Zd (l := [0, 1, 2, 3, 4, 5]) rfl ?_
 refine Za rfl rfl rfl rfl (Zc rfl rfl) ?_
 refine Za rfl rfl rfl rfl (Ze rfl rfl) ?_
 refine Za rfl rfl rfl rfl (Zb (fo := 2) rfl Try.underlying80 rfl i_74 rfl rfl rfl) ?_
 refine Za rfl rfl rfl rfl (Zj rfl rfl (Zf 0 rfl) rfl Try.underlying74 rfl) ?_
 refine Yh (L2 := [_, _]) rfl rfl rfl rfl rfl rfl Try.call84 ((rd_int br l e 1000 (by omega) (by omega) (by omega)).weaken (fun v post h => by rewrite [h0] at h; exact h)) [1] [] rfl rfl ?_
 rintro v post ⟨rfl, rfl⟩
 show G _ _ _ [_, _, _] _
 refine Za rfl rfl rfl rfl (Zc rfl rfl) ?_
 refine Zg ?_
 refine Zp ?_
 refine Yc ?he10 [0, 1, 0] ?hl10 (Xc (X := Nat × Sl × List Hr × List UInt8 × Nat) (fun x_ => match x_ with | ⟨i, u, ms, l1, e1⟩ => i ≤ n ∧ ms.length = i ∧ Own 17 u (ms.flatMap cHr) i ∧ RdgL encHr GHr n l0 e0 i ms l1 e1) (fun x_ => match x_ with | ⟨i, u, ms, l1, e1⟩ => n - i) (fun x_ => match x_ with | ⟨i, u, ms, l1, e1⟩ => [(0, .pointer (some ⟨b, 0, none⟩)), (1, .pointer (some ⟨bx, k, none⟩)), (2, .func (.func 106) #[.pointer (some ⟨b, 0, none⟩)] #[]), (58, .int .i64 (n : Int)), (59, .int .i64 (i : Int))]) (fun x_ => match x_ with | ⟨i, u, ms, l1, e1⟩ => [(some br, .cells #[.string (bs l1), .int .i64 ((e1 : Nat) : Int)] 169 (0, 0)), (some bx, .cells (cs.setIfInBounds k (u.v i)) T (0, 0)), (u.ob, .cells u.cs 141 u.fz)]) ?round10 (0, slNil, [], l0, e0) ?h010)
 case he10 => exact (And.intro rfl (And.intro rfl (And.intro rfl (And.intro rfl (And.intro rfl trivial)))))
 case hl10 => exact ⟨_, by show tk _ _ = some ([_, (some bx, .cells (cs.setIfInBounds k (slNil.v 0)) T (0, 0)), _], _); rw [hcs]; rfl⟩
 case h010 => exact ⟨Nat.zero_le _, rfl, own_nil 17, .zero he0⟩
 case round10 =>
  intro x_ hJ ih
  try dsimp only at hJ ih
  obtain ⟨i, u, ms, l1, e1⟩ := x_
  try dsimp only at hJ ih
  obtain ⟨hi, hml, hu, hx⟩ := hJ
  show G _ _ [(0, .pointer (some ⟨b, 0, none⟩)), (1, .pointer (some ⟨bx, k, none⟩)), (2, .func (.func 106) #[.pointer (some ⟨b, 0, none⟩)] #[]), (58, .int .i64 (n : Int)), (59, .int .i64 (i : Int))] [(some br, .cells #[.string (bs l1), .int .i64 ((e1 : Nat) : Int)] 169 (0, 0)), (some bx, .cells (cs.setIfInBounds k (u.v i)) T (0, 0)), (u.ob, .cells u.cs 141 u.fz)] _
  have hl1 := hx.len
  have he1 := hx.err
  refine Zi ?_
  refine Zd (l := [0]) rfl ?_
  refine Za rfl rfl rfl rfl (Xh rfl rfl rfl) ?_
  refine Zg ?_
  refine Zi ?_
  refine Yl rfl (fun hc1 => ?_) (fun hc1 => ?_)
  ·
   refine Zu ?_
   refine Zi ?_
   refine Zp ?_
   refine Zi ?_
   refine Zi ?_
   refine Zd (l := [0, 1, 2, 3, 4, 5]) rfl ?_
   refine Za rfl rfl rfl rfl (Zc rfl rfl) ?_
   refine Za rfl rfl rfl rfl (Ze rfl rfl) ?_
   refine Za rfl rfl rfl rfl (Zb (fo := 2) rfl Try.underlying80 rfl i_74 rfl rfl rfl) ?_
   refine Za rfl rfl rfl rfl (Zj rfl rfl (Zf 0 rfl) rfl Try.underlying74 rfl) ?_
   refine Yh (L2 := [_, _, _]) rfl rfl rfl rfl rfl rfl Try.call86 (rd_err _ _ _) [] [1] rfl rfl ?_
   rintro v post ⟨rfl, rfl⟩
   show G _ _ _ [_, _, _] _
   refine Za rfl rfl rfl rfl (V_neq rfl rfl rfl) ?_
   refine Zg ?_
   refine Yl rfl (fun hc2 => ?_) (fun hc2 => ?_)
   ·
    refine Xa (post := [_, _, _]) Try.func105 rfl Zo [0, 0, 0] rfl ?_
    dsimp only [packed]
    first
      | exact ⟨insOf u 141 ms, l1, e1, Xd (by rw [hml]; exact hu) (by omega), by show ms.length ≤ _; omega, rdg_Lbad he h0 hx (by omega) _, rfl, by (try simp only [Xp, hml]); first | done | rfl⟩
      | (obtain rfl : i = n := by omega
         exact ⟨insOf u 141 ms, l1, e1, Xd (by rw [hml]; exact hu) (by omega), by show ms.length ≤ _; omega, rdg_L he h0 hx, rfl, by (try simp only [Xp, hml]); first | done | rfl⟩)
   refine Zu ?_
   refine Zi ?_
   refine Zd (l := [0]) rfl ?_
   refine Yr rfl rfl rfl rfl (Xb rfl i_141 rfl) (fun b8 => ?_)
   refine Zg ?_
   refine Zi ?_
   refine Zd (l := [0, 1]) rfl ?_
   refine Za rfl rfl rfl rfl (Zc rfl rfl) ?_
   refine G_callB (L2 := [_, _]) rfl rfl rfl rfl rfl rfl Try.call106 rfl (cr_row b br l1 e1 (by omega) (by omega) _ (⟨[], 0, 0, 0, 0, 0, 0, 0, 0, 0, 0, 0, 0, 0, 0, 0, 0⟩ : Hr) _) [1, 0] [0] rfl rfl ?_
   rintro v post ⟨m, l2, e2, hm, rfl, rfl⟩
   show G _ _ _ [_, _, _, _] _
   refine Zg ?_
   refine Ya (Lq := [_]) (isq := [1]) (m := 9) Ym rfl rfl ?_
   refine Zh 0 rfl rfl rfl rfl (by kernel_rfl) (fun _ _ => Zc rfl rfl) ?_
   refine Zh 1 rfl rfl rfl rfl (by kernel_rfl) (fun _ _ => Zc rfl rfl) ?_
   refine Zh 2 rfl rfl rfl rfl (by kernel_rfl) (fun _ _ => Ze rfl rfl) ?_
   refine Zh 4 rfl rfl rfl rfl (by kernel_rfl) (fun _ _ => V_loadW (s := 17) rfl rfl (Zf 1 rfl) Try.underlying141 rfl i_141 rfl (by rfl)) ?_
   refine GH_all [3, 5] (by kernel_rfl) (by decide) ?_
   refine (And.intro ?_ (And.intro ?_ trivial))
   ·
    refine Xn rfl rfl rfl rfl (Zj rfl rfl (Zf 3 rfl) (Zr (set_at (u.v i) hks)) Try.underlying28 rfl) ?_
    refine GH_all [5] (by kernel_rfl) (by decide) ?_
    refine (And.intro ?_ trivial)
    ·
     refine Yz rfl rfl rfl rfl (Zn (s := 17) (cs := [_, _, _, _, _, _, _, _, _, _, _, _, _, _, _, _, _]) rfl Try.underlying28 i_141 rfl rfl rfl rfl rfl rfl rfl rfl rfl) [2] (fun _ => ⟨_, rfl⟩) (fun b74 => ?_)
     refine GH_all [6] (by kernel_rfl) (by decide) ?_
     refine (And.intro ?_ trivial)
     ·
      refine Xf (l1 := [_, _, _, _]) (s := u) (nn := i) (m := 1) (news := (cHr m)) (bt := 144) rfl rfl rfl rfl Try.underlying28 Try.underlying28 (by first | exact .inl rfl | exact .inr ⟨_, rfl⟩) i_141 rfl rfl rfl rfl rfl rfl hu rfl (Yp (Zf 1 rfl) rfl rfl (by simp [cHr, Value.oneCell'])) (by omega) (by omega) [2] (fun _ => ⟨_, rfl⟩) ?_
      intro u1 hu1 _
      show GH _ _ _ _ _ _ _ [_, _, _, _, _] _
      refine Zh 7 rfl rfl rfl rfl (by kernel_rfl) (fun _ _ => Ze rfl rfl) ?_
      refine GH_all [8] (by kernel_rfl) (by decide) ?_
      refine (And.intro ?_ trivial)
      ·
       refine Xi (l1 := [_, _, _]) (L' := [_, _, _, _, _]) rfl rfl rfl rfl (Zq rfl rfl rfl (Zf 3 rfl) (by first | exact of_decide_eq_true rfl | omega | (simp [cOp, cWk, cIv, cHr, cLt, cWt, cIt, cFl, cTn, cCl, cPo, cSt, cDt, cDs, Sl.v]; done) | (simp [cOp, cWk, cIv, cHr, cLt, cWt, cIt, cFl, cTn, cCl, cPo, cSt, cDt, cDs, Sl.v]; omega) | (simp [cOp, cWk, cIv, cHr, cLt, cWt, cIt, cFl, cTn, cCl, cPo, cSt, cDt, cDs, Sl.v] at *; omega)) i_28 rfl rfl) rfl [2] rfl ?_
       refine Zw (by kernel_rfl) ?_
       refine Zs ?_
       refine Zd (l := [0, 1]) rfl ?_
       refine Za rfl rfl rfl rfl ((Yu rfl rfl rfl).int (Zv (by omega))) ?_
       refine Za rfl rfl rfl rfl (Zc rfl rfl) ?_
       refine Zg ?_
       rw [set_set]
       refine Yc ?_ [1, 2, 2] ?_ (ih (i + 1, u1, ms ++ [m], l2, e2) ?_ ?_)
       · (refine (And.intro ?_ (And.intro ?_ (And.intro ?_ (And.intro ?_ (And.intro ?_ trivial))))) <;> first | rfl | exact Zm (by omega) | exact Zm (by simp))
       · exact ⟨_, rfl⟩
       · exact ⟨by omega, by simp [hml], by rw [List.flatMap_append, List.flatMap_singleton]; exact hu1, hx.next hm (by omega)⟩
       · (first | omega | (dsimp only; omega))
   ·
    refine Yz rfl rfl rfl rfl (Zn (s := 17) (cs := [_, _, _, _, _, _, _, _, _, _, _, _, _, _, _, _, _]) rfl Try.underlying28 i_141 rfl rfl rfl rfl rfl rfl rfl rfl rfl) [2] (fun _ => ⟨_, rfl⟩) (fun b74 => ?_)
    refine GH_all [3] (by kernel_rfl) (by decide) ?_
    refine (And.intro ?_ trivial)
    ·
     refine Xn rfl rfl rfl rfl (Zj rfl rfl (Zf 4 rfl) (Zr (set_at (u.v i) hks)) Try.underlying28 rfl) ?_
     refine GH_all [6] (by kernel_rfl) (by decide) ?_
     refine (And.intro ?_ trivial)
     ·
      refine Xf (l1 := [_, _, _, _]) (s := u) (nn := i) (m := 1) (news := (cHr m)) (bt := 144) rfl rfl rfl rfl Try.underlying28 Try.underlying28 (by first | exact .inl rfl | exact .inr ⟨_, rfl⟩) i_141 rfl rfl rfl rfl rfl rfl hu rfl (Yp (Zf 1 rfl) rfl rfl (by simp [cHr, Value.oneCell'])) (by omega) (by omega) [2] (fun _ => ⟨_, rfl⟩) ?_
      intro u1 hu1 _
      show GH _ _ _ _ _ _ _ [_, _, _, _, _] _
      refine Zh 7 rfl rfl rfl rfl (by kernel_rfl) (fun _ _ => Ze rfl rfl) ?_
      refine GH_all [8] (by kernel_rfl) (by decide) ?_
      refine (And.intro ?_ trivial)
      ·
       refine Xi (l1 := [_, _, _]) (L' := [_, _, _, _, _]) rfl rfl rfl rfl (Zq rfl rfl rfl (Zf 3 rfl) (by first | exact of_decide_eq_true rfl | omega | (simp [cOp, cWk, cIv, cHr, cLt, cWt, cIt, cFl, cTn, cCl, cPo, cSt, cDt, cDs, Sl.v]; done) | (simp [cOp, cWk, cIv, cHr, cLt, cWt, cIt, cFl, cTn, cCl, cPo, cSt, cDt, cDs, Sl.v]; omega) | (simp [cOp, cWk, cIv, cHr, cLt, cWt, cIt, cFl, cTn, cCl, cPo, cSt, cDt, cDs, Sl.v] at *; omega)) i_28 rfl rfl) rfl [2] rfl ?_
       refine Zw (by kernel_rfl) ?_
       refine Zs ?_
       refine Zd (l := [0, 1]) rfl ?_
       refine Za rfl rfl rfl rfl ((Yu rfl rfl rfl).int (Zv (by omega))) ?_
       refine Za rfl rfl rfl rfl (Zc rfl rfl) ?_
       refine Zg ?_
       rw [set_set]
       refine Yc ?_ [1, 2, 2] ?_ (ih (i + 1, u1, ms ++ [m], l2, e2) ?_ ?_)
       · (refine (And.intro ?_ (And.intro ?_ (And.intro ?_ (And.intro ?_ (And.intro ?_ trivial))))) <;> first | rfl | exact Zm (by omega) | exact Zm (by simp))
       · exact ⟨_, rfl⟩
       · exact ⟨by omega, by simp [hml], by rw [List.flatMap_append, List.flatMap_singleton]; exact hu1, hx.next hm (by omega)⟩
       · (first | omega | (dsimp only; omega))
  refine Yx rfl ?_
  refine G_end (post := [_, _, _]) Try.func105 rfl Zo [0, 0, 0] rfl ?_
  dsimp only [packed]
  first
    | exact ⟨insOf u 141 ms, l1, e1, Xd (by rw [hml]; exact hu) (by omega), by show ms.length ≤ _; omega, rdg_Lbad he h0 hx (by omega) _, rfl, by (try simp only [Xp, hml]); first | done | rfl⟩
    | (obtain rfl : i = n := by omega
       exact ⟨insOf u 141 ms, l1, e1, Xd (by rw [hml]; exact hu) (by omega), by show ms.length ≤ _; omega, rdg_L he h0 hx, rfl, by (try simp only [Xp, hml]); first | done | rfl⟩)

set_option maxRecDepth 100000 in
set_option maxHeartbeats 2000000 in
theorem cr_listLt (b br : Nat) (l : List UInt8) (e : Nat) (hl : l.length ≤ 140737488350000) (he : e ≤ 1000) (bx k : Nat) (cs : Array Value) (T : TypeId) (hk : cs[k]? = some (.slice none 0 0)) :
    Ct Try.prog 107 [.pointer (some ⟨b, 0, none⟩), .pointer (some ⟨bx, k, none⟩), .func (.func 108) #[.pointer (some ⟨b, 0, none⟩)] #[]] [(some b, .cells #[.pointer none, .slice none 0 0, .pointer (some ⟨br, 0, none⟩), .bool false] 80 (0, 0))] [(some br, .cells #[.string (bs l), .int .i64 ((e : Nat) : Int)] 169 (0, 0)), (some bx, .cells (cs) T (0, 0))] fun v post => ∃ (s : Ins Lt) (l1 : List UInt8) (e1 : Nat), InsOk 6 cLt s ∧ s.l.length ≤ 1000 ∧ Rdg (encL encLt) (GL GLt) l e s.l l1 e1 ∧ v = .tuple #[] ∧ post = [(some br, .cells #[.string (bs l1), .int .i64 ((e1 : Nat) : Int)] 169 (0, 0)), (some bx, .cells (cs.setIfInBounds k (insV s)) T (0, 0)), insK s] := by
 obtain ⟨n, l0, e0, h0⟩ : ∃ a_ l_ e_, rdInt 1000 l e = (a_, l_, e_) := ⟨_, _, _, rfl⟩
 obtain ⟨hn, hl0, he0⟩ := rd_n he h0
 have hks := at_lt hk
 have hcs : cs.setIfInBounds k (slNil.v 0) = cs := set_self hk
 refine Yv Try.func107 rfl rfl (fun w0 => ?_)
 show G _ _ [(0, _), (1, _), (2, _)] _ _
 refine Zi ?_
 refine Zi ?_
 refine Zd (l := [0, 1, 2, 3, 4]) rfl ?_
 refine Za rfl rfl rfl rfl (Zc rfl rfl) ?_
 refine Za rfl rfl rfl rfl (Ze rfl rfl) ?_
 refine Za rfl rfl rfl rfl (Zb (fo := 2) rfl Try.underlying80 rfl i_74 rfl rfl rfl) ?_
 refine Za rfl rfl rfl rfl (Zj rfl rfl (Zf 0 rfl) rfl Try.underlying74 rfl) ?_
 refine Za rfl rfl rfl rfl (V_peqlN rfl Try.underlying74 rfl rfl) ?_
 refine Zg ?_
 refine G_else rfl ?_
 refine Zu ?_
 refine Zi ?_
 refine G_addNone (.cells #[] 143 (0, 0)) ?_
 refine Zd (l := [0, 1, 2, 3, 4, 5]) rfl ?_
 refine Za rfl rfl rfl rfl (Zc rfl rfl) ?_
 refine Za rfl rfl rfl rfl (Ze rfl rfl) ?_
 refine Za rfl rfl rfl rfl (Zb (fo := 2) rfl Try.underlying80 rfl i_74 rfl rfl rfl) ?_
 refine Za rfl rfl rfl rfl (Zj rfl rfl (Zf 0 rfl) rfl Try.underlying74 rfl) ?_
 refine Yh (L2 := [_, _]) rfl rfl rfl rfl rfl rfl Try.call84 ((rd_int br l e 1000 (by omega) (by omega) (by omega)).weaken (fun v post h => by rewrite [h0] at h; exact h)) [1] [] rfl rfl ?_
 rintro v post ⟨rfl, rfl⟩
 show G _ _ _ [_, _, _] _
 refine Za rfl rfl rfl rfl (Zc rfl rfl) ?_
 refine Zg ?_
 refine Zp ?_
 refine Yc ?he10 [0, 1, 0] ?hl10 (Xc (X := Nat × Sl × List Lt × List UInt8 × Nat) (fun x_ => match x_ with | ⟨i, u, ms, l1, e1⟩ => i ≤ n ∧ ms.length = i ∧ Own 6 u (ms.flatMap cLt) i ∧ RdgL encLt GLt n l0 e0 i ms l1 e1) (fun x_ => match x_ with | ⟨i, u, ms, l1, e1⟩ => n - i) (fun x_ => match x_ with | ⟨i, u, ms, l1, e1⟩ => [(0, .pointer (some ⟨b, 0, none⟩)), (1, .pointer (some ⟨bx, k, none⟩)), (2, .func (.func 108) #[.pointer (some ⟨b, 0, none⟩)] #[]), (58, .int .i64 (n : Int)), (59, .int .i64 (i : Int))]) (fun x_ => match x_ with | ⟨i, u, ms, l1, e1⟩ => [(some br, .cells #[.string (bs l1), .int .i64 ((e1 : Nat) : Int)] 169 (0, 0)), (some bx, .cells (cs.setIfInBounds k (u.v i)) T (0, 0)), (u.ob, .cells u.cs 143 u.fz)]) ?round10 (0, slNil, [], l0, e0) ?h010)
 case he10 => exact (And.intro rfl (And.intro rfl (And.intro rfl (And.intro rfl (And.intro rfl trivial)))))
 case hl10 => exact ⟨_, by show tk _ _ = some ([_, (some bx, .cells (cs.setIfInBounds k (slNil.v 0)) T (0, 0)), _], _); rw [hcs]; rfl⟩
 case h010 => exact ⟨Nat.zero_le _, rfl, own_nil 6, .zero he0⟩
 case round10 =>
  intro x_ hJ ih
  try dsimp only at hJ ih
  obtain ⟨i, u, ms, l1, e1⟩ := x_
  try dsimp only at hJ ih
  obtain ⟨hi, hml, hu, hx⟩ := hJ
  show G _ _ [(0, .pointer (some ⟨b, 0, none⟩)), (1, .pointer (some ⟨bx, k, none⟩)), (2, .func (.func 108) #[.pointer (some ⟨b, 0, none⟩)] #[]), (58, .int .i64 (n : Int)), (59, .int .i64 (i : Int))] [(some br, .cells #[.string (bs l1), .int .i64 ((e1 : Nat) : Int)] 169 (0, 0)), (some bx, .cells (cs.setIfInBounds k (u.v i)) T (0, 0)), (u.ob, .cells u.cs 143 u.fz)] _
  have hl1 := hx.len
  have he1 := hx.err
  refine Zi ?_
  refine Zd (l := [0]) rfl ?_
  refine Za rfl rfl rfl rfl (Xh rfl rfl rfl) ?_
  refine Zg ?_
  refine Zi ?_
  refine Yl rfl (fun hc1 => ?_) (fun hc1 => ?_)
  ·
   refine Zu ?_
   refine Zi ?_
   refine Zp ?_
   refine Zi ?_
   refine Zi ?_
   refine Zd (l := [0, 1, 2, 3, 4, 5]) rfl ?_
   refine Za rfl rfl rfl rfl (Zc rfl rfl) ?_
   refine Za rfl rfl rfl rfl (Ze rfl rfl) ?_
   refine Za rfl rfl rfl rfl (Zb (fo := 2) rfl Try.underlying80 rfl i_74 rfl rfl rfl) ?_
   refine Za rfl rfl rfl rfl (Zj rfl rfl (Zf 0 rfl) rfl Try.underlying74 rfl) ?_
   refine Yh (L2 := [_, _, _]) rfl rfl rfl rfl rfl rfl Try.call86 (rd_err _ _ _) [] [1] rfl rfl ?_
   rintro v post ⟨rfl, rfl⟩
   show G _ _ _ [_, _, _] _
   refine Za rfl rfl rfl rfl (V_neq rfl rfl rfl) ?_
   refine Zg ?_
   refine Yl rfl (fun hc2 => ?_) (fun hc2 => ?_)
   ·
    refine Xa (post := [_, _, _]) Try.func107 rfl Zo [0, 0, 0] rfl ?_
    dsimp only [packed]
    first
      | exact ⟨insOf u 143 ms, l1, e1, Xd (by rw [hml]; exact hu) (by omega), by show ms.length ≤ _; omega, rdg_Lbad he h0 hx (by omega) _, rfl, by (try simp only [Xp, hml]); first | done | rfl⟩
      | (obtain rfl : i = n := by omega
         exact ⟨insOf u 143 ms, l1, e1, Xd (by rw [hml]; exact hu) (by omega), by show ms.length ≤ _; omega, rdg_L he h0 hx, rfl, by (try simp only [Xp, hml]); first | done | rfl⟩)
   refine Zu ?_
   refine Zi ?_
   refine Zd (l := [0]) rfl ?_
   refine Yr rfl rfl rfl rfl (Xb rfl i_143 rfl) (fun b8 => ?_)
   refine Zg ?_
   refine Zi ?_
   refine Zd (l := [0, 1]) rfl ?_
   refine Za rfl rfl rfl rfl (Zc rfl rfl) ?_
   refine G_callB (L2 := [_, _]) rfl rfl rfl rfl rfl rfl Try.call108 rfl (cr_letter b br l1 e1 (by omega) (by omega) _ (⟨0, 0, 0, 0, [], 0⟩ : Lt) _) [1, 0] [0] rfl rfl ?_
   rintro v post ⟨m, l2, e2, hm, rfl, rfl⟩
   show G _ _ _ [_, _, _, _] _
   refine Zg ?_
   refine Ya (Lq := [_]) (isq := [1]) (m := 9) Ym rfl rfl ?_
   refine Zh 0 rfl rfl rfl rfl (by kernel_rfl) (fun _ _ => Zc rfl rfl) ?_
   refine Zh 1 rfl rfl rfl rfl (by kernel_rfl) (fun _ _ => Zc rfl rfl) ?_
   refine Zh 2 rfl rfl rfl rfl (by kernel_rfl) (fun _ _ => Ze rfl rfl) ?_
   refine Zh 4 rfl rfl rfl rfl (by kernel_rfl) (fun _ _ => V_loadW (s := 6) rfl rfl (Zf 1 rfl) Try.underlying143 rfl i_143 rfl (by rfl)) ?_
   refine GH_all [3, 5] (by kernel_rfl) (by decide) ?_
   refine (And.intro ?_ (And.intro ?_ trivial))
   ·
    refine Xn rfl rfl rfl rfl (Zj rfl rfl (Zf 3 rfl) (Zr (set_at (u.v i) hks)) Try.underlying29 rfl) ?_
    refine GH_all [5] (by kernel_rfl) (by decide) ?_
    refine (And.intro ?_ trivial)
    ·
     refine Yz rfl rfl rfl rfl (Zn (s := 6) (cs := [_, _, _, _, _, _]) rfl Try.underlying29 i_143 rfl rfl rfl rfl rfl rfl rfl rfl rfl) [2] (fun _ => ⟨_, rfl⟩) (fun b74 => ?_)
     refine GH_all [6] (by kernel_rfl) (by decide) ?_
     refine (And.intro ?_ trivial)
     ·
      refine Xf (l1 := [_, _, _, _]) (s := u) (nn := i) (m := 1) (news := (cLt m)) (bt := 56) rfl rfl rfl rfl Try.underlying29 Try.underlying29 (by first | exact .inl rfl | exact .inr ⟨_, rfl⟩) i_143 rfl rfl rfl rfl rfl rfl hu rfl (Yp (Zf 1 rfl) rfl rfl (by simp [cLt, Value.oneCell'])) (by omega) (by omega) [2] (fun _ => ⟨_, rfl⟩) ?_
      intro u1 hu1 _
      show GH _ _ _ _ _ _ _ [_, _, _, _, _] _
      refine Zh 7 rfl rfl rfl rfl (by kernel_rfl) (fun _ _ => Ze rfl rfl) ?_
      refine GH_all [8] (by kernel_rfl) (by decide) ?_
      refine (And.intro ?_ trivial)
      ·
       refine Xi (l1 := [_, _, _]) (L' := [_, _, _, _, _]) rfl rfl rfl rfl (Zq rfl rfl rfl (Zf 3 rfl) (by first | exact of_decide_eq_true rfl | omega | (simp [cOp, cWk, cIv, cHr, cLt, cWt, cIt, cFl, cTn, cCl, cPo, cSt, cDt, cDs, Sl.v]; done) | (simp [cOp, cWk, cIv, cHr, cLt, cWt, cIt, cFl, cTn, cCl, cPo, cSt, cDt, cDs, Sl.v]; omega) | (simp [cOp, cWk, cIv, cHr, cLt, cWt, cIt, cFl, cTn, cCl, cPo, cSt, cDt, cDs, Sl.v] at *; omega)) i_29 rfl rfl) rfl [2] rfl ?_
       refine Zw (by kernel_rfl) ?_
       refine Zs ?_
       refine Zd (l := [0, 1]) rfl ?_
       refine Za rfl rfl rfl rfl ((Yu rfl rfl rfl).int (Zv (by omega))) ?_
       refine Za rfl rfl rfl rfl (Zc rfl rfl) ?_
       refine Zg ?_
       rw [set_set]
       refine Yc ?_ [1, 2, 2] ?_ (ih (i + 1, u1, ms ++ [m], l2, e2) ?_ ?_)
       · (refine (And.intro ?_ (And.intro ?_ (And.intro ?_ (And.intro ?_ (And.intro ?_ trivial))))) <;> first | rfl | exact Zm (by omega) | exact Zm (by simp))
       · exact ⟨_, rfl⟩
       · exact ⟨by omega, by simp [hml], by rw [List.flatMap_append, List.flatMap_singleton]; exact hu1, hx.next hm (by omega)⟩
       · (first | omega | (dsimp only; omega))
   ·
    refine Yz rfl rfl rfl rfl (Zn (s := 6) (cs := [_, _, _, _, _, _]) rfl Try.underlying29 i_143 rfl rfl rfl rfl rfl rfl rfl rfl rfl) [2] (fun _ => ⟨_, rfl⟩) (fun b74 => ?_)
    refine GH_all [3] (by kernel_rfl) (by decide) ?_
    refine (And.intro ?_ trivial)
    ·
     refine Xn rfl rfl rfl rfl (Zj rfl rfl (Zf 4 rfl) (Zr (set_at (u.v i) hks)) Try.underlying29 rfl) ?_
     refine GH_all [6] (by kernel_rfl) (by decide) ?_
     refine (And.intro ?_ trivial)
     ·
      refine Xf (l1 := [_, _, _, _]) (s := u) (nn := i) (m := 1) (news := (cLt m)) (bt := 56) rfl rfl rfl rfl Try.underlying29 Try.underlying29 (by first | exact .inl rfl | exact .inr ⟨_, rfl⟩) i_143 rfl rfl rfl rfl rfl rfl hu rfl (Yp (Zf 1 rfl) rfl rfl (by simp [cLt, Value.oneCell'])) (by omega) (by omega) [2] (fun _ => ⟨_, rfl⟩) ?_
      intro u1 hu1 _
      show GH _ _ _ _ _ _ _ [_, _, _, _, _] _
      refine Zh 7 rfl rfl rfl rfl (by kernel_rfl) (fun _ _ => Ze rfl rfl) ?_
      refine GH_all [8] (by kernel_rfl) (by decide) ?_
      refine (And.intro ?_ trivial)
      ·
       refine Xi (l1 := [_, _, _]) (L' := [_, _, _, _, _]) rfl rfl rfl rfl (Zq rfl rfl rfl (Zf 3 rfl) (by first | exact of_decide_eq_true rfl | omega | (simp [cOp, cWk, cIv, cHr, cLt, cWt, cIt, cFl, cTn, cCl, cPo, cSt, cDt, cDs, Sl.v]; done) | (simp [cOp, cWk, cIv, cHr, cLt, cWt, cIt, cFl, cTn, cCl, cPo, cSt, cDt, cDs, Sl.v]; omega) | (simp [cOp, cWk, cIv, cHr, cLt, cWt, cIt, cFl, cTn, cCl, cPo, cSt, cDt, cDs, Sl.v] at *; omega)) i_29 rfl rfl) rfl [2] rfl ?_
       refine Zw (by kernel_rfl) ?_
       refine Zs ?_
       refine Zd (l := [0, 1]) rfl ?_
       refine Za rfl rfl rfl rfl ((Yu rfl rfl rfl).int (Zv (by omega))) ?_
       refine Za rfl rfl rfl rfl (Zc rfl rfl) ?_
       refine Zg ?_
       rw [set_set]
       refine Yc ?_ [1, 2, 2] ?_ (ih (i + 1, u1, ms ++ [m], l2, e2) ?_ ?_)
       · (refine (And.intro ?_ (And.intro ?_ (And.intro ?_ (And.intro ?_ (And.intro ?_ trivial))))) <;> first | rfl | exact Zm (by omega) | exact Zm (by simp))
       · exact ⟨_, rfl⟩
       · exact ⟨by omega, by simp [hml], by rw [List.flatMap_append, List.flatMap_singleton]; exact hu1, hx.next hm (by omega)⟩
       · (first | omega | (dsimp only; omega))
  refine Yx rfl ?_
  refine G_end (post := [_, _, _]) Try.func107 rfl Zo [0, 0, 0] rfl ?_
  dsimp only [packed]
  first
    | exact ⟨insOf u 143 ms, l1, e1, Xd (by rw [hml]; exact hu) (by omega), by show ms.length ≤ _; omega, rdg_Lbad he h0 hx (by omega) _, rfl, by (try simp only [Xp, hml]); first | done | rfl⟩
    | (obtain rfl : i = n := by omega
       exact ⟨insOf u 143 ms, l1, e1, Xd (by rw [hml]; exact hu) (by omega), by show ms.length ≤ _; omega, rdg_L he h0 hx, rfl, by (try simp only [Xp, hml]); first | done | rfl⟩)

set_option maxRecDepth 100000 in
set_option maxHeartbeats 2000000 in
theorem cr_listWt (b br : Nat) (l : List UInt8) (e : Nat) (hl : l.length ≤ 140737488350000) (he : e ≤ 1000) (bx k : Nat) (cs : Array Value) (T : TypeId) (hk : cs[k]? = some (.slice none 0 0)) :
    Ct Try.prog 109 [.pointer (some ⟨b, 0, none⟩), .pointer (some ⟨bx, k, none⟩), .func (.func 110) #[.pointer (some ⟨b, 0, none⟩)] #[]] [(some b, .cells #[.pointer none, .slice none 0 0, .pointer (some ⟨br, 0, none⟩), .bool false] 80 (0, 0))] [(some br, .cells #[.string (bs l), .int .i64 ((e : Nat) : Int)] 169 (0, 0)), (some bx, .cells (cs) T (0, 0))] fun v post => ∃ (s : Ins Wt) (l1 : List UInt8) (e1 : Nat), InsOk 2 cWt s ∧ s.l.length ≤ 1000 ∧ Rdg (encL encWt) (GL GWt) l e s.l l1 e1 ∧ v = .tuple #[] ∧ post = [(some br, .cells #[.string (bs l1), .int .i64 ((e1 : Nat) : Int)] 169 (0, 0)), (some bx, .cells (cs.setIfInBounds k (insV s)) T (0, 0)), insK s] := by
 obtain ⟨n, l0, e0, h0⟩ : ∃ a_ l_ e_, rdInt 1000 l e = (a_, l_, e_) := ⟨_, _, _, rfl⟩
 obtain ⟨hn, hl0, he0⟩ := rd_n he h0
 have hks := at_lt hk
 have hcs : cs.setIfInBounds k (slNil.v 0) = cs := set_self hk
 refine Yv Try.func109 rfl rfl (fun w0 => ?_)
 show G _ _ [(0, _), (1, _), (2, _)] _ _
 refine Zi ?_
 refine Zi ?_
 refine Zd (l := [0, 1, 2, 3, 4]) rfl ?_
 refine Za rfl rfl rfl rfl (Zc rfl rfl) ?_
 refine Za rfl rfl rfl rfl (Ze rfl rfl) ?_
 refine Za rfl rfl rfl rfl (Zb (fo := 2) rfl Try.underlying80 rfl i_74 rfl rfl rfl) ?_
 refine Za rfl rfl rfl rfl (Zj rfl rfl (Zf 0 rfl) rfl Try.underlying74 rfl) ?_
 refine Za rfl rfl rfl rfl (V_peqlN rfl Try.underlying74 rfl rfl) ?_
 refine Zg ?_
 refine G_else rfl ?_
 refine Zu ?_
 refine Zi ?_
 refine G_addNone (.cells #[] 145 (0, 0)) ?_
 refine Zd (l := [0, 1, 2, 3, 4, 5]) rfl ?_
 refine Za rfl rfl rfl rfl (Zc rfl rfl) ?_
 refine Za rfl rfl rfl rfl (Ze rfl rfl) ?_
 refine Za rfl rfl rfl rfl (Zb (fo := 2) rfl Try.underlying80 rfl i_74 rfl rfl rfl) ?_
 refine Za rfl rfl rfl rfl (Zj rfl rfl (Zf 0 rfl) rfl Try.underlying74 rfl) ?_
 refine Yh (L2 := [_, _]) rfl rfl rfl rfl rfl rfl Try.call84 ((rd_int br l e 1000 (by omega) (by omega) (by omega)).weaken (fun v post h => by rewrite [h0] at h; exact h)) [1] [] rfl rfl ?_
 rintro v post ⟨rfl, rfl⟩
 show G _ _ _ [_, _, _] _
 refine Za rfl rfl rfl rfl (Zc rfl rfl) ?_
 refine Zg ?_
 refine Zp ?_
 refine Yc ?he10 [0, 1, 0] ?hl10 (Xc (X := Nat × Sl × List Wt × List UInt8 × Nat) (fun x_ => match x_ with | ⟨i, u, ms, l1, e1⟩ => i ≤ n ∧ ms.length = i ∧ Own 2 u (ms.flatMap cWt) i ∧ RdgL encWt GWt n l0 e0 i ms l1 e1) (fun x_ => match x_ with | ⟨i, u, ms, l1, e1⟩ => n - i) (fun x_ => match x_ with | ⟨i, u, ms, l1, e1⟩ => [(0, .pointer (some ⟨b, 0, none⟩)), (1, .pointer (some ⟨bx, k, none⟩)), (2, .func (.func 110) #[.pointer (some ⟨b, 0, none⟩)] #[]), (58, .int .i64 (n : Int)), (59, .int .i64 (i : Int))]) (fun x_ => match x_ with | ⟨i, u, ms, l1, e1⟩ => [(some br, .cells #[.string (bs l1), .int .i64 ((e1 : Nat) : Int)] 169 (0, 0)), (some bx, .cells (cs.setIfInBounds k (u.v i)) T (0, 0)), (u.ob, .cells u.cs 145 u.fz)]) ?round10 (0, slNil, [], l0, e0) ?h010)
 case he10 => exact (And.intro rfl (And.intro rfl (And.intro rfl (And.intro rfl (And.intro rfl trivial)))))
 case hl10 => exact ⟨_, by show tk _ _ = some ([_, (some bx, .cells (cs.setIfInBounds k (slNil.v 0)) T (0, 0)), _], _); rw [hcs]; rfl⟩
 case h010 => exact ⟨Nat.zero_le _, rfl, own_nil 2, .zero he0⟩
 case round10 =>
  intro x_ hJ ih
  try dsimp only at hJ ih
  obtain ⟨i, u, ms, l1, e1⟩ := x_
  try dsimp only at hJ ih
  obtain ⟨hi, hml, hu, hx⟩ := hJ
  show G _ _ [(0, .pointer (some ⟨b, 0, none⟩)), (1, .pointer (some ⟨bx, k, none⟩)), (2, .func (.func 110) #[.pointer (some ⟨b, 0, none⟩)] #[]), (58, .int .i64 (n : Int)), (59, .int .i64 (i : Int))] [(some br, .cells #[.string (bs l1), .int .i64 ((e1 : Nat) : Int)] 169 (0, 0)), (some bx, .cells (cs.setIfInBounds k (u.v i)) T (0, 0)), (u.ob, .cells u.cs 145 u.fz)] _
  have hl1 := hx.len
  have he1 := hx.err
  refine Zi ?_
  refine Zd (l := [0]) rfl ?_
  refine Za rfl rfl rfl rfl (Xh rfl rfl rfl) ?_
  refine Zg ?_
  refine Zi ?_
  refine Yl rfl (fun hc1 => ?_) (fun hc1 => ?_)
  ·
   refine Zu ?_
   refine Zi ?_
   refine Zp ?_
   refine Zi ?_
   refine Zi ?_
   refine Zd (l := [0, 1, 2, 3, 4, 5]) rfl ?_
   refine Za rfl rfl rfl rfl (Zc rfl rfl) ?_
   refine Za rfl rfl rfl rfl (Ze rfl rfl) ?_
   refine Za rfl rfl rfl rfl (Zb (fo := 2) rfl Try.underlying80 rfl i_74 rfl rfl rfl) ?_
   refine Za rfl rfl rfl rfl (Zj rfl rfl (Zf 0 rfl) rfl Try.underlying74 rfl) ?_
   refine Yh (L2 := [_, _, _]) rfl rfl rfl rfl rfl rfl Try.call86 (rd_err _ _ _) [] [1] rfl rfl ?_
   rintro v post ⟨rfl, rfl⟩
   show G _ _ _ [_, _, _] _
   refine Za rfl rfl rfl rfl (V_neq rfl rfl rfl) ?_
   refine Zg ?_
   refine Yl rfl (fun hc2 => ?_) (fun hc2 => ?_)
   ·
    refine Xa (post := [_, _, _]) Try.func109 rfl Zo [0, 0, 0] rfl ?_
    dsimp only [packed]
    first
      | exact ⟨insOf u 145 ms, l1, e1, Xd (by rw [hml]; exact hu) (by omega), by show ms.length ≤ _; omega, rdg_Lbad he h0 hx (by omega) _, rfl, by (try simp only [Xp, hml]); first | done | rfl⟩
      | (obtain rfl : i = n := by omega
         exact ⟨insOf u 145 ms, l1, e1, Xd (by rw [hml]; exact hu) (by omega), by show ms.length ≤ _; omega, rdg_L he h0 hx, rfl, by (try simp only [Xp, hml]); first | done | rfl⟩)
   refine Zu ?_
   refine Zi ?_
   refine Zd (l := [0]) rfl ?_
   refine Yr rfl rfl rfl rfl (Xb rfl i_145 rfl) (fun b8 => ?_)
   refine Zg ?_
   refine Zi ?_
   refine Zd (l := [0, 1]) rfl ?_
   refine Za rfl rfl rfl rfl (Zc rfl rfl) ?_
   refine G_callB (L2 := [_, _]) rfl rfl rfl rfl rfl rfl Try.call110 rfl (cr_watcher b br l1 e1 (by omega) (by omega) _ (⟨[], 0⟩ : Wt) _) [1, 0] [0] rfl rfl ?_
   rintro v post ⟨m, l2, e2, hm, rfl, rfl⟩
   show G _ _ _ [_, _, _, _] _
   refine Zg ?_
   refine Ya (Lq := [_]) (isq := [1]) (m := 9) Ym rfl rfl ?_
   refine Zh 0 rfl rfl rfl rfl (by kernel_rfl) (fun _ _ => Zc rfl rfl) ?_
   refine Zh 1 rfl rfl rfl rfl (by kernel_rfl) (fun _ _ => Zc rfl rfl) ?_
   refine Zh 2 rfl rfl rfl rfl (by kernel_rfl) (fun _ _ => Ze rfl rfl) ?_
   refine Zh 4 rfl rfl rfl rfl (by kernel_rfl) (fun _ _ => V_loadW (s := 2) rfl rfl (Zf 1 rfl) Try.underlying145 rfl i_145 rfl (by rfl)) ?_
   refine GH_all [3, 5] (by kernel_rfl) (by decide) ?_
   refine (And.intro ?_ (And.intro ?_ trivial))
   ·
    refine Xn rfl rfl rfl rfl (Zj rfl rfl (Zf 3 rfl) (Zr (set_at (u.v i) hks)) Try.underlying30 rfl) ?_
    refine GH_all [5] (by kernel_rfl) (by decide) ?_
    refine (And.intro ?_ trivial)
    ·
     refine Yz rfl rfl rfl rfl (Zn (s := 2) (cs := [_, _]) rfl Try.underlying30 i_145 rfl rfl rfl rfl rfl rfl rfl rfl rfl) [2] (fun _ => ⟨_, rfl⟩) (fun b74 => ?_)
     refine GH_all [6] (by kernel_rfl) (by decide) ?_
     refine (And.intro ?_ trivial)
     ·
      refine Xf (l1 := [_, _, _, _]) (s := u) (nn := i) (m := 1) (news := (cWt m)) (bt := 24) rfl rfl rfl rfl Try.underlying30 Try.underlying30 (by first | exact .inl rfl | exact .inr ⟨_, rfl⟩) i_145 rfl rfl rfl rfl rfl rfl hu rfl (Yp (Zf 1 rfl) rfl rfl (by simp [cWt, Value.oneCell'])) (by omega) (by omega) [2] (fun _ => ⟨_, rfl⟩) ?_
      intro u1 hu1 _
      show GH _ _ _ _ _ _ _ [_, _, _, _, _] _
      refine Zh 7 rfl rfl rfl rfl (by kernel_rfl) (fun _ _ => Ze rfl rfl) ?_
      refine GH_all [8] (by kernel_rfl) (by decide) ?_
      refine (And.intro ?_ trivial)
      ·
       refine Xi (l1 := [_, _, _]) (L' := [_, _, _, _, _]) rfl rfl rfl rfl (Zq rfl rfl rfl (Zf 3 rfl) (by first | exact of_decide_eq_true rfl | omega | (simp [cOp, cWk, cIv, cHr, cLt, cWt, cIt, cFl, cTn, cCl, cPo, cSt, cDt, cDs, Sl.v]; done) | (simp [cOp, cWk, cIv, cHr, cLt, cWt, cIt, cFl, cTn, cCl, cPo, cSt, cDt, cDs, Sl.v]; omega) | (simp [cOp, cWk, cIv, cHr, cLt, cWt, cIt, cFl, cTn, cCl, cPo, cSt, cDt, cDs, Sl.v] at *; omega)) i_30 rfl rfl) rfl [2] rfl ?_
       refine Zw (by kernel_rfl) ?_
       refine Zs ?_
       refine Zd (l := [0, 1]) rfl ?_
       refine Za rfl rfl rfl rfl ((Yu rfl rfl rfl).int (Zv (by omega))) ?_
       refine Za rfl rfl rfl rfl (Zc rfl rfl) ?_
       refine Zg ?_
       rw [set_set]
       refine Yc ?_ [1, 2, 2] ?_ (ih (i + 1, u1, ms ++ [m], l2, e2) ?_ ?_)
       · (refine (And.intro ?_ (And.intro ?_ (And.intro ?_ (And.intro ?_ (And.intro ?_ trivial))))) <;> first | rfl | exact Zm (by omega) | exact Zm (by simp))
       · exact ⟨_, rfl⟩
       · exact ⟨by omega, by simp [hml], by rw [List.flatMap_append, List.flatMap_singleton]; exact hu1, hx.next hm (by omega)⟩
       · (first | omega | (dsimp only; omega))
   ·
    refine Yz rfl rfl rfl rfl (Zn (s := 2) (cs := [_, _]) rfl Try.underlying30 i_145 rfl rfl rfl rfl rfl rfl rfl rfl rfl) [2] (fun _ => ⟨_, rfl⟩) (fun b74 => ?_)
    refine GH_all [3] (by kernel_rfl) (by decide) ?_
    refine (And.intro ?_ trivial)
    ·
     refine Xn rfl rfl rfl rfl (Zj rfl rfl (Zf 4 rfl) (Zr (set_at (u.v i) hks)) Try.underlying30 rfl) ?_
     refine GH_all [6] (by kernel_rfl) (by decide) ?_
     refine (And.intro ?_ trivial)
     ·
      refine Xf (l1 := [_, _, _, _]) (s := u) (nn := i) (m := 1) (news := (cWt m)) (bt := 24) rfl rfl rfl rfl Try.underlying30 Try.underlying30 (by first | exact .inl rfl | exact .inr ⟨_, rfl⟩) i_145 rfl rfl rfl rfl rfl rfl hu rfl (Yp (Zf 1 rfl) rfl rfl (by simp [cWt, Value.oneCell'])) (by omega) (by omega) [2] (fun _ => ⟨_, rfl⟩) ?_
      intro u1 hu1 _
      show GH _ _ _ _ _ _ _ [_, _, _, _, _] _
      refine Zh 7 rfl rfl rfl rfl (by kernel_rfl) (fun _ _ => Ze rfl rfl) ?_
      refine GH_all [8] (by kernel_rfl) (by decide) ?_
      refine (And.intro ?_ trivial)
      ·
       refine Xi (l1 := [_, _, _]) (L' := [_, _, _, _, _]) rfl rfl rfl rfl (Zq rfl rfl rfl (Zf 3 rfl) (by first | exact of_decide_eq_true rfl | omega | (simp [cOp, cWk, cIv, cHr, cLt, cWt, cIt, cFl, cTn, cCl, cPo, cSt, cDt, cDs, Sl.v]; done) | (simp [cOp, cWk, cIv, cHr, cLt, cWt, cIt, cFl, cTn, cCl, cPo, cSt, cDt, cDs, Sl.v]; omega) | (simp [cOp, cWk, cIv, cHr, cLt, cWt, cIt, cFl, cTn, cCl, cPo, cSt, cDt, cDs, Sl.v] at *; omega)) i_30 rfl rfl) rfl [2] rfl ?_
       refine Zw (by kernel_rfl) ?_
       refine Zs ?_
       refine Zd (l := [0, 1]) rfl ?_
       refine Za rfl rfl rfl rfl ((Yu rfl rfl rfl).int (Zv (by omega))) ?_
       refine Za rfl rfl rfl rfl (Zc rfl rfl) ?_
       refine Zg ?_
       rw [set_set]
       refine Yc ?_ [1, 2, 2] ?_ (ih (i + 1, u1, ms ++ [m], l2, e2) ?_ ?_)
       · (refine (And.intro ?_ (And.intro ?_ (And.intro ?_ (And.intro ?_ (And.intro ?_ trivial))))) <;> first | rfl | exact Zm (by omega) | exact Zm (by simp))
       · exact ⟨_, rfl⟩
       · exact ⟨by omega, by simp [hml], by rw [List.flatMap_append, List.flatMap_singleton]; exact hu1, hx.next hm (by omega)⟩
       · (first | omega | (dsimp only; omega))
  refine Yx rfl ?_
  refine G_end (post := [_, _, _]) Try.func109 rfl Zo [0, 0, 0] rfl ?_
  dsimp only [packed]
  first
    | exact ⟨insOf u 145 ms, l1, e1, Xd (by rw [hml]; exact hu) (by omega), by show ms.length ≤ _; omega, rdg_Lbad he h0 hx (by omega) _, rfl, by (try simp only [Xp, hml]); first | done | rfl⟩
    | (obtain rfl : i = n := by omega
       exact ⟨insOf u 145 ms, l1, e1, Xd (by rw [hml]; exact hu) (by omega), by show ms.length ≤ _; omega, rdg_L he h0 hx, rfl, by (try simp only [Xp, hml]); first | done | rfl⟩)

end
end Go.Proofs.Ytjnaeoelnmhjfaa

set_option linter.unusedSimpArgs false
set_option linter.unusedVariables false
namespace Go.Proofs.Ytjnaeoelnmhjfaa
open Go Go.RowKit

section
theorem cFl_sz (x : Fl) : (cFl x).toArray.size = 4 := rfl
set_option maxRecDepth 100000 in
set_option maxHeartbeats 1000000 in
theorem cr_flow (b br : Nat) (l : List UInt8) (e : Nat) (hl : l.length ≤ 140737488350000) (he : e ≤ 1000) (bx : Nat) (T : TypeId) :
    Ct Try.prog 174 [.pointer (some ⟨b, 0, none⟩), .pointer (some ⟨bx, 0, none⟩)] [(some b, .cells #[.pointer none, .slice none 0 0, .pointer (some ⟨br, 0, none⟩), .bool false] 80 (0, 0))] [(some br, .cells #[.string (bs l), .int .i64 ((e : Nat) : Int)] 169 (0, 0)), (some bx, .cells ((cFl (⟨0, 0, 0, zIns It⟩ : Fl)).toArray) T (0, 0))] fun v post => ∃ (m : Fl) (l1 : List UInt8) (e1 : Nat) (M : List HBk), OkFl m ∧ (∀ z ∈ kFl m, z ∈ M) ∧ Rdg encPF GPF l e (vFl m) l1 e1 ∧ v = .tuple #[] ∧ post = (some br, .cells #[.string (bs l1), .int .i64 ((e1 : Nat) : Int)] 169 (0, 0)) :: (some bx, .cells ((cFl m).toArray) T (0, 0)) :: M := by
 refine Yv Try.func174 rfl rfl (fun w0 => ?_)
 show G _ _ [(0, _), (1, _)] _ _
 refine Zi ?_
 refine Ya (Lq := []) (isq := []) (m := 12) Ym rfl rfl ?_
 refine Zh 0 rfl rfl rfl rfl (by kernel_rfl) (fun _ _ => Zc rfl rfl) ?_
 refine Zh 1 rfl rfl rfl rfl (by kernel_rfl) (fun _ _ => Zc rfl rfl) ?_
 refine Zh 2 rfl rfl rfl rfl (by kernel_rfl) (fun _ _ => Ze rfl rfl) ?_
 refine Zh 3 rfl rfl rfl rfl (by kernel_rfl) (fun _ _ => Zb (fo := 0) rfl Try.underlying258 rfl i_3 rfl rfl rfl) ?_
 refine Zh 4 rfl rfl rfl rfl (by kernel_rfl) (fun _ _ => Zc rfl rfl) ?_
 refine Zh 5 rfl rfl rfl rfl (by kernel_rfl) (fun _ _ => Ze rfl rfl) ?_
 refine Zh 6 rfl rfl rfl rfl (by kernel_rfl) (fun _ _ => Zb (fo := 1) rfl Try.underlying258 rfl i_3 rfl rfl rfl) ?_
 refine Zh 7 rfl rfl rfl rfl (by kernel_rfl) (fun _ _ => Zc rfl rfl) ?_
 refine Zh 8 rfl rfl rfl rfl (by kernel_rfl) (fun _ _ => Ze rfl rfl) ?_
 refine Zh 9 rfl rfl rfl rfl (by kernel_rfl) (fun _ _ => Zb (fo := 2) rfl Try.underlying258 rfl i_3 rfl rfl rfl) ?_
 refine GH_all [10] (by kernel_rfl) (by decide) ?_
 refine (And.intro ?_ trivial)
 ·
  refine Yz rfl rfl rfl rfl (Zn (s := 1) (cs := [_, _, _]) rfl Try.underlying241 i_176 rfl rfl rfl rfl rfl rfl rfl rfl rfl) [] (fun _ => ⟨_, rfl⟩) (fun b14 => ?_)
  refine GH_all [11] (by kernel_rfl) (by decide) ?_
  refine (And.intro ?_ trivial)
  ·
   refine Zz (L2 := [_]) rfl rfl rfl rfl rfl rfl Try.call96 (cr_intsL b br l e (by omega) (by omega) _ _ bx (cFl (⟨0, 0, 0, zIns It⟩ : Fl)).toArray T [0, 1, 2] (by simp) (by intro y hy; simp only [cFl_sz]; simp only [List.mem_cons, List.not_mem_nil, or_false] at hy; omega)) [1, 1] [1, 0] rfl rfl [] (by rintro v post ⟨xs0, l1, e1, hxs, r0, rfl, rfl⟩; exact ⟨_, rfl⟩) ?_
   rintro v post ⟨xs0, l1, e1, hxs, r0, rfl, rfl⟩
   show GH _ _ _ _ _ _ _ [_, _, _] _
   obtain ⟨a0, a1, a2, rfl⟩ := len_3 hxs
   rw [show putAll (fun z : Int => Value.int .i64 z) (cFl (⟨0, 0, 0, zIns It⟩ : Fl)).toArray [0, 1, 2] [a0, a1, a2] = (cFl (⟨a0, a1, a2, zIns It⟩ : Fl)).toArray by unfold cFl; simp only [putAll_cons, putAll_nil, List.set_cons_succ, List.set_cons_zero]]
   have hl1_ := r0.len
   have he1_ := r0.err
   refine Zw (by kernel_rfl) ?_
   refine Zd (l := [0, 1, 2, 3, 4, 5, 6]) rfl ?_
   refine Za rfl rfl rfl rfl (Zc rfl rfl) ?_
   refine Za rfl rfl rfl rfl (Zc rfl rfl) ?_
   refine Za rfl rfl rfl rfl (Ze rfl rfl) ?_
   refine Za rfl rfl rfl rfl (Zb (fo := 3) rfl Try.underlying258 rfl i_215 rfl rfl rfl) ?_
   refine Za rfl rfl rfl rfl (Zc rfl rfl) ?_
   refine Za rfl rfl rfl rfl (V_func rfl rfl rfl) ?_
   refine Yh (L2 := [_]) rfl rfl rfl rfl rfl rfl Try.call178 (cr_listIt b br l1 e1 (by omega) (by omega) bx 3 (cFl (⟨a0, a1, a2, zIns It⟩ : Fl)).toArray T rfl) [0, 0] [0] rfl rfl ?_
   rintro v post ⟨s, l2, e2, hso, hsl, r1, rfl, rfl⟩
   show G _ _ _ [_, _, _, _] _
   rw [show ((cFl (⟨a0, a1, a2, zIns It⟩ : Fl)).toArray).setIfInBounds 3 (insV s) = (cFl (⟨a0, a1, a2, s⟩ : Fl)).toArray from rfl]
   refine Zg ?_
   refine G_end (post := [_, _, _]) Try.func174 rfl Zo [0, 0, 0] rfl ?_
   dsimp only [packed]
   exact ⟨(⟨a0, a1, a2, s⟩ : Fl), l2, e2, _, ⟨hso, fun _ _ => trivial⟩, fun z hz => hz, rdgPF r0 r1, rfl, rfl⟩

set_option maxRecDepth 100000 in
set_option maxHeartbeats 2000000 in
theorem cr_listFl (b br : Nat) (l : List UInt8) (e : Nat) (hl : l.length ≤ 140737488350000) (he : e ≤ 1000) (bx k : Nat) (cs : Array Value) (T : TypeId) (hk : cs[k]? = some (.slice none 0 0)) :
    Ct Try.prog 173 [.pointer (some ⟨b, 0, none⟩), .pointer (some ⟨bx, k, none⟩), .func (.func 174) #[.pointer (some ⟨b, 0, none⟩)] #[]] [(some b, .cells #[.pointer none, .slice none 0 0, .pointer (some ⟨br, 0, none⟩), .bool false] 80 (0, 0))] [(some br, .cells #[.string (bs l), .int .i64 ((e : Nat) : Int)] 169 (0, 0)), (some bx, .cells (cs) T (0, 0))] fun v post => ∃ (s : Ins Fl) (l1 : List UInt8) (e1 : Nat) (M : List HBk), InsOk 4 cFl s ∧ s.l.length ≤ 1000 ∧ Rdg (encL encPF) (GL GPF) l e (s.l.map vFl) l1 e1 ∧ (∀ m ∈ s.l, OkFl m) ∧ (∀ z ∈ insK s :: s.l.flatMap kFl, z ∈ M) ∧ v = .tuple #[] ∧ post = (some br, .cells #[.string (bs l1), .int .i64 ((e1 : Nat) : Int)] 169 (0, 0)) :: (some bx, .cells (cs.setIfInBounds k (insV s)) T (0, 0)) :: M := by
 obtain ⟨n, l0, e0, h0⟩ : ∃ a_ l_ e_, rdInt 1000 l e = (a_, l_, e_) := ⟨_, _, _, rfl⟩
 obtain ⟨hn, hl0, he0⟩ := rd_n he h0
 have hks := at_lt hk
 have hcs : cs.setIfInBounds k (slNil.v 0) = cs := set_self hk
 refine Yv Try.func173 rfl rfl (fun w0 => ?_)
 show G _ _ [(0, _), (1, _), (2, _)] _ _
 refine Zi ?_
 refine Zi ?_
 refine Zd (l := [0, 1, 2, 3, 4]) rfl ?_
 refine Za rfl rfl rfl rfl (Zc rfl rfl) ?_
 refine Za rfl rfl rfl rfl (Ze rfl rfl) ?_
 refine Za rfl rfl rfl rfl (Zb (fo := 2) rfl Try.underlying80 rfl i_74 rfl rfl rfl) ?_
 refine Za rfl rfl rfl rfl (Zj rfl rfl (Zf 0 rfl) rfl Try.underlying74 rfl) ?_
 refine Za rfl rfl rfl rfl (V_peqlN rfl Try.underlying74 rfl rfl) ?_
 refine Zg ?_
 refine G_else rfl ?_
 refine Zu ?_
 refine Zi ?_
 refine G_addNone (.cells #[] 258 (0, 0)) ?_
 refine Zd (l := [0, 1, 2, 3, 4, 5]) rfl ?_
 refine Za rfl rfl rfl rfl (Zc rfl rfl) ?_
 refine Za rfl rfl rfl rfl (Ze rfl rfl) ?_
 refine Za rfl rfl rfl rfl (Zb (fo := 2) rfl Try.underlying80 rfl i_74 rfl rfl rfl) ?_
 refine Za rfl rfl rfl rfl (Zj rfl rfl (Zf 0 rfl) rfl Try.underlying74 rfl) ?_
 refine Yh (L2 := [_, _]) rfl rfl rfl rfl rfl rfl Try.call84 ((rd_int br l e 1000 (by omega) (by omega) (by omega)).weaken (fun v post h => by rewrite [h0] at h; exact h)) [1] [] rfl rfl ?_
 rintro v post ⟨rfl, rfl⟩
 show G _ _ _ [_, _, _] _
 refine Za rfl rfl rfl rfl (Zc rfl rfl) ?_
 refine Zg ?_
 refine Zp ?_
 refine Xy (L1 := [_, _, _]) ?he10 [0, 1, 0] ?hl10 (Xc (X := Nat × Sl × List Fl × List UInt8 × Nat × List HBk) (fun x_ => match x_ with | ⟨i, u, ms, l1, e1, M⟩ => i ≤ n ∧ ms.length = i ∧ Own 4 u (ms.flatMap cFl) i ∧ RdgL encPF GPF n l0 e0 i (ms.map vFl) l1 e1 ∧ (∀ m ∈ ms, OkFl m) ∧ ∀ z ∈ ms.flatMap kFl, z ∈ M) (fun x_ => match x_ with | ⟨i, u, ms, l1, e1, M⟩ => n - i) (fun x_ => match x_ with | ⟨i, u, ms, l1, e1, M⟩ => [(0, .pointer (some ⟨b, 0, none⟩)), (1, .pointer (some ⟨bx, k, none⟩)), (2, .func (.func 174) #[.pointer (some ⟨b, 0, none⟩)] #[]), (58, .int .i64 (n : Int)), (59, .int .i64 (i : Int))]) (fun x_ => match x_ with | ⟨i, u, ms, l1, e1, M⟩ => ((some br, .cells #[.string (bs l1), .int .i64 ((e1 : Nat) : Int)] 169 (0, 0)) :: (some bx, .cells (cs.setIfInBounds k (u.v i)) T (0, 0)) :: (u.ob, .cells u.cs 258 u.fz) :: M)) ?round10 (0, slNil, [], l0, e0, []) ?h010)
 case he10 => exact (And.intro rfl (And.intro rfl (And.intro rfl (And.intro rfl (And.intro rfl trivial)))))
 case hl10 => exact ⟨_, _, by show tk _ _ = some ([_, (some bx, .cells (cs.setIfInBounds k (slNil.v 0)) T (0, 0)), _], _); rw [hcs]; rfl, .refl _⟩
 case h010 => exact ⟨Nat.zero_le _, rfl, own_nil 4, .zero he0, by simp, by simp⟩
 case round10 =>
  intro x_ hJ ih
  try dsimp only at hJ ih
  obtain ⟨i, u, ms, l1, e1, M⟩ := x_
  try dsimp only at hJ ih
  obtain ⟨hi, hml, hu, hx, hoks, hM⟩ := hJ
  show G _ _ [(0, .pointer (some ⟨b, 0, none⟩)), (1, .pointer (some ⟨bx, k, none⟩)), (2, .func (.func 174) #[.pointer (some ⟨b, 0, none⟩)] #[]), (58, .int .i64 (n : Int)), (59, .int .i64 (i : Int))] ((some br, .cells #[.string (bs l1), .int .i64 ((e1 : Nat) : Int)] 169 (0, 0)) :: (some bx, .cells (cs.setIfInBounds k (u.v i)) T (0, 0)) :: (u.ob, .cells u.cs 258 u.fz) :: M) _
  have hl1 := hx.len
  have he1 := hx.err
  refine Zi ?_
  refine Zd (l := [0]) rfl ?_
  refine Za rfl rfl rfl rfl (Xh rfl rfl rfl) ?_
  refine Zg ?_
  refine Zi ?_
  refine Yl rfl (fun hc1 => ?_) (fun hc1 => ?_)
  ·
   refine Zu ?_
   refine Zi ?_
   refine Zp ?_
   refine Zi ?_
   refine Zi ?_
   refine Zd (l := [0, 1, 2, 3, 4, 5]) rfl ?_
   refine Za rfl rfl rfl rfl (Zc rfl rfl) ?_
   refine Za rfl rfl rfl rfl (Ze rfl rfl) ?_
   refine Za rfl rfl rfl rfl (Zb (fo := 2) rfl Try.underlying80 rfl i_74 rfl rfl rfl) ?_
   refine Za rfl rfl rfl rfl (Zj rfl rfl (Zf 0 rfl) rfl Try.underlying74 rfl) ?_
   refine Yh (L2 := (_ :: _ :: _ :: _)) rfl rfl rfl rfl rfl rfl Try.call86 (rd_err _ _ _) [] [1] rfl rfl ?_
   rintro v post ⟨rfl, rfl⟩
   show G _ _ _ (_ :: _ :: _ :: _) _
   refine Za rfl rfl rfl rfl (V_neq rfl rfl rfl) ?_
   refine Zg ?_
   refine Yl rfl (fun hc2 => ?_) (fun hc2 => ?_)
   ·
    refine G_retT (p1 := [_, _, _]) (T := _) Try.func173 rfl Zo [0, 0, 0] ⟨_, _, rfl, List.perm_append_comm (l₁ := [])⟩ ?_
    dsimp only [packed]
    first
      | exact ⟨insOf u 258 ms, l1, e1, _, Xd (by rw [hml]; exact hu) (by omega), by show ms.length ≤ _; omega, rdg_Lbad he h0 hx (by omega) _, hoks, sub_hd hM, rfl, by (try simp only [Xp, hml]); first | done | rfl⟩
      | (obtain rfl : i = n := by omega
         exact ⟨insOf u 258 ms, l1, e1, _, Xd (by rw [hml]; exact hu) (by omega), by show ms.length ≤ _; omega, rdg_L he h0 hx, hoks, sub_hd hM, rfl, by (try simp only [Xp, hml]); first | done | rfl⟩)
   refine Zu ?_
   refine Zi ?_
   refine Zd (l := [0]) rfl ?_
   refine Yr rfl rfl rfl rfl (Xb rfl i_258 rfl) (fun b8 => ?_)
   refine Zg ?_
   refine Zi ?_
   refine Zd (l := [0, 1]) rfl ?_
   refine Za rfl rfl rfl rfl (Zc rfl rfl) ?_
   refine G_callB (L2 := (_ :: _ :: _)) rfl rfl rfl rfl rfl rfl Try.call174 rfl (cr_flow b br l1 e1 (by omega) (by omega) _ _) [1, 0] [0] rfl rfl ?_
   rintro v post ⟨m, l2, e2, M0, hmo, hM0, hm, rfl, rfl⟩
   refine G_perm (perm_in [_, _] [_, _] _ _) ?_
   show G _ _ _ (_ :: _ :: _ :: _ :: _) _
   refine Zg ?_
   refine Ya (Lq := [_]) (isq := [1]) (m := 9) Ym rfl rfl ?_
   refine Zh 0 rfl rfl rfl rfl (by kernel_rfl) (fun _ _ => Zc rfl rfl) ?_
   refine Zh 1 rfl rfl rfl rfl (by kernel_rfl) (fun _ _ => Zc rfl rfl) ?_
   refine Zh 2 rfl rfl rfl rfl (by kernel_rfl) (fun _ _ => Ze rfl rfl) ?_
   refine Zh 4 rfl rfl rfl rfl (by kernel_rfl) (fun _ _ => V_loadW (s := 4) rfl rfl (Zf 1 rfl) Try.underlying258 rfl i_258 rfl (by rfl)) ?_
   refine GH_all [3, 5] (by kernel_rfl) (by decide) ?_
   refine (And.intro ?_ (And.intro ?_ trivial))
   ·
    refine Xn rfl rfl rfl rfl (Zj rfl rfl (Zf 3 rfl) (Zr (set_at (u.v i) hks)) Try.underlying204 rfl) ?_
    refine GH_all [5] (by kernel_rfl) (by decide) ?_
    refine (And.intro ?_ trivial)
    ·
     refine Yz rfl rfl rfl rfl (Zn (s := 4) (cs := [_, _, _, _]) rfl Try.underlying204 i_258 rfl rfl rfl rfl rfl rfl rfl rfl rfl) [2] (fun _ => ⟨_, rfl⟩) (fun b74 => ?_)
     refine GH_all [6] (by kernel_rfl) (by decide) ?_
     refine (And.intro ?_ trivial)
     ·
      refine Xf (l1 := [_, _, _, _]) (s := u) (nn := i) (m := 1) (news := (cFl m)) (bt := 48) rfl rfl rfl rfl Try.underlying204 Try.underlying204 (by first | exact .inl rfl | exact .inr ⟨_, rfl⟩) i_258 rfl rfl rfl rfl rfl rfl hu rfl (Yp (Zf 1 rfl) rfl rfl (by simp [cFl, Value.oneCell'])) (by omega) (by omega) [2] (fun _ => ⟨_, rfl⟩) ?_
      intro u1 hu1 _
      show GH _ _ _ _ _ _ _ (_ :: _ :: _ :: _ :: _ :: _) _
      refine Zh 7 rfl rfl rfl rfl (by kernel_rfl) (fun _ _ => Ze rfl rfl) ?_
      refine GH_all [8] (by kernel_rfl) (by decide) ?_
      refine (And.intro ?_ trivial)
      ·
       refine Xi (l1 := [_, _, _]) (L' := (_ :: _ :: _ :: _ :: _ :: _)) rfl rfl rfl rfl (Zq rfl rfl rfl (Zf 3 rfl) (by first | exact of_decide_eq_true rfl | omega | (simp [cOp, cWk, cIv, cHr, cLt, cWt, cIt, cFl, cTn, cCl, cPo, cSt, cDt, cDs, Sl.v, zIns]; done) | (simp [cOp, cWk, cIv, cHr, cLt, cWt, cIt, cFl, cTn, cCl, cPo, cSt, cDt, cDs, Sl.v, zIns]; omega) | (simp [cOp, cWk, cIv, cHr, cLt, cWt, cIt, cFl, cTn, cCl, cPo, cSt, cDt, cDs, Sl.v, zIns] at *; omega)) i_204 rfl rfl) rfl [2] rfl ?_
       refine Zw (by kernel_rfl) ?_
       refine Zs ?_
       refine Zd (l := [0, 1]) rfl ?_
       refine Za rfl rfl rfl rfl ((Yu rfl rfl rfl).int (Zv (by omega))) ?_
       refine Za rfl rfl rfl rfl (Zc rfl rfl) ?_
       refine Zg ?_
       rw [set_set]
       refine Xy (L1 := [_, _, _]) ?_ [1, 2, 2] ?bhl10 (ih (i + 1, u1, ms ++ [m], l2, e2, ?M1) ?_ ?_)
       case bhl10 => (dsimp only; refine ⟨(_ :: _ :: _), [], rfl, ?_⟩; exact perm_all _)
       · (refine (And.intro ?_ (And.intro ?_ (And.intro ?_ (And.intro ?_ (And.intro ?_ trivial))))) <;> first | rfl | exact Zm (by omega) | exact Zm (by simp))
       · exact ⟨by omega, by simp [hml], by rw [List.flatMap_append, List.flatMap_singleton]; exact hu1, by rw [List.map_append]; exact hx.next hm (by omega), oks_nx hoks hmo, sub_next hM hM0 (fun z hz => by simp [hz]) (fun z hz => by simp [hz])⟩
       · (first | omega | (dsimp only; omega))
   ·
    refine Yz rfl rfl rfl rfl (Zn (s := 4) (cs := [_, _, _, _]) rfl Try.underlying204 i_258 rfl rfl rfl rfl rfl rfl rfl rfl rfl) [2] (fun _ => ⟨_, rfl⟩) (fun b74 => ?_)
    refine GH_all [3] (by kernel_rfl) (by decide) ?_
    refine (And.intro ?_ trivial)
    ·
     refine Xn rfl rfl rfl rfl (Zj rfl rfl (Zf 4 rfl) (Zr (set_at (u.v i) hks)) Try.underlying204 rfl) ?_
     refine GH_all [6] (by kernel_rfl) (by decide) ?_
     refine (And.intro ?_ trivial)
     ·
      refine Xf (l1 := [_, _, _, _]) (s := u) (nn := i) (m := 1) (news := (cFl m)) (bt := 48) rfl rfl rfl rfl Try.underlying204 Try.underlying204 (by first | exact .inl rfl | exact .inr ⟨_, rfl⟩) i_258 rfl rfl rfl rfl rfl rfl hu rfl (Yp (Zf 1 rfl) rfl rfl (by simp [cFl, Value.oneCell'])) (by omega) (by omega) [2] (fun _ => ⟨_, rfl⟩) ?_
      intro u1 hu1 _
      show GH _ _ _ _ _ _ _ (_ :: _ :: _ :: _ :: _ :: _) _
      refine Zh 7 rfl rfl rfl rfl (by kernel_rfl) (fun _ _ => Ze rfl rfl) ?_
      refine GH_all [8] (by kernel_rfl) (by decide) ?_
      refine (And.intro ?_ trivial)
      ·
       refine Xi (l1 := [_, _, _]) (L' := (_ :: _ :: _ :: _ :: _ :: _)) rfl rfl rfl rfl (Zq rfl rfl rfl (Zf 3 rfl) (by first | exact of_decide_eq_true rfl | omega | (simp [cOp, cWk, cIv, cHr, cLt, cWt, cIt, cFl, cTn, cCl, cPo, cSt, cDt, cDs, Sl.v, zIns]; done) | (simp [cOp, cWk, cIv, cHr, cLt, cWt, cIt, cFl, cTn, cCl, cPo, cSt, cDt, cDs, Sl.v, zIns]; omega) | (simp [cOp, cWk, cIv, cHr, cLt, cWt, cIt, cFl, cTn, cCl, cPo, cSt, cDt, cDs, Sl.v, zIns] at *; omega)) i_204 rfl rfl) rfl [2] rfl ?_
       refine Zw (by kernel_rfl) ?_
       refine Zs ?_
       refine Zd (l := [0, 1]) rfl ?_
       refine Za rfl rfl rfl rfl ((Yu rfl rfl rfl).int (Zv (by omega))) ?_
       refine Za rfl rfl rfl rfl (Zc rfl rfl) ?_
       refine Zg ?_
       rw [set_set]
       refine Xy (L1 := [_, _, _]) ?_ [1, 2, 2] ?bhl10 (ih (i + 1, u1, ms ++ [m], l2, e2, ?M2) ?_ ?_)
       case bhl10 => (dsimp only; refine ⟨(_ :: _ :: _), [], rfl, ?_⟩; exact perm_all _)
       · (refine (And.intro ?_ (And.intro ?_ (And.intro ?_ (And.intro ?_ (And.intro ?_ trivial))))) <;> first | rfl | exact Zm (by omega) | exact Zm (by simp))
       · exact ⟨by omega, by simp [hml], by rw [List.flatMap_append, List.flatMap_singleton]; exact hu1, by rw [List.map_append]; exact hx.next hm (by omega), oks_nx hoks hmo, sub_next hM hM0 (fun z hz => by simp [hz]) (fun z hz => by simp [hz])⟩
       · (first | omega | (dsimp only; omega))
  refine Yx rfl ?_
  refine G_endT (p1 := [_, _, _]) (T := _) Try.func173 rfl Zo [0, 0, 0] ⟨_, _, rfl, List.perm_append_comm (l₁ := [])⟩ ?_
  dsimp only [packed]
  first
    | exact ⟨insOf u 258 ms, l1, e1, _, Xd (by rw [hml]; exact hu) (by omega), by show ms.length ≤ _; omega, rdg_Lbad he h0 hx (by omega) _, hoks, sub_hd hM, rfl, by (try simp only [Xp, hml]); first | done | rfl⟩
    | (obtain rfl : i = n := by omega
       exact ⟨insOf u 258 ms, l1, e1, _, Xd (by rw [hml]; exact hu) (by omega), by show ms.length ≤ _; omega, rdg_L he h0 hx, hoks, sub_hd hM, rfl, by (try simp only [Xp, hml]); first | done | rfl⟩)

theorem cTn_sz (x : Tn) : (cTn x).toArray.size = 5 := rfl
set_option maxRecDepth 100000 in
set_option maxHeartbeats 1000000 in
theorem cr_tenant (b br : Nat) (l : List UInt8) (e : Nat) (hl : l.length ≤ 140737488350000) (he : e ≤ 1000) (bx : Nat) (T : TypeId) :
    Ct Try.prog 163 [.pointer (some ⟨b, 0, none⟩), .pointer (some ⟨bx, 0, none⟩)] [(some b, .cells #[.pointer none, .slice none 0 0, .pointer (some ⟨br, 0, none⟩), .bool false] 80 (0, 0))] [(some br, .cells #[.string (bs l), .int .i64 ((e : Nat) : Int)] 169 (0, 0)), (some bx, .cells ((cTn (⟨0, 0, 0, false, zIns Fl⟩ : Tn)).toArray) T (0, 0))] fun v post => ∃ (m : Tn) (l1 : List UInt8) (e1 : Nat) (M : List HBk), OkTn m ∧ (∀ z ∈ kTn m, z ∈ M) ∧ Rdg encPT GPT l e (vTn m) l1 e1 ∧ v = .tuple #[] ∧ post = (some br, .cells #[.string (bs l1), .int .i64 ((e1 : Nat) : Int)] 169 (0, 0)) :: (some bx, .cells ((cTn m).toArray) T (0, 0)) :: M := by
 refine Yv Try.func163 rfl rfl (fun w0 => ?_)
 show G _ _ [(0, _), (1, _)] _ _
 refine Zi ?_
 refine Ya (Lq := []) (isq := []) (m := 12) Ym rfl rfl ?_
 refine Zh 0 rfl rfl rfl rfl (by kernel_rfl) (fun _ _ => Zc rfl rfl) ?_
 refine Zh 1 rfl rfl rfl rfl (by kernel_rfl) (fun _ _ => Zc rfl rfl) ?_
 refine Zh 2 rfl rfl rfl rfl (by kernel_rfl) (fun _ _ => Ze rfl rfl) ?_
 refine Zh 3 rfl rfl rfl rfl (by kernel_rfl) (fun _ _ => Zb (fo := 0) rfl Try.underlying206 rfl i_3 rfl rfl rfl) ?_
 refine Zh 4 rfl rfl rfl rfl (by kernel_rfl) (fun _ _ => Zc rfl rfl) ?_
 refine Zh 5 rfl rfl rfl rfl (by kernel_rfl) (fun _ _ => Ze rfl rfl) ?_
 refine Zh 6 rfl rfl rfl rfl (by kernel_rfl) (fun _ _ => Zb (fo := 1) rfl Try.underlying206 rfl i_3 rfl rfl rfl) ?_
 refine Zh 7 rfl rfl rfl rfl (by kernel_rfl) (fun _ _ => Zc rfl rfl) ?_
 refine Zh 8 rfl rfl rfl rfl (by kernel_rfl) (fun _ _ => Ze rfl rfl) ?_
 refine Zh 9 rfl rfl rfl rfl (by kernel_rfl) (fun _ _ => Zb (fo := 2) rfl Try.underlying206 rfl i_3 rfl rfl rfl) ?_
 refine GH_all [10] (by kernel_rfl) (by decide) ?_
 refine (And.intro ?_ trivial)
 ·
  refine Yz rfl rfl rfl rfl (Zn (s := 1) (cs := [_, _, _]) rfl Try.underlying241 i_176 rfl rfl rfl rfl rfl rfl rfl rfl rfl) [] (fun _ => ⟨_, rfl⟩) (fun b14 => ?_)
  refine GH_all [11] (by kernel_rfl) (by decide) ?_
  refine (And.intro ?_ trivial)
  ·
   refine Zz (L2 := [_]) rfl rfl rfl rfl rfl rfl Try.call96 (cr_intsL b br l e (by omega) (by omega) _ _ bx (cTn (⟨0, 0, 0, false, zIns Fl⟩ : Tn)).toArray T [0, 1, 2] (by simp) (by intro y hy; simp only [cTn_sz]; simp only [List.mem_cons, List.not_mem_nil, or_false] at hy; omega)) [1, 1] [1, 0] rfl rfl [] (by rintro v post ⟨xs0, l1, e1, hxs, r0, rfl, rfl⟩; exact ⟨_, rfl⟩) ?_
   rintro v post ⟨xs0, l1, e1, hxs, r0, rfl, rfl⟩
   show GH _ _ _ _ _ _ _ [_, _, _] _
   obtain ⟨a0, a1, a2, rfl⟩ := len_3 hxs
   rw [show putAll (fun z : Int => Value.int .i64 z) (cTn (⟨0, 0, 0, false, zIns Fl⟩ : Tn)).toArray [0, 1, 2] [a0, a1, a2] = (cTn (⟨a0, a1, a2, false, zIns Fl⟩ : Tn)).toArray by unfold cTn; simp only [putAll_cons, putAll_nil, List.set_cons_succ, List.set_cons_zero]]
   have hl1_ := r0.len
   have he1_ := r0.err
   refine Zw (by kernel_rfl) ?_
   refine Zi ?_
   refine Zd (l := [0, 1, 2, 3, 4]) rfl ?_
   refine Za rfl rfl rfl rfl (Zc rfl rfl) ?_
   refine Za rfl rfl rfl rfl (Zc rfl rfl) ?_
   refine Za rfl rfl rfl rfl (Ze rfl rfl) ?_
   refine Za rfl rfl rfl rfl (Zb (fo := 4) rfl Try.underlying206 rfl i_4 rfl rfl rfl) ?_
   refine Yh (L2 := [_]) rfl rfl rfl rfl rfl rfl Try.call95 (cr_flag b br l1 e1 (by omega) (by omega) bx 4 (cTn (⟨a0, a1, a2, false, zIns Fl⟩ : Tn)).toArray T (by rw [cTn_sz]; omega)) [0, 0] [0] rfl rfl ?_
   rintro v post ⟨g, l2, e2, r1, rfl, rfl⟩
   show G _ _ _ [_, _, _] _
   rw [show ((cTn (⟨a0, a1, a2, false, zIns Fl⟩ : Tn)).toArray).setIfInBounds 4 (.bool g) = (cTn (⟨a0, a1, a2, g, zIns Fl⟩ : Tn)).toArray from rfl]
   have hl2_ := r1.len
   have he2_ := r1.err
   refine Zg ?_
   refine Zd (l := [0, 1, 2, 3, 4, 5, 6]) rfl ?_
   refine Za rfl rfl rfl rfl (Zc rfl rfl) ?_
   refine Za rfl rfl rfl rfl (Zc rfl rfl) ?_
   refine Za rfl rfl rfl rfl (Ze rfl rfl) ?_
   refine Za rfl rfl rfl rfl (Zb (fo := 3) rfl Try.underlying206 rfl i_204 rfl rfl rfl) ?_
   refine Za rfl rfl rfl rfl (Zc rfl rfl) ?_
   refine Za rfl rfl rfl rfl (V_func rfl rfl rfl) ?_
   refine Yh (L2 := [_]) rfl rfl rfl rfl rfl rfl Try.call173 (cr_listFl b br l2 e2 (by omega) (by omega) bx 3 (cTn (⟨a0, a1, a2, g, zIns Fl⟩ : Tn)).toArray T rfl) [0, 0] [0] rfl rfl ?_
   rintro v post ⟨s, l3, e3, M, hso, hsl, r2, hoks, hM, rfl, rfl⟩
   refine G_perm (perm_in0 [_, _] [_] _) ?_
   show G _ _ _ (_ :: _ :: _ :: _) _
   rw [show ((cTn (⟨a0, a1, a2, g, zIns Fl⟩ : Tn)).toArray).setIfInBounds 3 (insV s) = (cTn (⟨a0, a1, a2, g, s⟩ : Tn)).toArray from rfl]
   refine Zg ?_
   refine G_endT (p1 := [_, _]) (T := _) Try.func163 rfl Zo [0, 0] ⟨_, _, rfl, List.perm_append_comm (l₁ := [_])⟩ ?_
   dsimp only [packed]
   exact ⟨(⟨a0, a1, a2, g, s⟩ : Tn), l3, e3, _, ⟨hso, hoks⟩, hM, rdgPT r0 r1 r2, rfl, rfl⟩

set_option maxRecDepth 100000 in
set_option maxHeartbeats 2000000 in
theorem cr_listTn (b br : Nat) (l : List UInt8) (e : Nat) (hl : l.length ≤ 140737488350000) (he : e ≤ 1000) (bx k : Nat) (cs : Array Value) (T : TypeId) (hk : cs[k]? = some (.slice none 0 0)) :
    Ct Try.prog 162 [.pointer (some ⟨b, 0, none⟩), .pointer (some ⟨bx, k, none⟩), .func (.func 163) #[.pointer (some ⟨b, 0, none⟩)] #[]] [(some b, .cells #[.pointer none, .slice none 0 0, .pointer (some ⟨br, 0, none⟩), .bool false] 80 (0, 0))] [(some br, .cells #[.string (bs l), .int .i64 ((e : Nat) : Int)] 169 (0, 0)), (some bx, .cells (cs) T (0, 0))] fun v post => ∃ (s : Ins Tn) (l1 : List UInt8) (e1 : Nat) (M : List HBk), InsOk 5 cTn s ∧ s.l.length ≤ 1000 ∧ Rdg (encL encPT) (GL GPT) l e (s.l.map vTn) l1 e1 ∧ (∀ m ∈ s.l, OkTn m) ∧ (∀ z ∈ insK s :: s.l.flatMap kTn, z ∈ M) ∧ v = .tuple #[] ∧ post = (some br, .cells #[.string (bs l1), .int .i64 ((e1 : Nat) : Int)] 169 (0, 0)) :: (some bx, .cells (cs.setIfInBounds k (insV s)) T (0, 0)) :: M := by
 obtain ⟨n, l0, e0, h0⟩ : ∃ a_ l_ e_, rdInt 1000 l e = (a_, l_, e_) := ⟨_, _, _, rfl⟩
 obtain ⟨hn, hl0, he0⟩ := rd_n he h0
 have hks := at_lt hk
 have hcs : cs.setIfInBounds k (slNil.v 0) = cs := set_self hk
 refine Yv Try.func162 rfl rfl (fun w0 => ?_)
 show G _ _ [(0, _), (1, _), (2, _)] _ _
 refine Zi ?_
 refine Zi ?_
 refine Zd (l := [0, 1, 2, 3, 4]) rfl ?_
 refine Za rfl rfl rfl rfl (Zc rfl rfl) ?_
 refine Za rfl rfl rfl rfl (Ze rfl rfl) ?_
 refine Za rfl rfl rfl rfl (Zb (fo := 2) rfl Try.underlying80 rfl i_74 rfl rfl rfl) ?_
 refine Za rfl rfl rfl rfl (Zj rfl rfl (Zf 0 rfl) rfl Try.underlying74 rfl) ?_
 refine Za rfl rfl rfl rfl (V_peqlN rfl Try.underlying74 rfl rfl) ?_
 refine Zg ?_
 refine G_else rfl ?_
 refine Zu ?_
 refine Zi ?_
 refine G_addNone (.cells #[] 206 (0, 0)) ?_
 refine Zd (l := [0, 1, 2, 3, 4, 5]) rfl ?_
 refine Za rfl rfl rfl rfl (Zc rfl rfl) ?_
 refine Za rfl rfl rfl rfl (Ze rfl rfl) ?_
 refine Za rfl rfl rfl rfl (Zb (fo := 2) rfl Try.underlying80 rfl i_74 rfl rfl rfl) ?_
 refine Za rfl rfl rfl rfl (Zj rfl rfl (Zf 0 rfl) rfl Try.underlying74 rfl) ?_
 refine Yh (L2 := [_, _]) rfl rfl rfl rfl rfl rfl Try.call84 ((rd_int br l e 1000 (by omega) (by omega) (by omega)).weaken (fun v post h => by rewrite [h0] at h; exact h)) [1] [] rfl rfl ?_
 rintro v post ⟨rfl, rfl⟩
 show G _ _ _ [_, _, _] _
 refine Za rfl rfl rfl rfl (Zc rfl rfl) ?_
 refine Zg ?_
 refine Zp ?_
 refine Xy (L1 := [_, _, _]) ?he10 [0, 1, 0] ?hl10 (Xc (X := Nat × Sl × List Tn × List UInt8 × Nat × List HBk) (fun x_ => match x_ with | ⟨i, u, ms, l1, e1, M⟩ => i ≤ n ∧ ms.length = i ∧ Own 5 u (ms.flatMap cTn) i ∧ RdgL encPT GPT n l0 e0 i (ms.map vTn) l1 e1 ∧ (∀ m ∈ ms, OkTn m) ∧ ∀ z ∈ ms.flatMap kTn, z ∈ M) (fun x_ => match x_ with | ⟨i, u, ms, l1, e1, M⟩ => n - i) (fun x_ => match x_ with | ⟨i, u, ms, l1, e1, M⟩ => [(0, .pointer (some ⟨b, 0, none⟩)), (1, .pointer (some ⟨bx, k, none⟩)), (2, .func (.func 163) #[.pointer (some ⟨b, 0, none⟩)] #[]), (58, .int .i64 (n : Int)), (59, .int .i64 (i : Int))]) (fun x_ => match x_ with | ⟨i, u, ms, l1, e1, M⟩ => ((some br, .cells #[.string (bs l1), .int .i64 ((e1 : Nat) : Int)] 169 (0, 0)) :: (some bx, .cells (cs.setIfInBounds k (u.v i)) T (0, 0)) :: (u.ob, .cells u.cs 206 u.fz) :: M)) ?round10 (0, slNil, [], l0, e0, []) ?h010)
 case he10 => exact (And.intro rfl (And.intro rfl (And.intro rfl (And.intro rfl (And.intro rfl trivial)))))
 case hl10 => exact ⟨_, _, by show tk _ _ = some ([_, (some bx, .cells (cs.setIfInBounds k (slNil.v 0)) T (0, 0)), _], _); rw [hcs]; rfl, .refl _⟩
 case h010 => exact ⟨Nat.zero_le _, rfl, own_nil 5, .zero he0, by simp, by simp⟩
 case round10 =>
  intro x_ hJ ih
  try dsimp only at hJ ih
  obtain ⟨i, u, ms, l1, e1, M⟩ := x_
  try dsimp only at hJ ih
  obtain ⟨hi, hml, hu, hx, hoks, hM⟩ := hJ
  show G _ _ [(0, .pointer (some ⟨b, 0, none⟩)), (1, .pointer (some ⟨bx, k, none⟩)), (2, .func (.func 163) #[.pointer (some ⟨b, 0, none⟩)] #[]), (58, .int .i64 (n : Int)), (59, .int .i64 (i : Int))] ((some br, .cells #[.string (bs l1), .int .i64 ((e1 : Nat) : Int)] 169 (0, 0)) :: (some bx, .cells (cs.setIfInBounds k (u.v i)) T (0, 0)) :: (u.ob, .cells u.cs 206 u.fz) :: M) _
  have hl1 := hx.len
  have he1 := hx.err
  refine Zi ?_
  refine Zd (l := [0]) rfl ?_
  refine Za rfl rfl rfl rfl (Xh rfl rfl rfl) ?_
  refine Zg ?_
  refine Zi ?_
  refine Yl rfl (fun hc1 => ?_) (fun hc1 => ?_)
  ·
   refine Zu ?_
   refine Zi ?_
   refine Zp ?_
   refine Zi ?_
   refine Zi ?_
   refine Zd (l := [0, 1, 2, 3, 4, 5]) rfl ?_
   refine Za rfl rfl rfl rfl (Zc rfl rfl) ?_
   refine Za rfl rfl rfl rfl (Ze rfl rfl) ?_
   refine Za rfl rfl rfl rfl (Zb (fo := 2) rfl Try.underlying80 rfl i_74 rfl rfl rfl) ?_
   refine Za rfl rfl rfl rfl (Zj rfl rfl (Zf 0 rfl) rfl Try.underlying74 rfl) ?_
   refine Yh (L2 := (_ :: _ :: _ :: _)) rfl rfl rfl rfl rfl rfl Try.call86 (rd_err _ _ _) [] [1] rfl rfl ?_
   rintro v post ⟨rfl, rfl⟩
   show G _ _ _ (_ :: _ :: _ :: _) _
   refine Za rfl rfl rfl rfl (V_neq rfl rfl rfl) ?_
   refine Zg ?_
   refine Yl rfl (fun hc2 => ?_) (fun hc2 => ?_)
   ·
    refine G_retT (p1 := [_, _, _]) (T := _) Try.func162 rfl Zo [0, 0, 0] ⟨_, _, rfl, List.perm_append_comm (l₁ := [])⟩ ?_
    dsimp only [packed]
    first
      | exact ⟨insOf u 206 ms, l1, e1, _, Xd (by rw [hml]; exact hu) (by omega), by show ms.length ≤ _; omega, rdg_Lbad he h0 hx (by omega) _, hoks, sub_hd hM, rfl, by (try simp only [Xp, hml]); first | done | rfl⟩
      | (obtain rfl : i = n := by omega
         exact ⟨insOf u 206 ms, l1, e1, _, Xd (by rw [hml]; exact hu) (by omega), by show ms.length ≤ _; omega, rdg_L he h0 hx, hoks, sub_hd hM, rfl, by (try simp only [Xp, hml]); first | done | rfl⟩)
   refine Zu ?_
   refine Zi ?_
   refine Zd (l := [0]) rfl ?_
   refine Yr rfl rfl rfl rfl (Xb rfl i_206 rfl) (fun b8 => ?_)
   refine Zg ?_
   refine Zi ?_
   refine Zd (l := [0, 1]) rfl ?_
   refine Za rfl rfl rfl rfl (Zc rfl rfl) ?_
   refine G_callB (L2 := (_ :: _ :: _)) rfl rfl rfl rfl rfl rfl Try.call163 rfl (cr_tenant b br l1 e1 (by omega) (by omega) _ _) [1, 0] [0] rfl rfl ?_
   rintro v post ⟨m, l2, e2, M0, hmo, hM0, hm, rfl, rfl⟩
   refine G_perm (perm_in [_, _] [_, _] _ _) ?_
   show G _ _ _ (_ :: _ :: _ :: _ :: _) _
   refine Zg ?_
   refine Ya (Lq := [_]) (isq := [1]) (m := 9) Ym rfl rfl ?_
   refine Zh 0 rfl rfl rfl rfl (by kernel_rfl) (fun _ _ => Zc rfl rfl) ?_
   refine Zh 1 rfl rfl rfl rfl (by kernel_rfl) (fun _ _ => Zc rfl rfl) ?_
   refine Zh 2 rfl rfl rfl rfl (by kernel_rfl) (fun _ _ => Ze rfl rfl) ?_
   refine Zh 4 rfl rfl rfl rfl (by kernel_rfl) (fun _ _ => V_loadW (s := 5) rfl rfl (Zf 1 rfl) Try.underlying206 rfl i_206 rfl (by rfl)) ?_
   refine GH_all [3, 5] (by kernel_rfl) (by decide) ?_
   refine (And.intro ?_ (And.intro ?_ trivial))
   ·
    refine Xn rfl rfl rfl rfl (Zj rfl rfl (Zf 3 rfl) (Zr (set_at (u.v i) hks)) Try.underlying109 rfl) ?_
    refine GH_all [5] (by kernel_rfl) (by decide) ?_
    refine (And.intro ?_ trivial)
    ·
     refine Yz rfl rfl rfl rfl (Zn (s := 5) (cs := [_, _, _, _, _]) rfl Try.underlying109 i_206 rfl rfl rfl rfl rfl rfl rfl rfl rfl) [2] (fun _ => ⟨_, rfl⟩) (fun b74 => ?_)
     refine GH_all [6] (by kernel_rfl) (by decide) ?_
     refine (And.intro ?_ trivial)
     ·
      refine Xf (l1 := [_, _, _, _]) (s := u) (nn := i) (m := 1) (news := (cTn m)) (bt := 56) rfl rfl rfl rfl Try.underlying109 Try.underlying109 (by first | exact .inl rfl | exact .inr ⟨_, rfl⟩) i_206 rfl rfl rfl rfl rfl rfl hu rfl (Yp (Zf 1 rfl) rfl rfl (by simp [cTn, Value.oneCell'])) (by omega) (by omega) [2] (fun _ => ⟨_, rfl⟩) ?_
      intro u1 hu1 _
      show GH _ _ _ _ _ _ _ (_ :: _ :: _ :: _ :: _ :: _) _
      refine Zh 7 rfl rfl rfl rfl (by kernel_rfl) (fun _ _ => Ze rfl rfl) ?_
      refine GH_all [8] (by kernel_rfl) (by decide) ?_
      refine (And.intro ?_ trivial)
      ·
       refine Xi (l1 := [_, _, _]) (L' := (_ :: _ :: _ :: _ :: _ :: _)) rfl rfl rfl rfl (Zq rfl rfl rfl (Zf 3 rfl) (by first | exact of_decide_eq_true rfl | omega | (simp [cOp, cWk, cIv, cHr, cLt, cWt, cIt, cFl, cTn, cCl, cPo, cSt, cDt, cDs, Sl.v, zIns]; done) | (simp [cOp, cWk, cIv, cHr, cLt, cWt, cIt, cFl, cTn, cCl, cPo, cSt, cDt, cDs, Sl.v, zIns]; omega) | (simp [cOp, cWk, cIv, cHr, cLt, cWt, cIt, cFl, cTn, cCl, cPo, cSt, cDt, cDs, Sl.v, zIns] at *; omega)) i_109 rfl rfl) rfl [2] rfl ?_
       refine Zw (by kernel_rfl) ?_
       refine Zs ?_
       refine Zd (l := [0, 1]) rfl ?_
       refine Za rfl rfl rfl rfl ((Yu rfl rfl rfl).int (Zv (by omega))) ?_
       refine Za rfl rfl rfl rfl (Zc rfl rfl) ?_
       refine Zg ?_
       rw [set_set]
       refine Xy (L1 := [_, _, _]) ?_ [1, 2, 2] ?bhl10 (ih (i + 1, u1, ms ++ [m], l2, e2, ?M1) ?_ ?_)
       case bhl10 => (dsimp only; refine ⟨(_ :: _ :: _), [], rfl, ?_⟩; exact perm_all _)
       · (refine (And.intro ?_ (And.intro ?_ (And.intro ?_ (And.intro ?_ (And.intro ?_ trivial))))) <;> first | rfl | exact Zm (by omega) | exact Zm (by simp))
       · exact ⟨by omega, by simp [hml], by rw [List.flatMap_append, List.flatMap_singleton]; exact hu1, by rw [List.map_append]; exact hx.next hm (by omega), oks_nx hoks hmo, sub_next hM hM0 (fun z hz => by simp [hz]) (fun z hz => by simp [hz])⟩
       · (first | omega | (dsimp only; omega))
   ·
    refine Yz rfl rfl rfl rfl (Zn (s := 5) (cs := [_, _, _, _, _]) rfl Try.underlying109 i_206 rfl rfl rfl rfl rfl rfl rfl rfl rfl) [2] (fun _ => ⟨_, rfl⟩) (fun b74 => ?_)
    refine GH_all [3] (by kernel_rfl) (by decide) ?_
    refine (And.intro ?_ trivial)
    ·
     refine Xn rfl rfl rfl rfl (Zj rfl rfl (Zf 4 rfl) (Zr (set_at (u.v i) hks)) Try.underlying109 rfl) ?_
     refine GH_all [6] (by kernel_rfl) (by decide) ?_
     refine (And.intro ?_ trivial)
     ·
      refine Xf (l1 := [_, _, _, _]) (s := u) (nn := i) (m := 1) (news := (cTn m)) (bt := 56) rfl rfl rfl rfl Try.underlying109 Try.underlying109 (by first | exact .inl rfl | exact .inr ⟨_, rfl⟩) i_206 rfl rfl rfl rfl rfl rfl hu rfl (Yp (Zf 1 rfl) rfl rfl (by simp [cTn, Value.oneCell'])) (by omega) (by omega) [2] (fun _ => ⟨_, rfl⟩) ?_
      intro u1 hu1 _
      show GH _ _ _ _ _ _ _ (_ :: _ :: _ :: _ :: _ :: _) _
      refine Zh 7 rfl rfl rfl rfl (by kernel_rfl) (fun _ _ => Ze rfl rfl) ?_
      refine GH_all [8] (by kernel_rfl) (by decide) ?_
      refine (And.intro ?_ trivial)
      ·
       refine Xi (l1 := [_, _, _]) (L' := (_ :: _ :: _ :: _ :: _ :: _)) rfl rfl rfl rfl (Zq rfl rfl rfl (Zf 3 rfl) (by first | exact of_decide_eq_true rfl | omega | (simp [cOp, cWk, cIv, cHr, cLt, cWt, cIt, cFl, cTn, cCl, cPo, cSt, cDt, cDs, Sl.v, zIns]; done) | (simp [cOp, cWk, cIv, cHr, cLt, cWt, cIt, cFl, cTn, cCl, cPo, cSt, cDt, cDs, Sl.v, zIns]; omega) | (simp [cOp, cWk, cIv, cHr, cLt, cWt, cIt, cFl, cTn, cCl, cPo, cSt, cDt, cDs, Sl.v, zIns] at *; omega)) i_109 rfl rfl) rfl [2] rfl ?_
       refine Zw (by kernel_rfl) ?_
       refine Zs ?_
       refine Zd (l := [0, 1]) rfl ?_
       refine Za rfl rfl rfl rfl ((Yu rfl rfl rfl).int (Zv (by omega))) ?_
       refine Za rfl rfl rfl rfl (Zc rfl rfl) ?_
       refine Zg ?_
       rw [set_set]
       refine Xy (L1 := [_, _, _]) ?_ [1, 2, 2] ?bhl10 (ih (i + 1, u1, ms ++ [m], l2, e2, ?M2) ?_ ?_)
       case bhl10 => (dsimp only; refine ⟨(_ :: _ :: _), [], rfl, ?_⟩; exact perm_all _)
       · (refine (And.intro ?_ (And.intro ?_ (And.intro ?_ (And.intro ?_ (And.intro ?_ trivial))))) <;> first | rfl | exact Zm (by omega) | exact Zm (by simp))
       · exact ⟨by omega, by simp [hml], by rw [List.flatMap_append, List.flatMap_singleton]; exact hu1, by rw [List.map_append]; exact hx.next hm (by omega), oks_nx hoks hmo, sub_next hM hM0 (fun z hz => by simp [hz]) (fun z hz => by simp [hz])⟩
       · (first | omega | (dsimp only; omega))
  refine Yx rfl ?_
  refine G_endT (p1 := [_, _, _]) (T := _) Try.func162 rfl Zo [0, 0, 0] ⟨_, _, rfl, List.perm_append_comm (l₁ := [])⟩ ?_
  dsimp only [packed]
  first
    | exact ⟨insOf u 206 ms, l1, e1, _, Xd (by rw [hml]; exact hu) (by omega), by show ms.length ≤ _; omega, rdg_Lbad he h0 hx (by omega) _, hoks, sub_hd hM, rfl, by (try simp only [Xp, hml]); first | done | rfl⟩
    | (obtain rfl : i = n := by omega
       exact ⟨insOf u 206 ms, l1, e1, _, Xd (by rw [hml]; exact hu) (by omega), by show ms.length ≤ _; omega, rdg_L he h0 hx, hoks, sub_hd hM, rfl, by (try simp only [Xp, hml]); first | done | rfl⟩)

theorem cCl_sz (x : Cl) : (cCl x).toArray.size = 3 := rfl
set_option maxRecDepth 100000 in
set_option maxHeartbeats 1000000 in
theorem cr_class (b br : Nat) (l : List UInt8) (e : Nat) (hl : l.length ≤ 140737488350000) (he : e ≤ 1000) (bx : Nat) (T : TypeId) :
    Ct Try.prog 144 [.pointer (some ⟨b, 0, none⟩), .pointer (some ⟨bx, 0, none⟩)] [(some b, .cells #[.pointer none, .slice none 0 0, .pointer (some ⟨br, 0, none⟩), .bool false] 80 (0, 0))] [(some br, .cells #[.string (bs l), .int .i64 ((e : Nat) : Int)] 169 (0, 0)), (some bx, .cells ((cCl (⟨0, false, zIns Tn⟩ : Cl)).toArray) T (0, 0))] fun v post => ∃ (m : Cl) (l1 : List UInt8) (e1 : Nat) (M : List HBk), OkCl m ∧ (∀ z ∈ kCl m, z ∈ M) ∧ Rdg encPC GPC l e (vCl m) l1 e1 ∧ v = .tuple #[] ∧ post = (some br, .cells #[.string (bs l1), .int .i64 ((e1 : Nat) : Int)] 169 (0, 0)) :: (some bx, .cells ((cCl m).toArray) T (0, 0)) :: M := by
 refine Yv Try.func144 rfl rfl (fun w0 => ?_)
 show G _ _ [(0, _), (1, _)] _ _
 refine Zi ?_
 refine Zd (l := [0, 1, 2, 3, 4, 5]) rfl ?_
 refine Za rfl rfl rfl rfl (Zc rfl rfl) ?_
 refine Za rfl rfl rfl rfl (Zc rfl rfl) ?_
 refine Za rfl rfl rfl rfl (Ze rfl rfl) ?_
 refine Za rfl rfl rfl rfl (Zb (fo := 0) rfl Try.underlying250 rfl i_3 rfl rfl rfl) ?_
 refine Yr rfl rfl rfl rfl (Zn (s := 1) (cs := [_]) rfl Try.underlying241 i_176 rfl rfl rfl rfl rfl rfl rfl rfl rfl) (fun b8 => ?_)
 refine Yh (L2 := [_]) rfl rfl rfl rfl rfl rfl Try.call96 (cr_intsL b br l e (by omega) (by omega) _ _ bx (cCl (⟨0, false, zIns Tn⟩ : Cl)).toArray T [0] (by simp) (by intro y hy; simp only [cCl_sz]; simp only [List.mem_cons, List.not_mem_nil, or_false] at hy; omega)) [1, 1] [1, 0] rfl rfl ?_
 rintro v post ⟨xs0, l1, e1, hxs, r0, rfl, rfl⟩
 show G _ _ _ [_, _, _] _
 obtain ⟨a0, rfl⟩ := len_1 hxs
 rw [show putAll (fun z : Int => Value.int .i64 z) (cCl (⟨0, false, zIns Tn⟩ : Cl)).toArray [0] [a0] = (cCl (⟨a0, false, zIns Tn⟩ : Cl)).toArray by unfold cCl; simp only [putAll_cons, putAll_nil, List.set_cons_succ, List.set_cons_zero]]
 have hl1_ := r0.len
 have he1_ := r0.err
 refine Zg ?_
 refine Zi ?_
 refine Zd (l := [0, 1, 2, 3, 4]) rfl ?_
 refine Za rfl rfl rfl rfl (Zc rfl rfl) ?_
 refine Za rfl rfl rfl rfl (Zc rfl rfl) ?_
 refine Za rfl rfl rfl rfl (Ze rfl rfl) ?_
 refine Za rfl rfl rfl rfl (Zb (fo := 1) rfl Try.underlying250 rfl i_4 rfl rfl rfl) ?_
 refine Yh (L2 := [_]) rfl rfl rfl rfl rfl rfl Try.call95 (cr_flag b br l1 e1 (by omega) (by omega) bx 1 (cCl (⟨a0, false, zIns Tn⟩ : Cl)).toArray T (by rw [cCl_sz]; omega)) [0, 0] [0] rfl rfl ?_
 rintro v post ⟨g, l2, e2, r1, rfl, rfl⟩
 show G _ _ _ [_, _, _] _
 rw [show ((cCl (⟨a0, false, zIns Tn⟩ : Cl)).toArray).setIfInBounds 1 (.bool g) = (cCl (⟨a0, g, zIns Tn⟩ : Cl)).toArray from rfl]
 have hl2_ := r1.len
 have he2_ := r1.err
 refine Zg ?_
 refine Zd (l := [0, 1, 2, 3, 4, 5, 6]) rfl ?_
 refine Za rfl rfl rfl rfl (Zc rfl rfl) ?_
 refine Za rfl rfl rfl rfl (Zc rfl rfl) ?_
 refine Za rfl rfl rfl rfl (Ze rfl rfl) ?_
 refine Za rfl rfl rfl rfl (Zb (fo := 2) rfl Try.underlying250 rfl i_109 rfl rfl rfl) ?_
 refine Za rfl rfl rfl rfl (Zc rfl rfl) ?_
 refine Za rfl rfl rfl rfl (V_func rfl rfl rfl) ?_
 refine Yh (L2 := [_]) rfl rfl rfl rfl rfl rfl Try.call162 (cr_listTn b br l2 e2 (by omega) (by omega) bx 2 (cCl (⟨a0, g, zIns Tn⟩ : Cl)).toArray T rfl) [0, 0] [0] rfl rfl ?_
 rintro v post ⟨s, l3, e3, M, hso, hsl, r2, hoks, hM, rfl, rfl⟩
 refine G_perm (perm_in0 [_, _] [_] _) ?_
 show G _ _ _ (_ :: _ :: _ :: _) _
 rw [show ((cCl (⟨a0, g, zIns Tn⟩ : Cl)).toArray).setIfInBounds 2 (insV s) = (cCl (⟨a0, g, s⟩ : Cl)).toArray from rfl]
 refine Zg ?_
 refine G_endT (p1 := [_, _]) (T := _) Try.func144 rfl Zo [0, 0] ⟨_, _, rfl, List.perm_append_comm (l₁ := [_])⟩ ?_
 dsimp only [packed]
 exact ⟨(⟨a0, g, s⟩ : Cl), l3, e3, _, ⟨hso, hoks⟩, hM, rdgPC r0 r1 r2, rfl, rfl⟩

set_option maxRecDepth 100000 in
set_option maxHeartbeats 2000000 in
theorem cr_listCl (b br : Nat) (l : List UInt8) (e : Nat) (hl : l.length ≤ 140737488350000) (he : e ≤ 1000) (bx k : Nat) (cs : Array Value) (T : TypeId) (hk : cs[k]? = some (.slice none 0 0)) :
    Ct Try.prog 143 [.pointer (some ⟨b, 0, none⟩), .pointer (some ⟨bx, k, none⟩), .func (.func 144) #[.pointer (some ⟨b, 0, none⟩)] #[]] [(some b, .cells #[.pointer none, .slice none 0 0, .pointer (some ⟨br, 0, none⟩), .bool false] 80 (0, 0))] [(some br, .cells #[.string (bs l), .int .i64 ((e : Nat) : Int)] 169 (0, 0)), (some bx, .cells (cs) T (0, 0))] fun v post => ∃ (s : Ins Cl) (l1 : List UInt8) (e1 : Nat) (M : List HBk), InsOk 3 cCl s ∧ s.l.length ≤ 1000 ∧ Rdg (encL encPC) (GL GPC) l e (s.l.map vCl) l1 e1 ∧ (∀ m ∈ s.l, OkCl m) ∧ (∀ z ∈ insK s :: s.l.flatMap kCl, z ∈ M) ∧ v = .tuple #[] ∧ post = (some br, .cells #[.string (bs l1), .int .i64 ((e1 : Nat) : Int)] 169 (0, 0)) :: (some bx, .cells (cs.setIfInBounds k (insV s)) T (0, 0)) :: M := by
 obtain ⟨n, l0, e0, h0⟩ : ∃ a_ l_ e_, rdInt 1000 l e = (a_, l_, e_) := ⟨_, _, _, rfl⟩
 obtain ⟨hn, hl0, he0⟩ := rd_n he h0
 have hks := at_lt hk
 have hcs : cs.setIfInBounds k (slNil.v 0) = cs := set_self hk
 refine Yv Try.func143 rfl rfl (fun w0 => ?_)
 show G _ _ [(0, _), (1, _), (2, _)] _ _
 refine Zi ?_
 refine Zi ?_
 refine Zd (l := [0, 1, 2, 3, 4]) rfl ?_
 refine Za rfl rfl rfl rfl (Zc rfl rfl) ?_
 refine Za rfl rfl rfl rfl (Ze rfl rfl) ?_
 refine Za rfl rfl rfl rfl (Zb (fo := 2) rfl Try.underlying80 rfl i_74 rfl rfl rfl) ?_
 refine Za rfl rfl rfl rfl (Zj rfl rfl (Zf 0 rfl) rfl Try.underlying74 rfl) ?_
 refine Za rfl rfl rfl rfl (V_peqlN rfl Try.underlying74 rfl rfl) ?_
 refine Zg ?_
 refine G_else rfl ?_
 refine Zu ?_
 refine Zi ?_
 refine G_addNone (.cells #[] 250 (0, 0)) ?_
 refine Zd (l := [0, 1, 2, 3, 4, 5]) rfl ?_
 refine Za rfl rfl rfl rfl (Zc rfl rfl) ?_
 refine Za rfl rfl rfl rfl (Ze rfl rfl) ?_
 refine Za rfl rfl rfl rfl (Zb (fo := 2) rfl Try.underlying80 rfl i_74 rfl rfl rfl) ?_
 refine Za rfl rfl rfl rfl (Zj rfl rfl (Zf 0 rfl) rfl Try.underlying74 rfl) ?_
 refine Yh (L2 := [_, _]) rfl rfl rfl rfl rfl rfl Try.call84 ((rd_int br l e 1000 (by omega) (by omega) (by omega)).weaken (fun v post h => by rewrite [h0] at h; exact h)) [1] [] rfl rfl ?_
 rintro v post ⟨rfl, rfl⟩
 show G _ _ _ [_, _, _] _
 refine Za rfl rfl rfl rfl (Zc rfl rfl) ?_
 refine Zg ?_
 refine Zp ?_
 refine Xy (L1 := [_, _, _]) ?he10 [0, 1, 0] ?hl10 (Xc (X := Nat × Sl × List Cl × List UInt8 × Nat × List HBk) (fun x_ => match x_ with | ⟨i, u, ms, l1, e1, M⟩ => i ≤ n ∧ ms.length = i ∧ Own 3 u (ms.flatMap cCl) i ∧ RdgL encPC GPC n l0 e0 i (ms.map vCl) l1 e1 ∧ (∀ m ∈ ms, OkCl m) ∧ ∀ z ∈ ms.flatMap kCl, z ∈ M) (fun x_ => match x_ with | ⟨i, u, ms, l1, e1, M⟩ => n - i) (fun x_ => match x_ with | ⟨i, u, ms, l1, e1, M⟩ => [(0, .pointer (some ⟨b, 0, none⟩)), (1, .pointer (some ⟨bx, k, none⟩)), (2, .func (.func 144) #[.pointer (some ⟨b, 0, none⟩)] #[]), (58, .int .i64 (n : Int)), (59, .int .i64 (i : Int))]) (fun x_ => match x_ with | ⟨i, u, ms, l1, e1, M⟩ => ((some br, .cells #[.string (bs l1), .int .i64 ((e1 : Nat) : Int)] 169 (0, 0)) :: (some bx, .cells (cs.setIfInBounds k (u.v i)) T (0, 0)) :: (u.ob, .cells u.cs 250 u.fz) :: M)) ?round10 (0, slNil, [], l0, e0, []) ?h010)
 case he10 => exact (And.intro rfl (And.intro rfl (And.intro rfl (And.intro rfl (And.intro rfl trivial)))))
 case hl10 => exact ⟨_, _, by show tk _ _ = some ([_, (some bx, .cells (cs.setIfInBounds k (slNil.v 0)) T (0, 0)), _], _); rw [hcs]; rfl, .refl _⟩
 case h010 => exact ⟨Nat.zero_le _, rfl, own_nil 3, .zero he0, by simp, by simp⟩
 case round10 =>
  intro x_ hJ ih
  try dsimp only at hJ ih
  obtain ⟨i, u, ms, l1, e1, M⟩ := x_
  try dsimp only at hJ ih
  obtain ⟨hi, hml, hu, hx, hoks, hM⟩ := hJ
  show G _ _ [(0, .pointer (some ⟨b, 0, none⟩)), (1, .pointer (some ⟨bx, k, none⟩)), (2, .func (.func 144) #[.pointer (some ⟨b, 0, none⟩)] #[]), (58, .int .i64 (n : Int)), (59, .int .i64 (i : Int))] ((some br, .cells #[.string (bs l1), .int .i64 ((e1 : Nat) : Int)] 169 (0, 0)) :: (some bx, .cells (cs.setIfInBounds k (u.v i)) T (0, 0)) :: (u.ob, .cells u.cs 250 u.fz) :: M) _
  have hl1 := hx.len
  have he1 := hx.err
  refine Zi ?_
  refine Zd (l := [0]) rfl ?_
  refine Za rfl rfl rfl rfl (Xh rfl rfl rfl) ?_
  refine Zg ?_
  refine Zi ?_
  refine Yl rfl (fun hc1 => ?_) (fun hc1 => ?_)
  ·
   refine Zu ?_
   refine Zi ?_
   refine Zp ?_
   refine Zi ?_
   refine Zi ?_
   refine Zd (l := [0, 1, 2, 3, 4, 5]) rfl ?_
   refine Za rfl rfl rfl rfl (Zc rfl rfl) ?_
   refine Za rfl rfl rfl rfl (Ze rfl rfl) ?_
   refine Za rfl rfl rfl rfl (Zb (fo := 2) rfl Try.underlying80 rfl i_74 rfl rfl rfl) ?_
   refine Za rfl rfl rfl rfl (Zj rfl rfl (Zf 0 rfl) rfl Try.underlying74 rfl) ?_
   refine Yh (L2 := (_ :: _ :: _ :: _)) rfl rfl rfl rfl rfl rfl Try.call86 (rd_err _ _ _) [] [1] rfl rfl ?_
   rintro v post ⟨rfl, rfl⟩
   show G _ _ _ (_ :: _ :: _ :: _) _
   refine Za rfl rfl rfl rfl (V_neq rfl rfl rfl) ?_
   refine Zg ?_
   refine Yl rfl (fun hc2 => ?_) (fun hc2 => ?_)
   ·
    refine G_retT (p1 := [_, _, _]) (T := _) Try.func143 rfl Zo [0, 0, 0] ⟨_, _, rfl, List.perm_append_comm (l₁ := [])⟩ ?_
    dsimp only [packed]
    first
      | exact ⟨insOf u 250 ms, l1, e1, _, Xd (by rw [hml]; exact hu) (by omega), by show ms.length ≤ _; omega, rdg_Lbad he h0 hx (by omega) _, hoks, sub_hd hM, rfl, by (try simp only [Xp, hml]); first | done | rfl⟩
      | (obtain rfl : i = n := by omega
         exact ⟨insOf u 250 ms, l1, e1, _, Xd (by rw [hml]; exact hu) (by omega), by show ms.length ≤ _; omega, rdg_L he h0 hx, hoks, sub_hd hM, rfl, by (try simp only [Xp, hml]); first | done | rfl⟩)
   refine Zu ?_
   refine Zi ?_
   refine Zd (l := [0]) rfl ?_
   refine Yr rfl rfl rfl rfl (Xb rfl i_250 rfl) (fun b8 => ?_)
   refine Zg ?_
   refine Zi ?_
   refine Zd (l := [0, 1]) rfl ?_
   refine Za rfl rfl rfl rfl (Zc rfl rfl) ?_
   refine G_callB (L2 := (_ :: _ :: _)) rfl rfl rfl rfl rfl rfl Try.call144 rfl (cr_class b br l1 e1 (by omega) (by omega) _ _) [1, 0] [0] rfl rfl ?_
   rintro v post ⟨m, l2, e2, M0, hmo, hM0, hm, rfl, rfl⟩
   refine G_perm (perm_in [_, _] [_, _] _ _) ?_
   show G _ _ _ (_ :: _ :: _ :: _ :: _) _
   refine Zg ?_
   refine Ya (Lq := [_]) (isq := [1]) (m := 9) Ym rfl rfl ?_
   refine Zh 0 rfl rfl rfl rfl (by kernel_rfl) (fun _ _ => Zc rfl rfl) ?_
   refine Zh 1 rfl rfl rfl rfl (by kernel_rfl) (fun _ _ => Zc rfl rfl) ?_
   refine Zh 2 rfl rfl rfl rfl (by kernel_rfl) (fun _ _ => Ze rfl rfl) ?_
   refine Zh 4 rfl rfl rfl rfl (by kernel_rfl) (fun _ _ => V_loadW (s := 3) rfl rfl (Zf 1 rfl) Try.underlying250 rfl i_250 rfl (by rfl)) ?_
   refine GH_all [3, 5] (by kernel_rfl) (by decide) ?_
   refine (And.intro ?_ (And.intro ?_ trivial))
   ·
    refine Xn rfl rfl rfl rfl (Zj rfl rfl (Zf 3 rfl) (Zr (set_at (u.v i) hks)) Try.underlying248 rfl) ?_
    refine GH_all [5] (by kernel_rfl) (by decide) ?_
    refine (And.intro ?_ trivial)
    ·
     refine Yz rfl rfl rfl rfl (Zn (s := 3) (cs := [_, _, _]) rfl Try.underlying248 i_250 rfl rfl rfl rfl rfl rfl rfl rfl rfl) [2] (fun _ => ⟨_, rfl⟩) (fun b74 => ?_)
     refine GH_all [6] (by kernel_rfl) (by decide) ?_
     refine (And.intro ?_ trivial)
     ·
      refine Xf (l1 := [_, _, _, _]) (s := u) (nn := i) (m := 1) (news := (cCl m)) (bt := 40) rfl rfl rfl rfl Try.underlying248 Try.underlying248 (by first | exact .inl rfl | exact .inr ⟨_, rfl⟩) i_250 rfl rfl rfl rfl rfl rfl hu rfl (Yp (Zf 1 rfl) rfl rfl (by simp [cCl, Value.oneCell'])) (by omega) (by omega) [2] (fun _ => ⟨_, rfl⟩) ?_
      intro u1 hu1 _
      show GH _ _ _ _ _ _ _ (_ :: _ :: _ :: _ :: _ :: _) _
      refine Zh 7 rfl rfl rfl rfl (by kernel_rfl) (fun _ _ => Ze rfl rfl) ?_
      refine GH_all [8] (by kernel_rfl) (by decide) ?_
      refine (And.intro ?_ trivial)
      ·
       refine Xi (l1 := [_, _, _]) (L' := (_ :: _ :: _ :: _ :: _ :: _)) rfl rfl rfl rfl (Zq rfl rfl rfl (Zf 3 rfl) (by first | exact of_decide_eq_true rfl | omega | (simp [cOp, cWk, cIv, cHr, cLt, cWt, cIt, cFl, cTn, cCl, cPo, cSt, cDt, cDs, Sl.v, zIns]; done) | (simp [cOp, cWk, cIv, cHr, cLt, cWt, cIt, cFl, cTn, cCl, cPo, cSt, cDt, cDs, Sl.v, zIns]; omega) | (simp [cOp, cWk, cIv, cHr, cLt, cWt, cIt, cFl, cTn, cCl, cPo, cSt, cDt, cDs, Sl.v, zIns] at *; omega)) i_248 rfl rfl) rfl [2] rfl ?_
       refine Zw (by kernel_rfl) ?_
       refine Zs ?_
       refine Zd (l := [0, 1]) rfl ?_
       refine Za rfl rfl rfl rfl ((Yu rfl rfl rfl).int (Zv (by omega))) ?_
       refine Za rfl rfl rfl rfl (Zc rfl rfl) ?_
       refine Zg ?_
       rw [set_set]
       refine Xy (L1 := [_, _, _]) ?_ [1, 2, 2] ?bhl10 (ih (i + 1, u1, ms ++ [m], l2, e2, ?M1) ?_ ?_)
       case bhl10 => (dsimp only; refine ⟨(_ :: _ :: _), [], rfl, ?_⟩; exact perm_all _)
       · (refine (And.intro ?_ (And.intro ?_ (And.intro ?_ (And.intro ?_ (And.intro ?_ trivial))))) <;> first | rfl | exact Zm (by omega) | exact Zm (by simp))
       · exact ⟨by omega, by simp [hml], by rw [List.flatMap_append, List.flatMap_singleton]; exact hu1, by rw [List.map_append]; exact hx.next hm (by omega), oks_nx hoks hmo, sub_next hM hM0 (fun z hz => by simp [hz]) (fun z hz => by simp [hz])⟩
       · (first | omega | (dsimp only; omega))
   ·
    refine Yz rfl rfl rfl rfl (Zn (s := 3) (cs := [_, _, _]) rfl Try.underlying248 i_250 rfl rfl rfl rfl rfl rfl rfl rfl rfl) [2] (fun _ => ⟨_, rfl⟩) (fun b74 => ?_)
    refine GH_all [3] (by kernel_rfl) (by decide) ?_
    refine (And.intro ?_ trivial)
    ·
     refine Xn rfl rfl rfl rfl (Zj rfl rfl (Zf 4 rfl) (Zr (set_at (u.v i) hks)) Try.underlying248 rfl) ?_
     refine GH_all [6] (by kernel_rfl) (by decide) ?_
     refine (And.intro ?_ trivial)
     ·
      refine Xf (l1 := [_, _, _, _]) (s := u) (nn := i) (m := 1) (news := (cCl m)) (bt := 40) rfl rfl rfl rfl Try.underlying248 Try.underlying248 (by first | exact .inl rfl | exact .inr ⟨_, rfl⟩) i_250 rfl rfl rfl rfl rfl rfl hu rfl (Yp (Zf 1 rfl) rfl rfl (by simp [cCl, Value.oneCell'])) (by omega) (by omega) [2] (fun _ => ⟨_, rfl⟩) ?_
      intro u1 hu1 _
      show GH _ _ _ _ _ _ _ (_ :: _ :: _ :: _ :: _ :: _) _
      refine Zh 7 rfl rfl rfl rfl (by kernel_rfl) (fun _ _ => Ze rfl rfl) ?_
      refine GH_all [8] (by kernel_rfl) (by decide) ?_
      refine (And.intro ?_ trivial)
      ·
       refine Xi (l1 := [_, _, _]) (L' := (_ :: _ :: _ :: _ :: _ :: _)) rfl rfl rfl rfl (Zq rfl rfl rfl (Zf 3 rfl) (by first | exact of_decide_eq_true rfl | omega | (simp [cOp, cWk, cIv, cHr, cLt, cWt, cIt, cFl, cTn, cCl, cPo, cSt, cDt, cDs, Sl.v, zIns]; done) | (simp [cOp, cWk, cIv, cHr, cLt, cWt, cIt, cFl, cTn, cCl, cPo, cSt, cDt, cDs, Sl.v, zIns]; omega) | (simp [cOp, cWk, cIv, cHr, cLt, cWt, cIt, cFl, cTn, cCl, cPo, cSt, cDt, cDs, Sl.v, zIns] at *; omega)) i_248 rfl rfl) rfl [2] rfl ?_
       refine Zw (by kernel_rfl) ?_
       refine Zs ?_
       refine Zd (l := [0, 1]) rfl ?_
       refine Za rfl rfl rfl rfl ((Yu rfl rfl rfl).int (Zv (by omega))) ?_
       refine Za rfl rfl rfl rfl (Zc rfl rfl) ?_
       refine Zg ?_
       rw [set_set]
       refine Xy (L1 := [_, _, _]) ?_ [1, 2, 2] ?bhl10 (ih (i + 1, u1, ms ++ [m], l2, e2, ?M2) ?_ ?_)
       case bhl10 => (dsimp only; refine ⟨(_ :: _ :: _), [], rfl, ?_⟩; exact perm_all _)
       · (refine (And.intro ?_ (And.intro ?_ (And.intro ?_ (And.intro ?_ (And.intro ?_ trivial))))) <;> first | rfl | exact Zm (by omega) | exact Zm (by simp))
       · exact ⟨by omega, by simp [hml], by rw [List.flatMap_append, List.flatMap_singleton]; exact hu1, by rw [List.map_append]; exact hx.next hm (by omega), oks_nx hoks hmo, sub_next hM hM0 (fun z hz => by simp [hz]) (fun z hz => by simp [hz])⟩
       · (first | omega | (dsimp only; omega))
  refine Yx rfl ?_
  refine G_endT (p1 := [_, _, _]) (T := _) Try.func143 rfl Zo [0, 0, 0] ⟨_, _, rfl, List.perm_append_comm (l₁ := [])⟩ ?_
  dsimp only [packed]
  first
    | exact ⟨insOf u 250 ms, l1, e1, _, Xd (by rw [hml]; exact hu) (by omega), by show ms.length ≤ _; omega, rdg_Lbad he h0 hx (by omega) _, hoks, sub_hd hM, rfl, by (try simp only [Xp, hml]); first | done | rfl⟩
    | (obtain rfl : i = n := by omega
       exact ⟨insOf u 250 ms, l1, e1, _, Xd (by rw [hml]; exact hu) (by omega), by show ms.length ≤ _; omega, rdg_L he h0 hx, hoks, sub_hd hM, rfl, by (try simp only [Xp, hml]); first | done | rfl⟩)

end
end Go.Proofs.Ytjnaeoelnmhjfaa

set_option linter.unusedSimpArgs false
set_option linter.unusedVariables false
namespace Go.Proofs.Ytjnaeoelnmhjfaa
open Go Go.RowKit

/-- Whatever order is picked from here on, and S holds behind every operation; it hangs on what has come. -/
def wpAnyP (P : Program) (md : Region.Mode) (ops : Array Oper) (Q : Exit → Act → World → Prop) (S : Array Bool → World → Prop) : Nat → Array Bool → Act → World → Prop
  | 0, listed, a, w => Region.ready md ops listed = [] ∧ Q .normal a w
  | fuel + 1, listed, a, w =>
    (Region.ready md ops listed = [] → Q .normal a w) ∧
    ∀ i ∈ Region.ready md ops listed, wpOp P ops Q i (fun a' w' => S (listed.setIfInBounds i true) w' ∧ wpAnyP P md ops Q S fuel (listed.setIfInBounds i true) a' w') a w
section
variable {P : Program} {ops : Array Oper} {Q : Exit → Act → World → Prop} {md : Region.Mode} {S : Array Bool → World → Prop}
theorem wpAny_of_phased : ∀ (fuel : Nat) (listed : Array Bool) (a : Act) (w : World), wpAnyP P md ops Q S fuel listed a w → wpAny P md ops Q fuel listed a w
  | 0, _, _, _, h => h
  | fuel + 1, _, _, _, h => ⟨h.1, fun i hi => wpOp_mono (fun a' w' h' => wpAny_of_phased fuel _ a' w' h'.2) (h.2 i hi)⟩
theorem wpAnyP_first {i : Nat} {oi : Oper} {v : Value} (hi : ops[i]? = some oi) (hsel : ∀ (j : Nat) (o : Oper) cs b, ops[j]? = some o → o.op ≠ .select cs b)
    (hQ : ∀ c a w, Q (.panic c) (a.put oi.dst v) w → Q (.panic c) a w) (T : World → Prop) (I : Array Bool → Prop) (hT : ∀ L w, L.getD i true = false → I L → S L w → T w)
    (hI : ∀ L j, I L → L.getD i true = false → j ∈ Region.ready md ops L → j ≠ i → I (L.setIfInBounds j true)) (hS : ∀ L, S (L.setIfInBounds i true) = S L) :
    ∀ (fuel : Nat) (listed : Array Bool) (a : Act) (w : World),
      (∀ j oj, ops[j]? = some oj → j ≠ i → listed.getD j true = false → (∀ e ∈ oj.after, Region.binds md e = true → e.on ≠ i) → oi.apart ops oj = true) →
      i ∈ Region.ready md ops listed → I listed → YieldsIf P ops T oi v a → S listed w →
      wpAnyP P md ops Q S fuel (listed.setIfInBounds i true) (a.put oi.dst v) w → wpAnyP P md ops Q S (fuel + 1) listed a w := by
  intro fuel
  induction fuel with
  | zero =>
    intro listed a w _ hr hIl hy hSw H
    have hTw := hT listed w (mem_ready.1 hr).1 hIl hSw
    refine ⟨fun h => (by rw [h] at hr; cases hr), fun j hj => ?_⟩
    by_cases hji : j = i
    · subst hji; exact hy.wpOp hi hTw ⟨by rw [hS]; exact hSw, H⟩
    · have := ready_mono hj hji
      rw [H.1] at this
      cases this
  | succ fuel ih =>
    intro listed a w hfree hr hIl hy hSw H
    have hun := (mem_ready.1 hr).1
    have hTw := hT listed w hun hIl hSw
    refine ⟨fun h => (by rw [h] at hr; cases hr), fun j hj => ?_⟩
    by_cases hji : j = i
    · subst hji; exact hy.wpOp hi hTw ⟨by rw [hS]; exact hSw, H⟩
    · have h1 := H.2 j (ready_mono hj hji)
      obtain ⟨hjun, oj, hoj, hall⟩ := mem_ready.1 hj
      have hnot : ∀ e ∈ oj.after, Region.binds md e = true → e.on ≠ i := fun e he hb heq => by
        have h1 := hall e he hb
        have h0 := (mem_ready.1 hr).1
        rw [heq] at h1
        rcases Nat.lt_or_ge i listed.size with h' | h'
        · simp [h'] at h0 h1; rw [h0] at h1; cases h1
        · simp [Array.getElem?_eq_none h'] at h1
      have h2 := wpOp_putIf hoj (hfree j oj hoj hji hjun hnot) (fun cs b => hsel i oi cs b hi) (fun cs b => hsel j oj cs b hoj) hQ hy h1
      have hfree' : ∀ k ok, ops[k]? = some ok → k ≠ i → (listed.setIfInBounds j true).getD k true = false →
          (∀ e ∈ ok.after, Region.binds md e = true → e.on ≠ i) → oi.apart ops ok = true := fun k ok hk hki hun hno => by
        refine hfree k ok hk hki ?_ hno
        by_cases hjk : j = k
        · subst hjk; exact hjun
        · rw [getD_set_ne true hjk] at hun; exact hun
      refine wpOp_mono (fun a' w' h3 => ?_) h2
      have hS3 : S (listed.setIfInBounds j true) w' := by
        have := h3.2.1
        rw [Array.setIfInBounds_comm _ _ (Ne.symm hji), hS] at this
        exact this
      refine ⟨hS3, ih (listed.setIfInBounds j true) a' w' hfree' (ready_mono hr (Ne.symm hji)) (hI listed j hIl hun hj hji) h3.1 hS3 ?_⟩
      rw [Array.setIfInBounds_comm _ _ hji]
      exact h3.2.2
theorem wpAnyP_all {rs : List Nat} {fuel : Nat} {listed : Array Bool} {a : Act} {w : World} (hr : Region.ready md ops listed = rs) (hne : rs ≠ [])
    (h : ∀ i ∈ rs, wpOp P ops Q i (fun a' w' => S (listed.setIfInBounds i true) w' ∧ wpAnyP P md ops Q S fuel (listed.setIfInBounds i true) a' w') a w) : wpAnyP P md ops Q S (fuel + 1) listed a w :=
  ⟨fun h0 => absurd (hr ▸ h0) hne, hr ▸ h⟩
theorem wpAnyP_done {listed : Array Bool} {a : Act} {w : World} (hr : Region.ready md ops listed = []) (h : Q .normal a w) :
    ∀ fuel, wpAnyP P md ops Q S fuel listed a w
  | 0 => ⟨hr, h⟩
  | _ + 1 => ⟨fun _ => h, by rw [hr]; simp⟩
end
/-- Does s wait for i? -/
def waitsFor (ops : Array Oper) (s i : Nat) : Bool := match ops[s]? with | some o => o.after.any fun e => Region.binds .any e && e.on == i | none => false

section
variable {c : Cx} {n : Nat} {ops : Array Oper} {s : Nat} {Lq : List (Option Nat × Obj)} {fuel : Nat} {listed : Array Bool} {env : List (Nat × Value)} {L : List (Option Nat × Obj)} {k : List Item} {o : Oper}
/-- Until s has come, these blocks lie quiet. -/
def PS_ (c : Cx) (Lq : List (Option Nat × Obj)) (s : Nat) (l : Array Bool) (w : World) : Prop := HS c [] w ∧ (l.getD s true = false → HS c Lq w)
theorem hs_nil {w : World} (hm : Mem c.w0 c.A c.S L w) : HS c [] w := hs_of (isq := []) hm rfl
def GP (c : Cx) (n : Nat) (ops : Array Oper) (s : Nat) (Lq : List (Option Nat × Obj)) (fuel : Nat) (listed : Array Bool) (env : List (Nat × Value)) (L : List (Option Nat × Obj)) (k : List Item) : Prop :=
  ∀ a w, Knows c.ds n env a → Mem c.w0 c.A c.S L w → PS_ c Lq s listed w → wpAnyP c.P .any ops (HQ c k) (PS_ c Lq s) fuel listed a w
def GPop (c : Cx) (n : Nat) (ops : Array Oper) (s : Nat) (Lq : List (Option Nat × Obj)) (fuel : Nat) (listed : Array Bool) (env : List (Nat × Value)) (L : List (Option Nat × Obj)) (k : List Item) (i : Nat) : Prop :=
  ∀ a w, Knows c.ds n env a → Mem c.w0 c.A c.S L w → PS_ c Lq s listed w → wpOp c.P ops (HQ c k) i (fun a' w' => PS_ c Lq s (listed.setIfInBounds i true) w' ∧ wpAnyP c.P .any ops (HQ c k) (PS_ c Lq s) fuel (listed.setIfInBounds i true) a' w') a w
def GPops (c : Cx) (n : Nat) (ops : Array Oper) (s : Nat) (Lq : List (Option Nat × Obj)) (fuel : Nat) (listed : Array Bool) (env : List (Nat × Value)) (L : List (Option Nat × Obj)) (k : List Item) : List Nat → Prop
  | [] => True
  | i :: is => GPop c n ops s Lq fuel listed env L k i ∧ GPops c n ops s Lq fuel listed env L k is
theorem GPops.mem {is : List Nat} (h : GPops c n ops s Lq fuel listed env L k is) : ∀ i ∈ is, GPop c n ops s Lq fuel listed env L k i := by
  induction is with
  | nil => exact fun i hi => by cases hi
  | cons j is ih =>
    intro i hi
    rcases List.mem_cons.1 hi with e | hi
    · subst e; exact h.1
    · exact ih h.2 i hi
theorem GP_start (s : Nat) {id : Nat} {isq : List Nat} {M : List (Option Nat × Obj)} {m : Nat} (hm : c.P.follows .mixedOrders = true) (hq : tk isq L = some (Lq, M)) (hz : ops.size = m) (h : GP c n ops s Lq m (Array.replicate m false) env L k) : G c n env L (.code (.region id ops true) :: k) := by
  intro a w hk hmm
  subst hz
  exact goes_of_wp (wp_region_any hm (wpAny_of_phased _ _ _ _ (h a _ hk (hmm.drew _) ⟨hs_nil (hmm.drew _), fun _ => hs_of (hmm.drew _) hq⟩)))
theorem GP_done (hr : Region.ready .any ops listed = []) (h : G c n env L k) : GP c n ops s Lq fuel listed env L k :=
  fun a w hk hm _ => wpAnyP_done hr ⟨rfl, h a w hk hm⟩ fuel
theorem GP_join {X : Type} (E : X → List (Nat × Value)) (H : X → List (Option Nat × Obj)) (rest : ∀ x, G c n (E x) (H x) k) (h : (∀ x, G c n (E x) (H x) k) → GP c n ops s Lq fuel listed env L k) : GP c n ops s Lq fuel listed env L k := h rest
theorem ps_set {l : Array Bool} {i : Nat} (h : i ≠ s) : PS_ c Lq s (l.setIfInBounds i true) = PS_ c Lq s l := by
  funext w; unfold PS_; rw [getD_set_ne true h]
/-- What hangs on no block of the call's. -/
theorem Zx (i : Nat) {d : Nat} {v : Value} (ho : ops[i]? = some o) (hd : o.dst = some d) (hn : Nat.blt d n = true) (hg : fguard ops env o = some true)
    (hs : Region.noSelect ops = true) (hf : Region.free .any ops listed i = true) (hr : (Region.ready .any ops listed).contains i = true) (his : i ≠ s)
    (hv : ∀ w0 S, Val ⟨c.P, c.f, w0, c.A, S, c.R, c.ds⟩ n env [] o v) (h : GP c n ops s Lq fuel (listed.setIfInBounds i true) ((d, v) :: env) L k) : GP c n ops s Lq (fuel + 1) listed env L k := by
  intro a w hk hm hw
  refine wpAnyP_first ho (Region.noSelect_spec hs) (fun _ _ _ h => absurd h.1 (by simp)) (HS c []) (fun _ => True) (fun _ _ _ _ h => h.1) (fun _ _ _ _ _ _ => trivial) (fun l => ps_set his) fuel listed a w (Region.free_spec ho hf) (by simpa using hr) trivial
    (.inl ⟨Xt hk hg, fun w' hw' => Val.held hv hk w' hw'⟩) hw ?_
  rw [hd]
  exact h _ w (hk.put hn v) hm (by rw [ps_set his]; exact hw)
theorem ready_waits {l : Array Bool} {s i : Nat} (hwt : waitsFor ops s i = true) (hil : l.getD i true = false) (hj : s ∈ Region.ready .any ops l) : False := by
  obtain ⟨_, oj, hoj, hall⟩ := mem_ready.1 hj
  unfold waitsFor at hwt
  rw [hoj] at hwt
  obtain ⟨e, he, hb⟩ := Array.any_eq_true'.1 hwt
  simp only [Bool.and_eq_true, beq_iff_eq] at hb
  have h1 := hall e he hb.1
  rw [hb.2] at h1
  rcases Nat.lt_or_ge i l.size with h' | h'
  · simp [h'] at hil h1; rw [hil] at h1; cases h1
  · simp [Array.getElem?_eq_none h'] at h1
def chainOk (ops : Array Oper) : List Nat → Bool
  | a :: b :: r => waitsFor ops a b && chainOk ops (b :: r)
  | _ => true
theorem chain_ready {l : Array Bool} {i : Nat} (hil : l.getD i true = false) : ∀ (ms : List Nat), chainOk ops (ms ++ [i]) = true → (∀ m ∈ ms, l.getD m true = false) → ∀ j ∈ ms, j ∉ Region.ready .any ops l
  | [], _, _, j, hj => by cases hj
  | [a], h, _, j, hj => by
    rw [List.mem_singleton.1 hj]
    simp only [List.cons_append, List.nil_append, chainOk, Bool.and_true] at h
    exact ready_waits h hil
  | a :: b :: r, h, hu, j, hj => by
    simp only [List.cons_append, chainOk, Bool.and_eq_true] at h
    rcases List.mem_cons.1 hj with rfl | hj
    · exact ready_waits h.1 (hu b (by simp))
    · exact chain_ready hil (b :: r) h.2 (fun m hm => hu m (List.mem_cons_of_mem _ hm)) j hj
/-- What reads a block that lies quiet until s has come; s waits for it, by way of others. -/
theorem GP_takeL (i : Nat) (ms : List Nat) {d : Nat} {v : Value} (ho : ops[i]? = some o) (hd : o.dst = some d) (hn : Nat.blt d n = true) (hg : fguard ops env o = some true)
    (hs : Region.noSelect ops = true) (hf : Region.free .any ops listed i = true) (hr : (Region.ready .any ops listed).contains i = true) (his : i ≠ s) (hwt : chainOk ops (s :: ms ++ [i]) = true) (hls : (s :: ms).all (fun m => !listed.getD m true) = true)
    (hv : ∀ w0 S, Val ⟨c.P, c.f, w0, c.A, S, c.R, c.ds⟩ n env Lq o v) (h : GP c n ops s Lq fuel (listed.setIfInBounds i true) ((d, v) :: env) L k) : GP c n ops s Lq (fuel + 1) listed env L k := by
  intro a w hk hm hw
  refine wpAnyP_first ho (Region.noSelect_spec hs) (fun _ _ _ h => absurd h.1 (by simp)) (HS c Lq) (fun l => ∀ m ∈ s :: ms, l.getD m true = false) (fun l w _ hl h => h.2 (hl s (by simp))) (fun l j hl hil hj hji => ?_) (fun l => ps_set his) fuel listed a w (Region.free_spec ho hf) (by simpa using hr)
    (fun m hm => by simpa using List.all_eq_true.1 hls m hm) (.inl ⟨Xt hk hg, fun w' hw' => Val.held hv hk w' hw'⟩) hw ?_
  · intro m hm
    have hne : j ≠ m := fun e => chain_ready hil (s :: ms) hwt hl m hm (e ▸ hj)
    rw [getD_set_ne true hne]; exact hl m hm
  · rw [hd]
    exact h _ w (hk.put hn v) hm (by rw [ps_set his]; exact hw)
theorem GP_all (rs : List Nat) (hr : Region.ready .any ops listed = rs) (hne : rs ≠ []) (h : GPops c n ops s Lq fuel listed env L k rs) : GP c n ops s Lq (fuel + 1) listed env L k :=
  fun a w hk hm hw => wpAnyP_all hr hne fun i hi => h.mem i hi a w hk hm hw
theorem gpop_of {i : Nat} {a : Act} {w : World} {K : Act → World → Prop} (ho : ops[i]? = some o) (hw : Region.wanted o (yielded ops a.tmps) = true) (h : o.upon c.P a K (HQ c k) ((execOp a.eval o).run c.P w)) : wpOp c.P ops (HQ c k) i K a w := by
  unfold wpOp
  rw [ho]
  simp only
  rw [if_pos hw]
  exact .inl h
theorem GPop_new {i d : Nat} {mk : Nat → Value} {ob : Obj} (ho : ops[i]? = some o) (hd : o.dst = some d) (hn : Nat.blt d n = true) (hg : fguard ops env o = some true)
    (hv : New c n env L o mk ob) (isq : List Nat) (hq : ∀ b, ∃ M, tk isq ((some b, ob) :: L) = some (Lq, M)) (h : ∀ b, GP c n ops s Lq fuel (listed.setIfInBounds i true) ((d, mk b) :: env) ((some b, ob) :: L) k) : GPop c n ops s Lq fuel listed env L k i := by
  intro a w hk hm hw
  refine gpop_of ho (Xt hk hg) ?_
  rw [hv a w hk hm, Oper.upon_value, hd]
  obtain ⟨M, hM⟩ := hq w.heap.size
  have hs : PS_ c Lq s (listed.setIfInBounds i true) (w.alloc ob) := ⟨hs_nil (hm.alloc ob), fun _ => hs_of (hm.alloc ob) hM⟩
  exact ⟨hs, h w.heap.size _ _ (hk.put hn _) (hm.alloc ob) hs⟩
theorem Xg {i b : Nat} {old ob : Obj} {l1 l2 L' : List (Option Nat × Obj)} (ho : ops[i]? = some o) (hd : o.dst = none) (hg : fguard ops env o = some true)
    (hL : L = l1 ++ (some b, old) :: l2) (hv : Put c n env L o b ob) (hL' : l1 ++ (some b, ob) :: l2 = L') (hph : (listed.setIfInBounds i true).getD s true = true) (h : GP c n ops s Lq fuel (listed.setIfInBounds i true) env L' k) : GPop c n ops s Lq fuel listed env L k i := by
  intro a w hk hm hw
  obtain ⟨w', hr, h1, h2, h3, h4, h5, h6⟩ := hv a w hk hm
  refine gpop_of ho (Xt hk hg) ?_
  rw [hr, Oper.upon_skip, hd]
  subst hL'
  have hm' := hm.put hL h1 h2 h3 h4 h5 h6
  have hs : PS_ c Lq s (listed.setIfInBounds i true) w' := ⟨hs_nil hm', fun hf => by rw [hph] at hf; cases hf⟩
  exact ⟨hs, h _ w' (hk.putNone undef) hm' hs⟩
theorem Yq {i : Nat} {d m nn sz bt : Nat} {x y : Operand} {t u e ty : TypeId} {ds : TypeDesc} {ps : String} {es : Array Edge} {gd : Option (Nat × Bool)} {ti : TypeInfo} {z xv : Value} {sl : Sl} {xs news : List Value} {l1 l2 : List (Option Nat × Obj)}
    (ho : ops[i]? = some o) (hop : o = ⟨some d, .call ⟨.builtin .append, #[x, y], #[t, u]⟩, ty, ps, es, gd⟩) (hn : Nat.blt d n = true) (hg : fguard ops env o = some true)
    (ht : c.P.underlying t = some (.slice e)) (hu : c.P.underlying u = some ds) (hds : ds = .string ∨ ∃ e', ds = .slice e') (hi : c.P.info? e = some ti) (hz : ti.zero = some z) (hsz : ti.size = sz) (hzs : z.cells.size = sz) (hbt : ti.bytes = bt)
    (hx : fev env x = some (sl.v nn)) (hy : fev env y = some xv) (hown : Own sz sl xs nn) (hL : L = l1 ++ (sl.ob, .cells sl.cs e sl.fz) :: l2) (hS : ∀ w, Has w c.A L → Src c.P w sz xv m news)
    (h63 : nn + m ≤ 9223372036854775807) (hbytes : (nn + m) * bt ≤ 140737488355328)
    (isq : List Nat) (hq : ∀ s' : Sl, ∃ M, tk isq (l1 ++ (s'.ob, .cells s'.cs e s'.fz) :: l2) = some (Lq, M))
    (h : ∀ s' : Sl, Own sz s' (xs ++ news) (nn + m) → More sl s' → GP c n ops s Lq fuel (listed.setIfInBounds i true) ((d, s'.v (nn + m)) :: env) (l1 ++ (s'.ob, .cells s'.cs e s'.fz) :: l2) k) : GPop c n ops s Lq fuel listed env L k i := by
  intro a w hk hm hw
  subst hop
  refine gpop_of ho (Xt hk hg) ?_
  obtain ⟨s', w', hr, h1, h2, h3, h4, h5⟩ := run_append_any (P := c.P) w t u ty e ds ti z sz ht hu hds hi hz hsz hzs sl xs nn hown (fun b hb => hm.lies (by rw [hL, ← hb]; simp)) xv m news (hS w hm.has) h63 (by rw [hbt]; exact hbytes)
  have hrun : (execOp a.eval ⟨some d, .call ⟨.builtin .append, #[x, y], #[t, u]⟩, ty, ps, es, gd⟩).run c.P w = .ok (.value (s'.v (nn + m))) w' := by
    unfold execOp
    simp only [resolve, invoke, builtin, Sem.run_bind, Sem.run_pure, Result.andThen_ok, List.map_toArray, List.map_cons, List.map_nil, hk.eval hx, hk.eval hy, hr]
  rw [hrun, Oper.upon_value]
  subst hL
  have hm' := hm.grown h2 h3 h4
  obtain ⟨M', hM⟩ := hq s'
  have hs : PS_ c Lq s (listed.setIfInBounds i true) w' := ⟨hs_nil hm', fun _ => hs_of hm' hM⟩
  exact ⟨hs, h s' h1 h5 _ w' (hk.put hn _) hm' hs⟩
end
end Go.Proofs.Ytjnaeoelnmhjfaa
