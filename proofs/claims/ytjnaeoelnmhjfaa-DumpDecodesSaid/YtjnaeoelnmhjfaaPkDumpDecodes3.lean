/- What the law DumpDecodes needs, part 3.  -/
import Derived.Test.YtjnaeoelnmhjfaaPkDumpDecodes1
import Derived.Test.YtjnaeoelnmhjfaaPkDumpDecodes2


set_option linter.unusedSimpArgs false
set_option linter.unusedVariables false
namespace Go.Proofs.Ytjnaeoelnmhjfaa
open Go Go.RowKit

section
theorem i_109 : Try.prog.info? 109 = some Try.t109 := by kernel_rfl
theorem i_204 : Try.prog.info? 204 = some Try.t204 := by kernel_rfl
theorem i_206 : Try.prog.info? 206 = some Try.t206 := by kernel_rfl
theorem i_215 : Try.prog.info? 215 = some Try.t215 := by kernel_rfl
theorem i_250 : Try.prog.info? 250 = some Try.t250 := by kernel_rfl
theorem i_258 : Try.prog.info? 258 = some Try.t258 := by kernel_rfl


abbrev HBk := Option Nat × Obj
theorem sub_el {α : Type} {K : α → List HBk} {l : List α} {i : Nat} {x : α} (hx : l[i]? = some x) {b : HBk} {A1 L : List HBk} (hb : b ∈ (A1 ++ l.flatMap K) ++ L) : ∀ z ∈ b :: K x, z ∈ (A1 ++ l.flatMap K) ++ L := by
  intro z hz
  rcases List.mem_cons.1 hz with rfl | hz
  · exact hb
  · exact List.mem_append_left _ (List.mem_append_right _ (List.mem_flatMap.2 ⟨x, List.mem_of_getElem? hx, hz⟩))
/-- An invocation that waits. -/
structure Fl where
  v0 : Int
  v1 : Int
  v2 : Int
  s : Ins It
def cFl (x : Fl) : List Value := [.int .i64 x.v0, .int .i64 x.v1, .int .i64 x.v2, .slice x.s.p x.s.l.length x.s.cap]
theorem cFl_len (x : Fl) : (cFl x).length = 4 := rfl
def encFl (x : Fl) : List UInt8 := encIs [x.v0, x.v1, x.v2] ++ encL encIt x.s.l
def badFl (x : Fl) : Bool := [x.v0, x.v1, x.v2].any badI || badL badIt x.s.l
def OkFl (x : Fl) : Prop := InsOk 2 cIt x.s ∧ ∀ y ∈ x.s.l, OkIt y
def kFl (x : Fl) : List HBk := [insK x.s]
/-- A tenant that waits, as the program has it. -/
structure Tn where
  v0 : Int
  v1 : Int
  v2 : Int
  g : Bool
  s : Ins Fl

set_option maxRecDepth 100000 in
set_option maxHeartbeats 1000000 in
theorem cw_flow (b : Nat) (p : Value) (u : Sl) (tx : List UInt8) (w : Bool) (hp : UsedOr b p) (hu : Txt u tx) (bx : Nat) (x : Fl) (T : TypeId) (fz : Nat × Nat) (hx : OkFl x) (hl : tx.length + (encFl x).length ≤ 140737488350000) :
    Ct Try.prog 174 [.pointer (some ⟨b, 0, none⟩), .pointer (some ⟨bx, 0, none⟩)] ((some bx, .cells (cFl x).toArray T fz) :: kFl x) [(some b, .cells #[p, u.v (tx).length, .pointer none, .bool w] 80 (0, 0)), (u.ob, .cells u.cs 5 u.fz)] fun v post => v = .tuple #[] ∧ ∃ p1 u1, UsedOr b p1 ∧ Txt u1 (tx ++ encFl x) ∧ post = [(some b, .cells #[p1, u1.v (tx ++ encFl x).length, .pointer none, .bool (w || badFl x)] 80 (0, 0)), (u1.ob, .cells u1.cs 5 u1.fz)] := by
 have hl_ := hl
 unfold encFl at hl_
 simp only [List.length_append] at hl_
 refine Yu Try.func174 rfl rfl (fun w0 => ?_)
 show G _ _ [(0, _), (1, _)] _ _
 refine Zh ?_
 refine Yf (Lq := []) (isq := []) (m := 12) Yo rfl rfl ?_
 refine Zi 0 rfl rfl rfl rfl (by kernel_rfl) (fun _ _ => Zc rfl rfl) ?_
 refine Zi 1 rfl rfl rfl rfl (by kernel_rfl) (fun _ _ => Zc rfl rfl) ?_
 refine Zi 2 rfl rfl rfl rfl (by kernel_rfl) (fun _ _ => Ze rfl rfl) ?_
 refine Zi 3 rfl rfl rfl rfl (by kernel_rfl) (fun _ _ => Zb (fo := 0) rfl Try.underlying258 rfl i_3 rfl rfl rfl) ?_
 refine Zi 4 rfl rfl rfl rfl (by kernel_rfl) (fun _ _ => Zc rfl rfl) ?_
 refine Zi 5 rfl rfl rfl rfl (by kernel_rfl) (fun _ _ => Ze rfl rfl) ?_
 refine Zi 6 rfl rfl rfl rfl (by kernel_rfl) (fun _ _ => Zb (fo := 1) rfl Try.underlying258 rfl i_3 rfl rfl rfl) ?_
 refine Zi 7 rfl rfl rfl rfl (by kernel_rfl) (fun _ _ => Zc rfl rfl) ?_
 refine Zi 8 rfl rfl rfl rfl (by kernel_rfl) (fun _ _ => Ze rfl rfl) ?_
 refine Zi 9 rfl rfl rfl rfl (by kernel_rfl) (fun _ _ => Zb (fo := 2) rfl Try.underlying258 rfl i_3 rfl rfl rfl) ?_
 refine GH_all [10] (by kernel_rfl) (by decide) ?_
 refine (And.intro ?_ trivial)
 ·
  refine Yl rfl rfl rfl rfl (Zn (s := 1) (cs := [_, _, _]) rfl Try.underlying241 i_176 rfl rfl rfl rfl rfl rfl rfl rfl rfl) [] (fun _ => ⟨_, rfl⟩) (fun b14 => ?_)
  refine GH_all [11] (by kernel_rfl) (by decide) ?_
  refine (And.intro ?_ trivial)
  ·
   refine Xy (L2 := [_]) rfl rfl rfl rfl rfl rfl Try.call96 (cw_intsL b _ _ _ _ hp hu _ _ bx (cFl x).toArray T fz [(0, x.v0), (1, x.v1), (2, x.v2)] (by simp) ⟨rfl, rfl, rfl, trivial⟩ (by (try simp only [List.map_cons, List.map_nil, List.length_append]); omega)) [1, 1] rfl (Ys (List.mem_append_right _ (Zf 0 rfl)) (Ys (List.mem_append_left _ (Zf 0 rfl)) Xh)) [] (by rintro v post ⟨rfl, p1, u1, hp1, hu1, rfl⟩; exact ⟨_, rfl⟩) ?_
   rintro v post ⟨rfl, p1, u1, hp1, hu1, rfl⟩
   show GH _ _ _ _ _ _ _ [_, _, _] _
   refine Ya (by kernel_rfl) ?_
   refine Zd (l := [0, 1, 2, 3, 4, 5, 6]) rfl ?_
   refine Za rfl rfl rfl rfl (Zc rfl rfl) ?_
   refine Za rfl rfl rfl rfl (Zc rfl rfl) ?_
   refine Za rfl rfl rfl rfl (Ze rfl rfl) ?_
   refine Za rfl rfl rfl rfl (Zb (fo := 3) rfl Try.underlying258 rfl i_215 rfl rfl rfl) ?_
   refine Za rfl rfl rfl rfl (Zc rfl rfl) ?_
   refine Za rfl rfl rfl rfl (V_func rfl rfl rfl) ?_
   refine Xx (L2 := [_]) rfl rfl rfl rfl rfl rfl Try.call178 (cw_listIt b _ _ _ _ hp1 hu1 bx 3 (cFl x).toArray T fz x.s hx.1 hx.2 rfl (by (try simp only [List.map_cons, List.map_nil, List.length_append]); omega)) [0, 0] rfl (fun z hz => List.mem_append_left _ hz) ?_
   rintro v post ⟨rfl, p1, u1, hp1, hu1, rfl⟩
   show G _ _ _ [_, _, _] _
   refine Zg ?_
   refine G_end (post := [_, _]) Try.func174 rfl Zp [0, 0] rfl ?_
   dsimp only [packed]
   refine ⟨rfl, p1, u1, hp1, ?_, ?_⟩
   · simpa only [encFl, List.map_cons, List.map_nil, List.append_assoc] using hu1
   · simp only [encFl, badFl, List.map_cons, List.map_nil, List.append_assoc, Bool.or_assoc]

set_option maxRecDepth 100000 in
set_option maxHeartbeats 1000000 in
theorem cw_listFl (b : Nat) (p : Value) (u : Sl) (tx : List UInt8) (w : Bool) (hp : UsedOr b p) (hu : Txt u tx) (bx k : Nat) (cs : Array Value) (T : TypeId) (fz : Nat × Nat) (s : Ins Fl) (hs : InsOk 4 cFl s) (hok : ∀ x ∈ s.l, OkFl x) (hk : cs[k]? = some (.slice s.p s.l.length s.cap)) (hl : tx.length + (encL encFl s.l).length ≤ 140737488350000) :
    Ct Try.prog 173 [.pointer (some ⟨b, 0, none⟩), .pointer (some ⟨bx, k, none⟩), .func (.func 174) #[.pointer (some ⟨b, 0, none⟩)] #[]] ((some bx, .cells cs T fz) :: (s.ob, .cells s.cs s.T s.fr) :: s.l.flatMap kFl) [(some b, .cells #[p, u.v (tx).length, .pointer none, .bool w] 80 (0, 0)), (u.ob, .cells u.cs 5 u.fz)] fun v post => v = .tuple #[] ∧ ∃ p1 u1, UsedOr b p1 ∧ Txt u1 (tx ++ encL encFl s.l) ∧ post = [(some b, .cells #[p1, u1.v (tx ++ encL encFl s.l).length, .pointer none, .bool (w || badL badFl s.l)] 80 (0, 0)), (u1.ob, .cells u1.cs 5 u1.fz)] := by
 have hl1 := hs.le
 have hl2 := hs.max
 have hln := hs.n
 have hcl := chainI_len (s.l.length : Int) (by omega) (by omega)
 have hl_ := hl
 unfold encL at hl_
 simp only [List.length_append] at hl_
 refine Yu Try.func173 rfl rfl (fun w0 => ?_)
 show G _ _ [(0, _), (1, _), (2, _)] _ _
 refine Zh ?_
 refine Zh ?_
 refine Zd (l := [0, 1, 2, 3, 4]) rfl ?_
 refine Za rfl rfl rfl rfl (Zc rfl rfl) ?_
 refine Za rfl rfl rfl rfl (Ze rfl rfl) ?_
 refine Za rfl rfl rfl rfl (Zb (fo := 2) rfl Try.underlying80 rfl i_74 rfl rfl rfl) ?_
 refine Za rfl rfl rfl rfl (Zj rfl rfl (List.mem_append_right _ (Zf 0 rfl)) rfl Try.underlying74 rfl) ?_
 refine Za rfl rfl rfl rfl (V_peqlN rfl Try.underlying74 rfl rfl) ?_
 refine Zg ?_
 refine G_then rfl ?_
 refine Zh ?_
 refine Zd (l := [0, 1, 2, 3, 4, 5, 6, 7, 8, 9, 10, 11, 12, 13, 14]) rfl ?_
 refine Za rfl rfl rfl rfl (Zc rfl rfl) ?_
 refine Za rfl rfl rfl rfl (Zc rfl rfl) ?_
 refine Za rfl rfl rfl rfl (Ze rfl rfl) ?_
 refine Za rfl rfl rfl rfl (Zb (fo := 3) rfl Try.underlying80 rfl i_4 rfl rfl rfl) ?_
 refine Za rfl rfl rfl rfl (Zj rfl rfl (List.mem_append_right _ (Zf 0 rfl)) rfl Try.underlying4 rfl) ?_
 refine Za rfl rfl rfl rfl (Zc rfl rfl) ?_
 refine G_split 19 rfl (fun hc1 => ?_) (fun hc1 => ?_)
 ·
  refine Yb rfl rfl rfl rfl ?_
  refine Yb rfl rfl rfl rfl ?_
  refine Yb rfl rfl rfl rfl ?_
  refine Yb rfl rfl rfl rfl ?_
  refine Yb rfl rfl rfl rfl ?_
  refine Za rfl rfl rfl rfl (Yz rfl rfl rfl) ?_
  refine Za rfl rfl rfl rfl (Ze rfl rfl) ?_
  refine Za rfl rfl rfl rfl (Zb (fo := 3) rfl Try.underlying80 rfl i_4 rfl rfl rfl) ?_
  refine Yj (l1 := []) (L' := [_, _]) rfl rfl rfl rfl (Zm rfl rfl rfl (Zf 0 rfl) (by first | exact of_decide_eq_true rfl | omega | (simp [cOp, cWk, cIv, cHr, cLt, cWt, cIt, cFl]; done) | (simp [cOp, cWk, cIv, cHr, cLt, cWt, cIt, cFl]; omega) | (simp [cOp, cWk, cIv, cHr, cLt, cWt, cIt, cFl] at *; omega)) i_4 rfl rfl) rfl ?_
  refine Zg ?_
  refine Zh ?_
  refine Yf (Lq := []) (isq := []) (m := 10) Yo rfl rfl ?_
  refine Zi 0 rfl rfl rfl rfl (by kernel_rfl) (fun _ _ => Zc rfl rfl) ?_
  refine Zi 1 rfl rfl rfl rfl (by kernel_rfl) (fun _ _ => Ze rfl rfl) ?_
  refine Zi 2 rfl rfl rfl rfl (by kernel_rfl) (fun _ _ => Zb (fo := 0) rfl Try.underlying80 rfl i_78 rfl rfl rfl) ?_
  refine Zi 3 rfl rfl rfl rfl (by kernel_rfl) (fun _ _ => Zc rfl rfl) ?_
  refine Zi 4 rfl rfl rfl rfl (by kernel_rfl) (fun _ _ => Ze rfl rfl) ?_
  refine Zi 5 rfl rfl rfl rfl (by kernel_rfl) (fun _ _ => Zj rfl rfl (List.mem_append_left _ (Zf 0 rfl)) (Zt hk) Try.underlying204 rfl) ?_
  refine Zi 6 rfl rfl rfl rfl (by kernel_rfl) (fun _ _ => Yp rfl rfl Try.underlying204 rfl) ?_
  refine Zi 7 rfl rfl rfl rfl (by kernel_rfl) (fun _ _ => (Xt rfl rfl Try.underlying3 Try.underlying23).int (Xm (by omega))) ?_
  refine GH_all [8] (by kernel_rfl) (by decide) ?_
  refine (And.intro ?_ trivial)
  ·
   refine Xy (L2 := [_, _]) rfl rfl rfl rfl rfl rfl Try.call80 (Xv _ (by omega) (by omega)) [] rfl Xh [] (by rintro v post ⟨rfl, rfl⟩; exact ⟨_, rfl⟩) ?_
   rintro v post ⟨rfl, rfl⟩
   show GH _ _ _ _ _ _ _ [_, _] _
   refine GH_all [9] (by kernel_rfl) (by decide) ?_
   refine (And.intro ?_ trivial)
   ·
    refine Xy (L2 := []) rfl rfl rfl rfl rfl rfl Try.call79 (Xl _ _ _ _ _ _ _ hp hu (by omega)) [0, 0] rfl Xh [] (by rintro v post ⟨rfl, u1, hu1, rfl⟩; exact ⟨_, rfl⟩) ?_
    rintro v post ⟨rfl, u1, hu1, rfl⟩
    show GH _ _ _ _ _ _ _ [_, _] _
    refine Ya (by kernel_rfl) ?_
    refine Zh ?_
    refine Zh ?_
    refine Zd (l := [0, 1, 2, 3, 4]) rfl ?_
    refine Za rfl rfl rfl rfl (Zc rfl rfl) ?_
    refine Za rfl rfl rfl rfl (Ze rfl rfl) ?_
    refine Za rfl rfl rfl rfl (Zj rfl rfl (List.mem_append_left _ (Zf 0 rfl)) (Zt hk) Try.underlying204 rfl) ?_
    refine Za rfl rfl rfl rfl (Yp rfl rfl Try.underlying204 rfl) ?_
    refine Za rfl rfl rfl rfl (Zc rfl rfl) ?_
    refine Zg ?_
    refine Zs ?_
    refine Yi ?he4 [0, 0] ?hl4 (Xb (X := Nat × Value × Sl × List UInt8 × Bool) (fun x_ => match x_ with | ⟨i, p, u, t, v⟩ => i ≤ s.l.length ∧ UsedOr b p ∧ Txt u t ∧ t = tx ++ (chainI (s.l.length : Int) ++ (s.l.take i).flatMap encFl) ∧ v = (w || (decide (1000 < (s.l.length : Int)) || (s.l.take i).any badFl))) (fun x_ => match x_ with | ⟨i, p, u, t, v⟩ => s.l.length - i) (fun x_ => match x_ with | ⟨i, p, u, t, v⟩ => [(0, .pointer (some ⟨b, 0, none⟩)), (1, .pointer (some ⟨bx, k, none⟩)), (2, .func (.func 174) #[.pointer (some ⟨b, 0, none⟩)] #[]), (41, .int .i64 (s.l.length : Int)), (42, .int .i64 (i : Int))]) (fun x_ => match x_ with | ⟨i, p, u, t, v⟩ => [(some b, .cells #[p, u.v (t).length, .pointer none, .bool v] 80 (0, 0)), (u.ob, .cells u.cs 5 u.fz)]) ?round4 (0, .pointer (some ⟨b, 0, none⟩), u1, tx ++ chainI (s.l.length : Int), true) ?h04)
    case he4 => exact (And.intro rfl (And.intro rfl (And.intro rfl (And.intro rfl (And.intro rfl trivial)))))
    case hl4 => exact ⟨_, rfl⟩
    case h04 => exact ⟨Nat.zero_le _, .inr rfl, hu1, by simp, by simp [*]⟩
    case round4 =>
     intro x_ hJ ih
     try dsimp only at hJ ih
     obtain ⟨i, p, u, t, v⟩ := x_
     try dsimp only at hJ ih
     obtain ⟨hi, hp, hu, ht, hv⟩ := hJ
     show G _ _ [(0, .pointer (some ⟨b, 0, none⟩)), (1, .pointer (some ⟨bx, k, none⟩)), (2, .func (.func 174) #[.pointer (some ⟨b, 0, none⟩)] #[]), (41, .int .i64 (s.l.length : Int)), (42, .int .i64 (i : Int))] [(some b, .cells #[p, u.v (t).length, .pointer none, .bool v] 80 (0, 0)), (u.ob, .cells u.cs 5 u.fz)] _
     refine Zh ?_
     refine Zd (l := [0]) rfl ?_
     refine Za rfl rfl rfl rfl (Xn rfl rfl rfl) ?_
     refine Zg ?_
     refine Zh ?_
     refine Yk rfl (fun hc2 => ?_) (fun hc2 => ?_)
     ·
      refine Zu ?_
      refine Zh ?_
      refine Zs ?_
      refine Zh ?_
      refine Zd (l := [0, 1]) rfl ?_
      refine Za rfl rfl rfl rfl (Zc rfl rfl) ?_
      refine Za rfl rfl rfl rfl (Zk rfl rfl) ?_
      refine Zg ?_
      refine Zh ?_
      obtain ⟨x, hx⟩ := getI (show i < s.l.length by omega)
      obtain ⟨bi, hb1, hb2, hss⟩ := hs.isS (i := i) (by omega)
      have hxo := hok x (List.mem_of_getElem? hx)
      have hfl := fmap_len encFl s.l (i + 1)
      rw [← Yx encFl hx, List.length_append] at hfl
      have htl := congrArg List.length ht
      simp only [List.length_append] at htl
      refine Zd (l := [0, 1, 2, 3, 4, 5, 6, 7]) rfl ?_
      refine Za rfl rfl rfl rfl (Zc rfl rfl) ?_
      refine Za rfl rfl rfl rfl (Ze rfl rfl) ?_
      refine Za rfl rfl rfl rfl (Zj rfl rfl (List.mem_append_left _ (Zf 0 rfl)) (Zt hk) Try.underlying204 rfl) ?_
      rw [hb1]
      refine Za rfl rfl rfl rfl (Zc rfl rfl) ?_
      refine Za rfl rfl rfl rfl (Zo (s := 4) rfl Try.underlying204 i_258 rfl rfl rfl rfl (by omega)) ?_
      refine Za rfl rfl rfl rfl (Xp (s := 4) (vs := (cFl x).toArray) rfl rfl (by rw [← hb2]; exact Zf 1 rfl) Try.underlying258 rfl i_258 rfl (hss.elem cFl_len hx) (by rfl)) ?_
      refine Yw rfl rfl rfl rfl (Ym rfl i_258 rfl) (fun b7 => ?_)
      refine Yj (l1 := []) (L' := [_, _, _]) rfl rfl rfl rfl (Yv (s := 4) rfl rfl rfl (Zf 0 rfl) (by rfl) i_258 rfl (by rfl) (by simp [Value.oneCell', cOp, cWk, cIv, cHr, cLt, cWt, cIt, cFl])) rfl ?_
      refine Zg ?_
      refine Zd (l := [0, 1]) rfl ?_
      refine Za rfl rfl rfl rfl (Zc rfl rfl) ?_
      refine G_callMB (L2 := [_]) rfl rfl rfl rfl rfl rfl Try.call174 rfl (cw_flow b _ _ _ _ hp hu _ x _ _ hxo (by omega)) [1, 1] rfl (sub_el (A1 := [_, _]) (K := kFl) hx (List.mem_append_right _ (Zf 0 rfl))) ?_
      rintro v post ⟨rfl, p1, u1, hp1, hu1, rfl⟩
      show G _ _ _ [_, _, _] _
      refine Zg ?_
      refine Zv ?_
      refine Zd (l := [0, 1]) rfl ?_
      refine Za rfl rfl rfl rfl ((Xe rfl rfl rfl).int (Zw (by omega))) ?_
      refine Za rfl rfl rfl rfl (Zc rfl rfl) ?_
      refine Zg ?_
      refine Yi ?_ [0, 0] ?_ (ih (i + 1, p1, u1, t ++ encFl x, v || badFl x) ?_ ?_)
      · (refine (And.intro ?_ (And.intro ?_ (And.intro ?_ (And.intro ?_ (And.intro ?_ trivial))))) <;> first | rfl | exact Zl (by omega) | exact Zl (by simp))
      · exact ⟨_, rfl⟩
      · exact ⟨by omega, hp1, hu1, by rw [← Yx encFl hx, ht]; simp only [List.append_assoc], by rw [hv, ← anyt_next hx]; simp only [Bool.or_assoc]⟩
      · (first | omega | (dsimp only; omega))
     refine Yr rfl ?_
     refine Yy (post := [_, _]) Try.func173 rfl Zp [0, 0] rfl ?_
     dsimp only [packed]
     have e : s.l.take i = s.l := List.take_of_length_le (by omega)
     rw [e] at ht hv
     subst ht hv
     exact ⟨rfl, p, u, hp, hu, rfl⟩
 refine Za rfl rfl rfl rfl (Zc rfl rfl) ?_
 refine Za rfl rfl rfl rfl (Ze rfl rfl) ?_
 refine Za rfl rfl rfl rfl (Zj rfl rfl (List.mem_append_left _ (Zf 0 rfl)) (Zt hk) Try.underlying204 rfl) ?_
 refine Za rfl rfl rfl rfl (Yp rfl rfl Try.underlying204 rfl) ?_
 refine Za rfl rfl rfl rfl (V_gtr rfl rfl rfl) ?_
 refine Za rfl rfl rfl rfl (Xg rfl rfl rfl) ?_
 refine Za rfl rfl rfl rfl (Ze rfl rfl) ?_
 refine Za rfl rfl rfl rfl (Zb (fo := 3) rfl Try.underlying80 rfl i_4 rfl rfl rfl) ?_
 refine Yj (l1 := []) (L' := [_, _]) rfl rfl rfl rfl (Zm rfl rfl rfl (Zf 0 rfl) (by first | exact of_decide_eq_true rfl | omega | (simp [cOp, cWk, cIv, cHr, cLt, cWt, cIt, cFl]; done) | (simp [cOp, cWk, cIv, cHr, cLt, cWt, cIt, cFl]; omega) | (simp [cOp, cWk, cIv, cHr, cLt, cWt, cIt, cFl] at *; omega)) i_4 rfl rfl) rfl ?_
 refine Zg ?_
 refine Zh ?_
 refine Yf (Lq := []) (isq := []) (m := 10) Yo rfl rfl ?_
 refine Zi 0 rfl rfl rfl rfl (by kernel_rfl) (fun _ _ => Zc rfl rfl) ?_
 refine Zi 1 rfl rfl rfl rfl (by kernel_rfl) (fun _ _ => Ze rfl rfl) ?_
 refine Zi 2 rfl rfl rfl rfl (by kernel_rfl) (fun _ _ => Zb (fo := 0) rfl Try.underlying80 rfl i_78 rfl rfl rfl) ?_
 refine Zi 3 rfl rfl rfl rfl (by kernel_rfl) (fun _ _ => Zc rfl rfl) ?_
 refine Zi 4 rfl rfl rfl rfl (by kernel_rfl) (fun _ _ => Ze rfl rfl) ?_
 refine Zi 5 rfl rfl rfl rfl (by kernel_rfl) (fun _ _ => Zj rfl rfl (List.mem_append_left _ (Zf 0 rfl)) (Zt hk) Try.underlying204 rfl) ?_
 refine Zi 6 rfl rfl rfl rfl (by kernel_rfl) (fun _ _ => Yp rfl rfl Try.underlying204 rfl) ?_
 refine Zi 7 rfl rfl rfl rfl (by kernel_rfl) (fun _ _ => (Xt rfl rfl Try.underlying3 Try.underlying23).int (Xm (by omega))) ?_
 refine GH_all [8] (by kernel_rfl) (by decide) ?_
 refine (And.intro ?_ trivial)
 ·
  refine Xy (L2 := [_, _]) rfl rfl rfl rfl rfl rfl Try.call80 (Xv _ (by omega) (by omega)) [] rfl Xh [] (by rintro v post ⟨rfl, rfl⟩; exact ⟨_, rfl⟩) ?_
  rintro v post ⟨rfl, rfl⟩
  show GH _ _ _ _ _ _ _ [_, _] _
  refine GH_all [9] (by kernel_rfl) (by decide) ?_
  refine (And.intro ?_ trivial)
  ·
   refine Xy (L2 := []) rfl rfl rfl rfl rfl rfl Try.call79 (Xl _ _ _ _ _ _ _ hp hu (by omega)) [0, 0] rfl Xh [] (by rintro v post ⟨rfl, u1, hu1, rfl⟩; exact ⟨_, rfl⟩) ?_
   rintro v post ⟨rfl, u1, hu1, rfl⟩
   show GH _ _ _ _ _ _ _ [_, _] _
   refine Ya (by kernel_rfl) ?_
   refine Zh ?_
   refine Zh ?_
   refine Zd (l := [0, 1, 2, 3, 4]) rfl ?_
   refine Za rfl rfl rfl rfl (Zc rfl rfl) ?_
   refine Za rfl rfl rfl rfl (Ze rfl rfl) ?_
   refine Za rfl rfl rfl rfl (Zj rfl rfl (List.mem_append_left _ (Zf 0 rfl)) (Zt hk) Try.underlying204 rfl) ?_
   refine Za rfl rfl rfl rfl (Yp rfl rfl Try.underlying204 rfl) ?_
   refine Za rfl rfl rfl rfl (Zc rfl rfl) ?_
   refine Zg ?_
   refine Zs ?_
   refine Yi ?he4 [0, 0] ?hl4 (Xb (X := Nat × Value × Sl × List UInt8 × Bool) (fun x_ => match x_ with | ⟨i, p, u, t, v⟩ => i ≤ s.l.length ∧ UsedOr b p ∧ Txt u t ∧ t = tx ++ (chainI (s.l.length : Int) ++ (s.l.take i).flatMap encFl) ∧ v = (w || (decide (1000 < (s.l.length : Int)) || (s.l.take i).any badFl))) (fun x_ => match x_ with | ⟨i, p, u, t, v⟩ => s.l.length - i) (fun x_ => match x_ with | ⟨i, p, u, t, v⟩ => [(0, .pointer (some ⟨b, 0, none⟩)), (1, .pointer (some ⟨bx, k, none⟩)), (2, .func (.func 174) #[.pointer (some ⟨b, 0, none⟩)] #[]), (41, .int .i64 (s.l.length : Int)), (42, .int .i64 (i : Int))]) (fun x_ => match x_ with | ⟨i, p, u, t, v⟩ => [(some b, .cells #[p, u.v (t).length, .pointer none, .bool v] 80 (0, 0)), (u.ob, .cells u.cs 5 u.fz)]) ?round4 (0, .pointer (some ⟨b, 0, none⟩), u1, tx ++ chainI (s.l.length : Int), (decide (1000 < (s.l.length : Int)))) ?h04)
   case he4 => exact (And.intro rfl (And.intro rfl (And.intro rfl (And.intro rfl (And.intro rfl trivial)))))
   case hl4 => exact ⟨_, rfl⟩
   case h04 => exact ⟨Nat.zero_le _, .inr rfl, hu1, by simp, by simp [*]⟩
   case round4 =>
    intro x_ hJ ih
    try dsimp only at hJ ih
    obtain ⟨i, p, u, t, v⟩ := x_
    try dsimp only at hJ ih
    obtain ⟨hi, hp, hu, ht, hv⟩ := hJ
    show G _ _ [(0, .pointer (some ⟨b, 0, none⟩)), (1, .pointer (some ⟨bx, k, none⟩)), (2, .func (.func 174) #[.pointer (some ⟨b, 0, none⟩)] #[]), (41, .int .i64 (s.l.length : Int)), (42, .int .i64 (i : Int))] [(some b, .cells #[p, u.v (t).length, .pointer none, .bool v] 80 (0, 0)), (u.ob, .cells u.cs 5 u.fz)] _
    refine Zh ?_
    refine Zd (l := [0]) rfl ?_
    refine Za rfl rfl rfl rfl (Xn rfl rfl rfl) ?_
    refine Zg ?_
    refine Zh ?_
    refine Yk rfl (fun hc2 => ?_) (fun hc2 => ?_)
    ·
     refine Zu ?_
     refine Zh ?_
     refine Zs ?_
     refine Zh ?_
     refine Zd (l := [0, 1]) rfl ?_
     refine Za rfl rfl rfl rfl (Zc rfl rfl) ?_
     refine Za rfl rfl rfl rfl (Zk rfl rfl) ?_
     refine Zg ?_
     refine Zh ?_
     obtain ⟨x, hx⟩ := getI (show i < s.l.length by omega)
     obtain ⟨bi, hb1, hb2, hss⟩ := hs.isS (i := i) (by omega)
     have hxo := hok x (List.mem_of_getElem? hx)
     have hfl := fmap_len encFl s.l (i + 1)
     rw [← Yx encFl hx, List.length_append] at hfl
     have htl := congrArg List.length ht
     simp only [List.length_append] at htl
     refine Zd (l := [0, 1, 2, 3, 4, 5, 6, 7]) rfl ?_
     refine Za rfl rfl rfl rfl (Zc rfl rfl) ?_
     refine Za rfl rfl rfl rfl (Ze rfl rfl) ?_
     refine Za rfl rfl rfl rfl (Zj rfl rfl (List.mem_append_left _ (Zf 0 rfl)) (Zt hk) Try.underlying204 rfl) ?_
     rw [hb1]
     refine Za rfl rfl rfl rfl (Zc rfl rfl) ?_
     refine Za rfl rfl rfl rfl (Zo (s := 4) rfl Try.underlying204 i_258 rfl rfl rfl rfl (by omega)) ?_
     refine Za rfl rfl rfl rfl (Xp (s := 4) (vs := (cFl x).toArray) rfl rfl (by rw [← hb2]; exact Zf 1 rfl) Try.underlying258 rfl i_258 rfl (hss.elem cFl_len hx) (by rfl)) ?_
     refine Yw rfl rfl rfl rfl (Ym rfl i_258 rfl) (fun b7 => ?_)
     refine Yj (l1 := []) (L' := [_, _, _]) rfl rfl rfl rfl (Yv (s := 4) rfl rfl rfl (Zf 0 rfl) (by rfl) i_258 rfl (by rfl) (by simp [Value.oneCell', cOp, cWk, cIv, cHr, cLt, cWt, cIt, cFl])) rfl ?_
     refine Zg ?_
     refine Zd (l := [0, 1]) rfl ?_
     refine Za rfl rfl rfl rfl (Zc rfl rfl) ?_
     refine G_callMB (L2 := [_]) rfl rfl rfl rfl rfl rfl Try.call174 rfl (cw_flow b _ _ _ _ hp hu _ x _ _ hxo (by omega)) [1, 1] rfl (sub_el (A1 := [_, _]) (K := kFl) hx (List.mem_append_right _ (Zf 0 rfl))) ?_
     rintro v post ⟨rfl, p1, u1, hp1, hu1, rfl⟩
     show G _ _ _ [_, _, _] _
     refine Zg ?_
     refine Zv ?_
     refine Zd (l := [0, 1]) rfl ?_
     refine Za rfl rfl rfl rfl ((Xe rfl rfl rfl).int (Zw (by omega))) ?_
     refine Za rfl rfl rfl rfl (Zc rfl rfl) ?_
     refine Zg ?_
     refine Yi ?_ [0, 0] ?_ (ih (i + 1, p1, u1, t ++ encFl x, v || badFl x) ?_ ?_)
     · (refine (And.intro ?_ (And.intro ?_ (And.intro ?_ (And.intro ?_ (And.intro ?_ trivial))))) <;> first | rfl | exact Zl (by omega) | exact Zl (by simp))
     · exact ⟨_, rfl⟩
     · exact ⟨by omega, hp1, hu1, by rw [← Yx encFl hx, ht]; simp only [List.append_assoc], by rw [hv, ← anyt_next hx]; simp only [Bool.or_assoc]⟩
     · (first | omega | (dsimp only; omega))
    refine Yr rfl ?_
    refine Yy (post := [_, _]) Try.func173 rfl Zp [0, 0] rfl ?_
    dsimp only [packed]
    have e : s.l.take i = s.l := List.take_of_length_le (by omega)
    rw [e] at ht hv
    subst ht hv
    exact ⟨rfl, p, u, hp, hu, rfl⟩


def cTn (x : Tn) : List Value := [.int .i64 x.v0, .int .i64 x.v1, .int .i64 x.v2, .slice x.s.p x.s.l.length x.s.cap, .bool x.g]
theorem cTn_len (x : Tn) : (cTn x).length = 5 := rfl
def encTn (x : Tn) : List UInt8 := encIs [x.v0, x.v1, x.v2] ++ (encB x.g ++ encL encFl x.s.l)
def badTn (x : Tn) : Bool := [x.v0, x.v1, x.v2].any badI || badL badFl x.s.l
def OkTn (x : Tn) : Prop := InsOk 4 cFl x.s ∧ ∀ y ∈ x.s.l, OkFl y
def kTn (x : Tn) : List HBk := insK x.s :: x.s.l.flatMap kFl
/-- A class of a need. -/
structure Cl where
  v0 : Int
  g : Bool
  s : Ins Tn
def cCl (x : Cl) : List Value := [.int .i64 x.v0, .bool x.g, .slice x.s.p x.s.l.length x.s.cap]
theorem cCl_len (x : Cl) : (cCl x).length = 3 := rfl
def encCl (x : Cl) : List UInt8 := encIs [x.v0] ++ (encB x.g ++ encL encTn x.s.l)
def badCl (x : Cl) : Bool := [x.v0].any badI || badL badTn x.s.l
def OkCl (x : Cl) : Prop := InsOk 5 cTn x.s ∧ ∀ y ∈ x.s.l, OkTn y
def kCl (x : Cl) : List HBk := insK x.s :: x.s.l.flatMap kTn

set_option maxRecDepth 100000 in
set_option maxHeartbeats 1000000 in
theorem cw_tenant (b : Nat) (p : Value) (u : Sl) (tx : List UInt8) (w : Bool) (hp : UsedOr b p) (hu : Txt u tx) (bx : Nat) (x : Tn) (T : TypeId) (fz : Nat × Nat) (hx : OkTn x) (hl : tx.length + (encTn x).length ≤ 140737488350000) :
    Ct Try.prog 163 [.pointer (some ⟨b, 0, none⟩), .pointer (some ⟨bx, 0, none⟩)] ((some bx, .cells (cTn x).toArray T fz) :: kTn x) [(some b, .cells #[p, u.v (tx).length, .pointer none, .bool w] 80 (0, 0)), (u.ob, .cells u.cs 5 u.fz)] fun v post => v = .tuple #[] ∧ ∃ p1 u1, UsedOr b p1 ∧ Txt u1 (tx ++ encTn x) ∧ post = [(some b, .cells #[p1, u1.v (tx ++ encTn x).length, .pointer none, .bool (w || badTn x)] 80 (0, 0)), (u1.ob, .cells u1.cs 5 u1.fz)] := by
 have hl_ := hl
 unfold encTn at hl_
 simp only [List.length_append] at hl_
 refine Yu Try.func163 rfl rfl (fun w0 => ?_)
 show G _ _ [(0, _), (1, _)] _ _
 refine Zh ?_
 refine Yf (Lq := []) (isq := []) (m := 12) Yo rfl rfl ?_
 refine Zi 0 rfl rfl rfl rfl (by kernel_rfl) (fun _ _ => Zc rfl rfl) ?_
 refine Zi 1 rfl rfl rfl rfl (by kernel_rfl) (fun _ _ => Zc rfl rfl) ?_
 refine Zi 2 rfl rfl rfl rfl (by kernel_rfl) (fun _ _ => Ze rfl rfl) ?_
 refine Zi 3 rfl rfl rfl rfl (by kernel_rfl) (fun _ _ => Zb (fo := 0) rfl Try.underlying206 rfl i_3 rfl rfl rfl) ?_
 refine Zi 4 rfl rfl rfl rfl (by kernel_rfl) (fun _ _ => Zc rfl rfl) ?_
 refine Zi 5 rfl rfl rfl rfl (by kernel_rfl) (fun _ _ => Ze rfl rfl) ?_
 refine Zi 6 rfl rfl rfl rfl (by kernel_rfl) (fun _ _ => Zb (fo := 1) rfl Try.underlying206 rfl i_3 rfl rfl rfl) ?_
 refine Zi 7 rfl rfl rfl rfl (by kernel_rfl) (fun _ _ => Zc rfl rfl) ?_
 refine Zi 8 rfl rfl rfl rfl (by kernel_rfl) (fun _ _ => Ze rfl rfl) ?_
 refine Zi 9 rfl rfl rfl rfl (by kernel_rfl) (fun _ _ => Zb (fo := 2) rfl Try.underlying206 rfl i_3 rfl rfl rfl) ?_
 refine GH_all [10] (by kernel_rfl) (by decide) ?_
 refine (And.intro ?_ trivial)
 ·
  refine Yl rfl rfl rfl rfl (Zn (s := 1) (cs := [_, _, _]) rfl Try.underlying241 i_176 rfl rfl rfl rfl rfl rfl rfl rfl rfl) [] (fun _ => ⟨_, rfl⟩) (fun b14 => ?_)
  refine GH_all [11] (by kernel_rfl) (by decide) ?_
  refine (And.intro ?_ trivial)
  ·
   refine Xy (L2 := [_]) rfl rfl rfl rfl rfl rfl Try.call96 (cw_intsL b _ _ _ _ hp hu _ _ bx (cTn x).toArray T fz [(0, x.v0), (1, x.v1), (2, x.v2)] (by simp) ⟨rfl, rfl, rfl, trivial⟩ (by (try simp only [List.map_cons, List.map_nil, List.length_append]); omega)) [1, 1] rfl (Ys (List.mem_append_right _ (Zf 0 rfl)) (Ys (List.mem_append_left _ (Zf 0 rfl)) Xh)) [] (by rintro v post ⟨rfl, p1, u1, hp1, hu1, rfl⟩; exact ⟨_, rfl⟩) ?_
   rintro v post ⟨rfl, p1, u1, hp1, hu1, rfl⟩
   show GH _ _ _ _ _ _ _ [_, _, _] _
   refine Ya (by kernel_rfl) ?_
   refine Zh ?_
   refine Zd (l := [0, 1, 2, 3, 4]) rfl ?_
   refine Za rfl rfl rfl rfl (Zc rfl rfl) ?_
   refine Za rfl rfl rfl rfl (Zc rfl rfl) ?_
   refine Za rfl rfl rfl rfl (Ze rfl rfl) ?_
   refine Za rfl rfl rfl rfl (Zb (fo := 4) rfl Try.underlying206 rfl i_4 rfl rfl rfl) ?_
   refine Xx (L2 := [_]) rfl rfl rfl rfl rfl rfl Try.call95 (cw_flag b _ _ _ _ hp1 hu1 bx 4 (cTn x).toArray T fz x.g rfl (by (try simp only [List.map_cons, List.map_nil, List.length_append]); omega)) [0, 0] rfl (Ys (List.mem_append_left _ (Zf 0 rfl)) Xh) ?_
   rintro v post ⟨rfl, p1, u1, hp1, hu1, rfl⟩
   show G _ _ _ [_, _, _] _
   refine Zg ?_
   refine Zd (l := [0, 1, 2, 3, 4, 5, 6]) rfl ?_
   refine Za rfl rfl rfl rfl (Zc rfl rfl) ?_
   refine Za rfl rfl rfl rfl (Zc rfl rfl) ?_
   refine Za rfl rfl rfl rfl (Ze rfl rfl) ?_
   refine Za rfl rfl rfl rfl (Zb (fo := 3) rfl Try.underlying206 rfl i_204 rfl rfl rfl) ?_
   refine Za rfl rfl rfl rfl (Zc rfl rfl) ?_
   refine Za rfl rfl rfl rfl (V_func rfl rfl rfl) ?_
   refine Xx (L2 := [_]) rfl rfl rfl rfl rfl rfl Try.call173 (cw_listFl b _ _ _ _ hp1 hu1 bx 3 (cTn x).toArray T fz x.s hx.1 hx.2 rfl (by (try simp only [List.map_cons, List.map_nil, List.length_append]); omega)) [0, 0] rfl (fun z hz => List.mem_append_left _ hz) ?_
   rintro v post ⟨rfl, p1, u1, hp1, hu1, rfl⟩
   show G _ _ _ [_, _, _] _
   refine Zg ?_
   refine G_end (post := [_, _]) Try.func163 rfl Zp [0, 0] rfl ?_
   dsimp only [packed]
   refine ⟨rfl, p1, u1, hp1, ?_, ?_⟩
   · simpa only [encTn, List.map_cons, List.map_nil, List.append_assoc] using hu1
   · simp only [encTn, badTn, List.map_cons, List.map_nil, List.append_assoc, Bool.or_assoc]

set_option maxRecDepth 100000 in
set_option maxHeartbeats 1000000 in
theorem cw_listTn (b : Nat) (p : Value) (u : Sl) (tx : List UInt8) (w : Bool) (hp : UsedOr b p) (hu : Txt u tx) (bx k : Nat) (cs : Array Value) (T : TypeId) (fz : Nat × Nat) (s : Ins Tn) (hs : InsOk 5 cTn s) (hok : ∀ x ∈ s.l, OkTn x) (hk : cs[k]? = some (.slice s.p s.l.length s.cap)) (hl : tx.length + (encL encTn s.l).length ≤ 140737488350000) :
    Ct Try.prog 162 [.pointer (some ⟨b, 0, none⟩), .pointer (some ⟨bx, k, none⟩), .func (.func 163) #[.pointer (some ⟨b, 0, none⟩)] #[]] ((some bx, .cells cs T fz) :: (s.ob, .cells s.cs s.T s.fr) :: s.l.flatMap kTn) [(some b, .cells #[p, u.v (tx).length, .pointer none, .bool w] 80 (0, 0)), (u.ob, .cells u.cs 5 u.fz)] fun v post => v = .tuple #[] ∧ ∃ p1 u1, UsedOr b p1 ∧ Txt u1 (tx ++ encL encTn s.l) ∧ post = [(some b, .cells #[p1, u1.v (tx ++ encL encTn s.l).length, .pointer none, .bool (w || badL badTn s.l)] 80 (0, 0)), (u1.ob, .cells u1.cs 5 u1.fz)] := by
 have hl1 := hs.le
 have hl2 := hs.max
 have hln := hs.n
 have hcl := chainI_len (s.l.length : Int) (by omega) (by omega)
 have hl_ := hl
 unfold encL at hl_
 simp only [List.length_append] at hl_
 refine Yu Try.func162 rfl rfl (fun w0 => ?_)
 show G _ _ [(0, _), (1, _), (2, _)] _ _
 refine Zh ?_
 refine Zh ?_
 refine Zd (l := [0, 1, 2, 3, 4]) rfl ?_
 refine Za rfl rfl rfl rfl (Zc rfl rfl) ?_
 refine Za rfl rfl rfl rfl (Ze rfl rfl) ?_
 refine Za rfl rfl rfl rfl (Zb (fo := 2) rfl Try.underlying80 rfl i_74 rfl rfl rfl) ?_
 refine Za rfl rfl rfl rfl (Zj rfl rfl (List.mem_append_right _ (Zf 0 rfl)) rfl Try.underlying74 rfl) ?_
 refine Za rfl rfl rfl rfl (V_peqlN rfl Try.underlying74 rfl rfl) ?_
 refine Zg ?_
 refine G_then rfl ?_
 refine Zh ?_
 refine Zd (l := [0, 1, 2, 3, 4, 5, 6, 7, 8, 9, 10, 11, 12, 13, 14]) rfl ?_
 refine Za rfl rfl rfl rfl (Zc rfl rfl) ?_
 refine Za rfl rfl rfl rfl (Zc rfl rfl) ?_
 refine Za rfl rfl rfl rfl (Ze rfl rfl) ?_
 refine Za rfl rfl rfl rfl (Zb (fo := 3) rfl Try.underlying80 rfl i_4 rfl rfl rfl) ?_
 refine Za rfl rfl rfl rfl (Zj rfl rfl (List.mem_append_right _ (Zf 0 rfl)) rfl Try.underlying4 rfl) ?_
 refine Za rfl rfl rfl rfl (Zc rfl rfl) ?_
 refine G_split 19 rfl (fun hc1 => ?_) (fun hc1 => ?_)
 ·
  refine Yb rfl rfl rfl rfl ?_
  refine Yb rfl rfl rfl rfl ?_
  refine Yb rfl rfl rfl rfl ?_
  refine Yb rfl rfl rfl rfl ?_
  refine Yb rfl rfl rfl rfl ?_
  refine Za rfl rfl rfl rfl (Yz rfl rfl rfl) ?_
  refine Za rfl rfl rfl rfl (Ze rfl rfl) ?_
  refine Za rfl rfl rfl rfl (Zb (fo := 3) rfl Try.underlying80 rfl i_4 rfl rfl rfl) ?_
  refine Yj (l1 := []) (L' := [_, _]) rfl rfl rfl rfl (Zm rfl rfl rfl (Zf 0 rfl) (by first | exact of_decide_eq_true rfl | omega | (simp [cOp, cWk, cIv, cHr, cLt, cWt, cIt, cFl, cTn, cCl]; done) | (simp [cOp, cWk, cIv, cHr, cLt, cWt, cIt, cFl, cTn, cCl]; omega) | (simp [cOp, cWk, cIv, cHr, cLt, cWt, cIt, cFl, cTn, cCl] at *; omega)) i_4 rfl rfl) rfl ?_
  refine Zg ?_
  refine Zh ?_
  refine Yf (Lq := []) (isq := []) (m := 10) Yo rfl rfl ?_
  refine Zi 0 rfl rfl rfl rfl (by kernel_rfl) (fun _ _ => Zc rfl rfl) ?_
  refine Zi 1 rfl rfl rfl rfl (by kernel_rfl) (fun _ _ => Ze rfl rfl) ?_
  refine Zi 2 rfl rfl rfl rfl (by kernel_rfl) (fun _ _ => Zb (fo := 0) rfl Try.underlying80 rfl i_78 rfl rfl rfl) ?_
  refine Zi 3 rfl rfl rfl rfl (by kernel_rfl) (fun _ _ => Zc rfl rfl) ?_
  refine Zi 4 rfl rfl rfl rfl (by kernel_rfl) (fun _ _ => Ze rfl rfl) ?_
  refine Zi 5 rfl rfl rfl rfl (by kernel_rfl) (fun _ _ => Zj rfl rfl (List.mem_append_left _ (Zf 0 rfl)) (Zt hk) Try.underlying109 rfl) ?_
  refine Zi 6 rfl rfl rfl rfl (by kernel_rfl) (fun _ _ => Yp rfl rfl Try.underlying109 rfl) ?_
  refine Zi 7 rfl rfl rfl rfl (by kernel_rfl) (fun _ _ => (Xt rfl rfl Try.underlying3 Try.underlying23).int (Xm (by omega))) ?_
  refine GH_all [8] (by kernel_rfl) (by decide) ?_
  refine (And.intro ?_ trivial)
  ·
   refine Xy (L2 := [_, _]) rfl rfl rfl rfl rfl rfl Try.call80 (Xv _ (by omega) (by omega)) [] rfl Xh [] (by rintro v post ⟨rfl, rfl⟩; exact ⟨_, rfl⟩) ?_
   rintro v post ⟨rfl, rfl⟩
   show GH _ _ _ _ _ _ _ [_, _] _
   refine GH_all [9] (by kernel_rfl) (by decide) ?_
   refine (And.intro ?_ trivial)
   ·
    refine Xy (L2 := []) rfl rfl rfl rfl rfl rfl Try.call79 (Xl _ _ _ _ _ _ _ hp hu (by omega)) [0, 0] rfl Xh [] (by rintro v post ⟨rfl, u1, hu1, rfl⟩; exact ⟨_, rfl⟩) ?_
    rintro v post ⟨rfl, u1, hu1, rfl⟩
    show GH _ _ _ _ _ _ _ [_, _] _
    refine Ya (by kernel_rfl) ?_
    refine Zh ?_
    refine Zh ?_
    refine Zd (l := [0, 1, 2, 3, 4]) rfl ?_
    refine Za rfl rfl rfl rfl (Zc rfl rfl) ?_
    refine Za rfl rfl rfl rfl (Ze rfl rfl) ?_
    refine Za rfl rfl rfl rfl (Zj rfl rfl (List.mem_append_left _ (Zf 0 rfl)) (Zt hk) Try.underlying109 rfl) ?_
    refine Za rfl rfl rfl rfl (Yp rfl rfl Try.underlying109 rfl) ?_
    refine Za rfl rfl rfl rfl (Zc rfl rfl) ?_
    refine Zg ?_
    refine Zs ?_
    refine Yi ?he4 [0, 0] ?hl4 (Xb (X := Nat × Value × Sl × List UInt8 × Bool) (fun x_ => match x_ with | ⟨i, p, u, t, v⟩ => i ≤ s.l.length ∧ UsedOr b p ∧ Txt u t ∧ t = tx ++ (chainI (s.l.length : Int) ++ (s.l.take i).flatMap encTn) ∧ v = (w || (decide (1000 < (s.l.length : Int)) || (s.l.take i).any badTn))) (fun x_ => match x_ with | ⟨i, p, u, t, v⟩ => s.l.length - i) (fun x_ => match x_ with | ⟨i, p, u, t, v⟩ => [(0, .pointer (some ⟨b, 0, none⟩)), (1, .pointer (some ⟨bx, k, none⟩)), (2, .func (.func 163) #[.pointer (some ⟨b, 0, none⟩)] #[]), (41, .int .i64 (s.l.length : Int)), (42, .int .i64 (i : Int))]) (fun x_ => match x_ with | ⟨i, p, u, t, v⟩ => [(some b, .cells #[p, u.v (t).length, .pointer none, .bool v] 80 (0, 0)), (u.ob, .cells u.cs 5 u.fz)]) ?round4 (0, .pointer (some ⟨b, 0, none⟩), u1, tx ++ chainI (s.l.length : Int), true) ?h04)
    case he4 => exact (And.intro rfl (And.intro rfl (And.intro rfl (And.intro rfl (And.intro rfl trivial)))))
    case hl4 => exact ⟨_, rfl⟩
    case h04 => exact ⟨Nat.zero_le _, .inr rfl, hu1, by simp, by simp [*]⟩
    case round4 =>
     intro x_ hJ ih
     try dsimp only at hJ ih
     obtain ⟨i, p, u, t, v⟩ := x_
     try dsimp only at hJ ih
     obtain ⟨hi, hp, hu, ht, hv⟩ := hJ
     show G _ _ [(0, .pointer (some ⟨b, 0, none⟩)), (1, .pointer (some ⟨bx, k, none⟩)), (2, .func (.func 163) #[.pointer (some ⟨b, 0, none⟩)] #[]), (41, .int .i64 (s.l.length : Int)), (42, .int .i64 (i : Int))] [(some b, .cells #[p, u.v (t).length, .pointer none, .bool v] 80 (0, 0)), (u.ob, .cells u.cs 5 u.fz)] _
     refine Zh ?_
     refine Zd (l := [0]) rfl ?_
     refine Za rfl rfl rfl rfl (Xn rfl rfl rfl) ?_
     refine Zg ?_
     refine Zh ?_
     refine Yk rfl (fun hc2 => ?_) (fun hc2 => ?_)
     ·
      refine Zu ?_
      refine Zh ?_
      refine Zs ?_
      refine Zh ?_
      refine Zd (l := [0, 1]) rfl ?_
      refine Za rfl rfl rfl rfl (Zc rfl rfl) ?_
      refine Za rfl rfl rfl rfl (Zk rfl rfl) ?_
      refine Zg ?_
      refine Zh ?_
      obtain ⟨x, hx⟩ := getI (show i < s.l.length by omega)
      obtain ⟨bi, hb1, hb2, hss⟩ := hs.isS (i := i) (by omega)
      have hxo := hok x (List.mem_of_getElem? hx)
      have hfl := fmap_len encTn s.l (i + 1)
      rw [← Yx encTn hx, List.length_append] at hfl
      have htl := congrArg List.length ht
      simp only [List.length_append] at htl
      refine Zd (l := [0, 1, 2, 3, 4, 5, 6, 7]) rfl ?_
      refine Za rfl rfl rfl rfl (Zc rfl rfl) ?_
      refine Za rfl rfl rfl rfl (Ze rfl rfl) ?_
      refine Za rfl rfl rfl rfl (Zj rfl rfl (List.mem_append_left _ (Zf 0 rfl)) (Zt hk) Try.underlying109 rfl) ?_
      rw [hb1]
      refine Za rfl rfl rfl rfl (Zc rfl rfl) ?_
      refine Za rfl rfl rfl rfl (Zo (s := 5) rfl Try.underlying109 i_206 rfl rfl rfl rfl (by omega)) ?_
      refine Za rfl rfl rfl rfl (Xp (s := 5) (vs := (cTn x).toArray) rfl rfl (by rw [← hb2]; exact Zf 1 rfl) Try.underlying206 rfl i_206 rfl (hss.elem cTn_len hx) (by rfl)) ?_
      refine Yw rfl rfl rfl rfl (Ym rfl i_206 rfl) (fun b7 => ?_)
      refine Yj (l1 := []) (L' := [_, _, _]) rfl rfl rfl rfl (Yv (s := 5) rfl rfl rfl (Zf 0 rfl) (by rfl) i_206 rfl (by rfl) (by simp [Value.oneCell', cOp, cWk, cIv, cHr, cLt, cWt, cIt, cFl, cTn, cCl])) rfl ?_
      refine Zg ?_
      refine Zd (l := [0, 1]) rfl ?_
      refine Za rfl rfl rfl rfl (Zc rfl rfl) ?_
      refine G_callMB (L2 := [_]) rfl rfl rfl rfl rfl rfl Try.call163 rfl (cw_tenant b _ _ _ _ hp hu _ x _ _ hxo (by omega)) [1, 1] rfl (sub_el (A1 := [_, _]) (K := kTn) hx (List.mem_append_right _ (Zf 0 rfl))) ?_
      rintro v post ⟨rfl, p1, u1, hp1, hu1, rfl⟩
      show G _ _ _ [_, _, _] _
      refine Zg ?_
      refine Zv ?_
      refine Zd (l := [0, 1]) rfl ?_
      refine Za rfl rfl rfl rfl ((Xe rfl rfl rfl).int (Zw (by omega))) ?_
      refine Za rfl rfl rfl rfl (Zc rfl rfl) ?_
      refine Zg ?_
      refine Yi ?_ [0, 0] ?_ (ih (i + 1, p1, u1, t ++ encTn x, v || badTn x) ?_ ?_)
      · (refine (And.intro ?_ (And.intro ?_ (And.intro ?_ (And.intro ?_ (And.intro ?_ trivial))))) <;> first | rfl | exact Zl (by omega) | exact Zl (by simp))
      · exact ⟨_, rfl⟩
      · exact ⟨by omega, hp1, hu1, by rw [← Yx encTn hx, ht]; simp only [List.append_assoc], by rw [hv, ← anyt_next hx]; simp only [Bool.or_assoc]⟩
      · (first | omega | (dsimp only; omega))
     refine Yr rfl ?_
     refine Yy (post := [_, _]) Try.func162 rfl Zp [0, 0] rfl ?_
     dsimp only [packed]
     have e : s.l.take i = s.l := List.take_of_length_le (by omega)
     rw [e] at ht hv
     subst ht hv
     exact ⟨rfl, p, u, hp, hu, rfl⟩
 refine Za rfl rfl rfl rfl (Zc rfl rfl) ?_
 refine Za rfl rfl rfl rfl (Ze rfl rfl) ?_
 refine Za rfl rfl rfl rfl (Zj rfl rfl (List.mem_append_left _ (Zf 0 rfl)) (Zt hk) Try.underlying109 rfl) ?_
 refine Za rfl rfl rfl rfl (Yp rfl rfl Try.underlying109 rfl) ?_
 refine Za rfl rfl rfl rfl (V_gtr rfl rfl rfl) ?_
 refine Za rfl rfl rfl rfl (Xg rfl rfl rfl) ?_
 refine Za rfl rfl rfl rfl (Ze rfl rfl) ?_
 refine Za rfl rfl rfl rfl (Zb (fo := 3) rfl Try.underlying80 rfl i_4 rfl rfl rfl) ?_
 refine Yj (l1 := []) (L' := [_, _]) rfl rfl rfl rfl (Zm rfl rfl rfl (Zf 0 rfl) (by first | exact of_decide_eq_true rfl | omega | (simp [cOp, cWk, cIv, cHr, cLt, cWt, cIt, cFl, cTn, cCl]; done) | (simp [cOp, cWk, cIv, cHr, cLt, cWt, cIt, cFl, cTn, cCl]; omega) | (simp [cOp, cWk, cIv, cHr, cLt, cWt, cIt, cFl, cTn, cCl] at *; omega)) i_4 rfl rfl) rfl ?_
 refine Zg ?_
 refine Zh ?_
 refine Yf (Lq := []) (isq := []) (m := 10) Yo rfl rfl ?_
 refine Zi 0 rfl rfl rfl rfl (by kernel_rfl) (fun _ _ => Zc rfl rfl) ?_
 refine Zi 1 rfl rfl rfl rfl (by kernel_rfl) (fun _ _ => Ze rfl rfl) ?_
 refine Zi 2 rfl rfl rfl rfl (by kernel_rfl) (fun _ _ => Zb (fo := 0) rfl Try.underlying80 rfl i_78 rfl rfl rfl) ?_
 refine Zi 3 rfl rfl rfl rfl (by kernel_rfl) (fun _ _ => Zc rfl rfl) ?_
 refine Zi 4 rfl rfl rfl rfl (by kernel_rfl) (fun _ _ => Ze rfl rfl) ?_
 refine Zi 5 rfl rfl rfl rfl (by kernel_rfl) (fun _ _ => Zj rfl rfl (List.mem_append_left _ (Zf 0 rfl)) (Zt hk) Try.underlying109 rfl) ?_
 refine Zi 6 rfl rfl rfl rfl (by kernel_rfl) (fun _ _ => Yp rfl rfl Try.underlying109 rfl) ?_
 refine Zi 7 rfl rfl rfl rfl (by kernel_rfl) (fun _ _ => (Xt rfl rfl Try.underlying3 Try.underlying23).int (Xm (by omega))) ?_
 refine GH_all [8] (by kernel_rfl) (by decide) ?_
 refine (And.intro ?_ trivial)
 ·
  refine Xy (L2 := [_, _]) rfl rfl rfl rfl rfl rfl Try.call80 (Xv _ (by omega) (by omega)) [] rfl Xh [] (by rintro v post ⟨rfl, rfl⟩; exact ⟨_, rfl⟩) ?_
  rintro v post ⟨rfl, rfl⟩
  show GH _ _ _ _ _ _ _ [_, _] _
  refine GH_all [9] (by kernel_rfl) (by decide) ?_
  refine (And.intro ?_ trivial)
  ·
   refine Xy (L2 := []) rfl rfl rfl rfl rfl rfl Try.call79 (Xl _ _ _ _ _ _ _ hp hu (by omega)) [0, 0] rfl Xh [] (by rintro v post ⟨rfl, u1, hu1, rfl⟩; exact ⟨_, rfl⟩) ?_
   rintro v post ⟨rfl, u1, hu1, rfl⟩
   show GH _ _ _ _ _ _ _ [_, _] _
   refine Ya (by kernel_rfl) ?_
   refine Zh ?_
   refine Zh ?_
   refine Zd (l := [0, 1, 2, 3, 4]) rfl ?_
   refine Za rfl rfl rfl rfl (Zc rfl rfl) ?_
   refine Za rfl rfl rfl rfl (Ze rfl rfl) ?_
   refine Za rfl rfl rfl rfl (Zj rfl rfl (List.mem_append_left _ (Zf 0 rfl)) (Zt hk) Try.underlying109 rfl) ?_
   refine Za rfl rfl rfl rfl (Yp rfl rfl Try.underlying109 rfl) ?_
   refine Za rfl rfl rfl rfl (Zc rfl rfl) ?_
   refine Zg ?_
   refine Zs ?_
   refine Yi ?he4 [0, 0] ?hl4 (Xb (X := Nat × Value × Sl × List UInt8 × Bool) (fun x_ => match x_ with | ⟨i, p, u, t, v⟩ => i ≤ s.l.length ∧ UsedOr b p ∧ Txt u t ∧ t = tx ++ (chainI (s.l.length : Int) ++ (s.l.take i).flatMap encTn) ∧ v = (w || (decide (1000 < (s.l.length : Int)) || (s.l.take i).any badTn))) (fun x_ => match x_ with | ⟨i, p, u, t, v⟩ => s.l.length - i) (fun x_ => match x_ with | ⟨i, p, u, t, v⟩ => [(0, .pointer (some ⟨b, 0, none⟩)), (1, .pointer (some ⟨bx, k, none⟩)), (2, .func (.func 163) #[.pointer (some ⟨b, 0, none⟩)] #[]), (41, .int .i64 (s.l.length : Int)), (42, .int .i64 (i : Int))]) (fun x_ => match x_ with | ⟨i, p, u, t, v⟩ => [(some b, .cells #[p, u.v (t).length, .pointer none, .bool v] 80 (0, 0)), (u.ob, .cells u.cs 5 u.fz)]) ?round4 (0, .pointer (some ⟨b, 0, none⟩), u1, tx ++ chainI (s.l.length : Int), (decide (1000 < (s.l.length : Int)))) ?h04)
   case he4 => exact (And.intro rfl (And.intro rfl (And.intro rfl (And.intro rfl (And.intro rfl trivial)))))
   case hl4 => exact ⟨_, rfl⟩
   case h04 => exact ⟨Nat.zero_le _, .inr rfl, hu1, by simp, by simp [*]⟩
   case round4 =>
    intro x_ hJ ih
    try dsimp only at hJ ih
    obtain ⟨i, p, u, t, v⟩ := x_
    try dsimp only at hJ ih
    obtain ⟨hi, hp, hu, ht, hv⟩ := hJ
    show G _ _ [(0, .pointer (some ⟨b, 0, none⟩)), (1, .pointer (some ⟨bx, k, none⟩)), (2, .func (.func 163) #[.pointer (some ⟨b, 0, none⟩)] #[]), (41, .int .i64 (s.l.length : Int)), (42, .int .i64 (i : Int))] [(some b, .cells #[p, u.v (t).length, .pointer none, .bool v] 80 (0, 0)), (u.ob, .cells u.cs 5 u.fz)] _
    refine Zh ?_
    refine Zd (l := [0]) rfl ?_
    refine Za rfl rfl rfl rfl (Xn rfl rfl rfl) ?_
    refine Zg ?_
    refine Zh ?_
    refine Yk rfl (fun hc2 => ?_) (fun hc2 => ?_)
    ·
     refine Zu ?_
     refine Zh ?_
     refine Zs ?_
     refine Zh ?_
     refine Zd (l := [0, 1]) rfl ?_
     refine Za rfl rfl rfl rfl (Zc rfl rfl) ?_
     refine Za rfl rfl rfl rfl (Zk rfl rfl) ?_
     refine Zg ?_
     refine Zh ?_
     obtain ⟨x, hx⟩ := getI (show i < s.l.length by omega)
     obtain ⟨bi, hb1, hb2, hss⟩ := hs.isS (i := i) (by omega)
     have hxo := hok x (List.mem_of_getElem? hx)
     have hfl := fmap_len encTn s.l (i + 1)
     rw [← Yx encTn hx, List.length_append] at hfl
     have htl := congrArg List.length ht
     simp only [List.length_append] at htl
     refine Zd (l := [0, 1, 2, 3, 4, 5, 6, 7]) rfl ?_
     refine Za rfl rfl rfl rfl (Zc rfl rfl) ?_
     refine Za rfl rfl rfl rfl (Ze rfl rfl) ?_
     refine Za rfl rfl rfl rfl (Zj rfl rfl (List.mem_append_left _ (Zf 0 rfl)) (Zt hk) Try.underlying109 rfl) ?_
     rw [hb1]
     refine Za rfl rfl rfl rfl (Zc rfl rfl) ?_
     refine Za rfl rfl rfl rfl (Zo (s := 5) rfl Try.underlying109 i_206 rfl rfl rfl rfl (by omega)) ?_
     refine Za rfl rfl rfl rfl (Xp (s := 5) (vs := (cTn x).toArray) rfl rfl (by rw [← hb2]; exact Zf 1 rfl) Try.underlying206 rfl i_206 rfl (hss.elem cTn_len hx) (by rfl)) ?_
     refine Yw rfl rfl rfl rfl (Ym rfl i_206 rfl) (fun b7 => ?_)
     refine Yj (l1 := []) (L' := [_, _, _]) rfl rfl rfl rfl (Yv (s := 5) rfl rfl rfl (Zf 0 rfl) (by rfl) i_206 rfl (by rfl) (by simp [Value.oneCell', cOp, cWk, cIv, cHr, cLt, cWt, cIt, cFl, cTn, cCl])) rfl ?_
     refine Zg ?_
     refine Zd (l := [0, 1]) rfl ?_
     refine Za rfl rfl rfl rfl (Zc rfl rfl) ?_
     refine G_callMB (L2 := [_]) rfl rfl rfl rfl rfl rfl Try.call163 rfl (cw_tenant b _ _ _ _ hp hu _ x _ _ hxo (by omega)) [1, 1] rfl (sub_el (A1 := [_, _]) (K := kTn) hx (List.mem_append_right _ (Zf 0 rfl))) ?_
     rintro v post ⟨rfl, p1, u1, hp1, hu1, rfl⟩
     show G _ _ _ [_, _, _] _
     refine Zg ?_
     refine Zv ?_
     refine Zd (l := [0, 1]) rfl ?_
     refine Za rfl rfl rfl rfl ((Xe rfl rfl rfl).int (Zw (by omega))) ?_
     refine Za rfl rfl rfl rfl (Zc rfl rfl) ?_
     refine Zg ?_
     refine Yi ?_ [0, 0] ?_ (ih (i + 1, p1, u1, t ++ encTn x, v || badTn x) ?_ ?_)
     · (refine (And.intro ?_ (And.intro ?_ (And.intro ?_ (And.intro ?_ (And.intro ?_ trivial))))) <;> first | rfl | exact Zl (by omega) | exact Zl (by simp))
     · exact ⟨_, rfl⟩
     · exact ⟨by omega, hp1, hu1, by rw [← Yx encTn hx, ht]; simp only [List.append_assoc], by rw [hv, ← anyt_next hx]; simp only [Bool.or_assoc]⟩
     · (first | omega | (dsimp only; omega))
    refine Yr rfl ?_
    refine Yy (post := [_, _]) Try.func162 rfl Zp [0, 0] rfl ?_
    dsimp only [packed]
    have e : s.l.take i = s.l := List.take_of_length_le (by omega)
    rw [e] at ht hv
    subst ht hv
    exact ⟨rfl, p, u, hp, hu, rfl⟩

set_option maxRecDepth 100000 in
set_option maxHeartbeats 1000000 in
theorem cw_class (b : Nat) (p : Value) (u : Sl) (tx : List UInt8) (w : Bool) (hp : UsedOr b p) (hu : Txt u tx) (bx : Nat) (x : Cl) (T : TypeId) (fz : Nat × Nat) (hx : OkCl x) (hl : tx.length + (encCl x).length ≤ 140737488350000) :
    Ct Try.prog 144 [.pointer (some ⟨b, 0, none⟩), .pointer (some ⟨bx, 0, none⟩)] ((some bx, .cells (cCl x).toArray T fz) :: kCl x) [(some b, .cells #[p, u.v (tx).length, .pointer none, .bool w] 80 (0, 0)), (u.ob, .cells u.cs 5 u.fz)] fun v post => v = .tuple #[] ∧ ∃ p1 u1, UsedOr b p1 ∧ Txt u1 (tx ++ encCl x) ∧ post = [(some b, .cells #[p1, u1.v (tx ++ encCl x).length, .pointer none, .bool (w || badCl x)] 80 (0, 0)), (u1.ob, .cells u1.cs 5 u1.fz)] := by
 have hl_ := hl
 unfold encCl at hl_
 simp only [List.length_append] at hl_
 refine Yu Try.func144 rfl rfl (fun w0 => ?_)
 show G _ _ [(0, _), (1, _)] _ _
 refine Zh ?_
 refine Zd (l := [0, 1, 2, 3, 4, 5]) rfl ?_
 refine Za rfl rfl rfl rfl (Zc rfl rfl) ?_
 refine Za rfl rfl rfl rfl (Zc rfl rfl) ?_
 refine Za rfl rfl rfl rfl (Ze rfl rfl) ?_
 refine Za rfl rfl rfl rfl (Zb (fo := 0) rfl Try.underlying250 rfl i_3 rfl rfl rfl) ?_
 refine Yw rfl rfl rfl rfl (Zn (s := 1) (cs := [_]) rfl Try.underlying241 i_176 rfl rfl rfl rfl rfl rfl rfl rfl rfl) (fun b8 => ?_)
 refine Xx (L2 := [_]) rfl rfl rfl rfl rfl rfl Try.call96 (cw_intsL b _ _ _ _ hp hu _ _ bx (cCl x).toArray T fz [(0, x.v0)] (by simp) ⟨rfl, trivial⟩ (by (try simp only [List.map_cons, List.map_nil, List.length_append]); omega)) [1, 1] rfl (Ys (List.mem_append_right _ (Zf 0 rfl)) (Ys (List.mem_append_left _ (Zf 0 rfl)) Xh)) ?_
 rintro v post ⟨rfl, p1, u1, hp1, hu1, rfl⟩
 show G _ _ _ [_, _, _] _
 refine Zg ?_
 refine Zh ?_
 refine Zd (l := [0, 1, 2, 3, 4]) rfl ?_
 refine Za rfl rfl rfl rfl (Zc rfl rfl) ?_
 refine Za rfl rfl rfl rfl (Zc rfl rfl) ?_
 refine Za rfl rfl rfl rfl (Ze rfl rfl) ?_
 refine Za rfl rfl rfl rfl (Zb (fo := 1) rfl Try.underlying250 rfl i_4 rfl rfl rfl) ?_
 refine Xx (L2 := [_]) rfl rfl rfl rfl rfl rfl Try.call95 (cw_flag b _ _ _ _ hp1 hu1 bx 1 (cCl x).toArray T fz x.g rfl (by (try simp only [List.map_cons, List.map_nil, List.length_append]); omega)) [0, 0] rfl (Ys (List.mem_append_left _ (Zf 0 rfl)) Xh) ?_
 rintro v post ⟨rfl, p1, u1, hp1, hu1, rfl⟩
 show G _ _ _ [_, _, _] _
 refine Zg ?_
 refine Zd (l := [0, 1, 2, 3, 4, 5, 6]) rfl ?_
 refine Za rfl rfl rfl rfl (Zc rfl rfl) ?_
 refine Za rfl rfl rfl rfl (Zc rfl rfl) ?_
 refine Za rfl rfl rfl rfl (Ze rfl rfl) ?_
 refine Za rfl rfl rfl rfl (Zb (fo := 2) rfl Try.underlying250 rfl i_109 rfl rfl rfl) ?_
 refine Za rfl rfl rfl rfl (Zc rfl rfl) ?_
 refine Za rfl rfl rfl rfl (V_func rfl rfl rfl) ?_
 refine Xx (L2 := [_]) rfl rfl rfl rfl rfl rfl Try.call162 (cw_listTn b _ _ _ _ hp1 hu1 bx 2 (cCl x).toArray T fz x.s hx.1 hx.2 rfl (by (try simp only [List.map_cons, List.map_nil, List.length_append]); omega)) [0, 0] rfl (fun z hz => List.mem_append_left _ hz) ?_
 rintro v post ⟨rfl, p1, u1, hp1, hu1, rfl⟩
 show G _ _ _ [_, _, _] _
 refine Zg ?_
 refine G_end (post := [_, _]) Try.func144 rfl Zp [0, 0] rfl ?_
 dsimp only [packed]
 refine ⟨rfl, p1, u1, hp1, ?_, ?_⟩
 · simpa only [encCl, List.map_cons, List.map_nil, List.append_assoc] using hu1
 · simp only [encCl, badCl, List.map_cons, List.map_nil, List.append_assoc, Bool.or_assoc]

set_option maxRecDepth 100000 in
set_option maxHeartbeats 1000000 in
theorem cw_listCl (b : Nat) (p : Value) (u : Sl) (tx : List UInt8) (w : Bool) (hp : UsedOr b p) (hu : Txt u tx) (bx k : Nat) (cs : Array Value) (T : TypeId) (fz : Nat × Nat) (s : Ins Cl) (hs : InsOk 3 cCl s) (hok : ∀ x ∈ s.l, OkCl x) (hk : cs[k]? = some (.slice s.p s.l.length s.cap)) (hl : tx.length + (encL encCl s.l).length ≤ 140737488350000) :
    Ct Try.prog 143 [.pointer (some ⟨b, 0, none⟩), .pointer (some ⟨bx, k, none⟩), .func (.func 144) #[.pointer (some ⟨b, 0, none⟩)] #[]] ((some bx, .cells cs T fz) :: (s.ob, .cells s.cs s.T s.fr) :: s.l.flatMap kCl) [(some b, .cells #[p, u.v (tx).length, .pointer none, .bool w] 80 (0, 0)), (u.ob, .cells u.cs 5 u.fz)] fun v post => v = .tuple #[] ∧ ∃ p1 u1, UsedOr b p1 ∧ Txt u1 (tx ++ encL encCl s.l) ∧ post = [(some b, .cells #[p1, u1.v (tx ++ encL encCl s.l).length, .pointer none, .bool (w || badL badCl s.l)] 80 (0, 0)), (u1.ob, .cells u1.cs 5 u1.fz)] := by
 have hl1 := hs.le
 have hl2 := hs.max
 have hln := hs.n
 have hcl := chainI_len (s.l.length : Int) (by omega) (by omega)
 have hl_ := hl
 unfold encL at hl_
 simp only [List.length_append] at hl_
 refine Yu Try.func143 rfl rfl (fun w0 => ?_)
 show G _ _ [(0, _), (1, _), (2, _)] _ _
 refine Zh ?_
 refine Zh ?_
 refine Zd (l := [0, 1, 2, 3, 4]) rfl ?_
 refine Za rfl rfl rfl rfl (Zc rfl rfl) ?_
 refine Za rfl rfl rfl rfl (Ze rfl rfl) ?_
 refine Za rfl rfl rfl rfl (Zb (fo := 2) rfl Try.underlying80 rfl i_74 rfl rfl rfl) ?_
 refine Za rfl rfl rfl rfl (Zj rfl rfl (List.mem_append_right _ (Zf 0 rfl)) rfl Try.underlying74 rfl) ?_
 refine Za rfl rfl rfl rfl (V_peqlN rfl Try.underlying74 rfl rfl) ?_
 refine Zg ?_
 refine G_then rfl ?_
 refine Zh ?_
 refine Zd (l := [0, 1, 2, 3, 4, 5, 6, 7, 8, 9, 10, 11, 12, 13, 14]) rfl ?_
 refine Za rfl rfl rfl rfl (Zc rfl rfl) ?_
 refine Za rfl rfl rfl rfl (Zc rfl rfl) ?_
 refine Za rfl rfl rfl rfl (Ze rfl rfl) ?_
 refine Za rfl rfl rfl rfl (Zb (fo := 3) rfl Try.underlying80 rfl i_4 rfl rfl rfl) ?_
 refine Za rfl rfl rfl rfl (Zj rfl rfl (List.mem_append_right _ (Zf 0 rfl)) rfl Try.underlying4 rfl) ?_
 refine Za rfl rfl rfl rfl (Zc rfl rfl) ?_
 refine G_split 19 rfl (fun hc1 => ?_) (fun hc1 => ?_)
 ·
  refine Yb rfl rfl rfl rfl ?_
  refine Yb rfl rfl rfl rfl ?_
  refine Yb rfl rfl rfl rfl ?_
  refine Yb rfl rfl rfl rfl ?_
  refine Yb rfl rfl rfl rfl ?_
  refine Za rfl rfl rfl rfl (Yz rfl rfl rfl) ?_
  refine Za rfl rfl rfl rfl (Ze rfl rfl) ?_
  refine Za rfl rfl rfl rfl (Zb (fo := 3) rfl Try.underlying80 rfl i_4 rfl rfl rfl) ?_
  refine Yj (l1 := []) (L' := [_, _]) rfl rfl rfl rfl (Zm rfl rfl rfl (Zf 0 rfl) (by first | exact of_decide_eq_true rfl | omega | (simp [cOp, cWk, cIv, cHr, cLt, cWt, cIt, cFl, cTn, cCl]; done) | (simp [cOp, cWk, cIv, cHr, cLt, cWt, cIt, cFl, cTn, cCl]; omega) | (simp [cOp, cWk, cIv, cHr, cLt, cWt, cIt, cFl, cTn, cCl] at *; omega)) i_4 rfl rfl) rfl ?_
  refine Zg ?_
  refine Zh ?_
  refine Yf (Lq := []) (isq := []) (m := 10) Yo rfl rfl ?_
  refine Zi 0 rfl rfl rfl rfl (by kernel_rfl) (fun _ _ => Zc rfl rfl) ?_
  refine Zi 1 rfl rfl rfl rfl (by kernel_rfl) (fun _ _ => Ze rfl rfl) ?_
  refine Zi 2 rfl rfl rfl rfl (by kernel_rfl) (fun _ _ => Zb (fo := 0) rfl Try.underlying80 rfl i_78 rfl rfl rfl) ?_
  refine Zi 3 rfl rfl rfl rfl (by kernel_rfl) (fun _ _ => Zc rfl rfl) ?_
  refine Zi 4 rfl rfl rfl rfl (by kernel_rfl) (fun _ _ => Ze rfl rfl) ?_
  refine Zi 5 rfl rfl rfl rfl (by kernel_rfl) (fun _ _ => Zj rfl rfl (List.mem_append_left _ (Zf 0 rfl)) (Zt hk) Try.underlying248 rfl) ?_
  refine Zi 6 rfl rfl rfl rfl (by kernel_rfl) (fun _ _ => Yp rfl rfl Try.underlying248 rfl) ?_
  refine Zi 7 rfl rfl rfl rfl (by kernel_rfl) (fun _ _ => (Xt rfl rfl Try.underlying3 Try.underlying23).int (Xm (by omega))) ?_
  refine GH_all [8] (by kernel_rfl) (by decide) ?_
  refine (And.intro ?_ trivial)
  ·
   refine Xy (L2 := [_, _]) rfl rfl rfl rfl rfl rfl Try.call80 (Xv _ (by omega) (by omega)) [] rfl Xh [] (by rintro v post ⟨rfl, rfl⟩; exact ⟨_, rfl⟩) ?_
   rintro v post ⟨rfl, rfl⟩
   show GH _ _ _ _ _ _ _ [_, _] _
   refine GH_all [9] (by kernel_rfl) (by decide) ?_
   refine (And.intro ?_ trivial)
   ·
    refine Xy (L2 := []) rfl rfl rfl rfl rfl rfl Try.call79 (Xl _ _ _ _ _ _ _ hp hu (by omega)) [0, 0] rfl Xh [] (by rintro v post ⟨rfl, u1, hu1, rfl⟩; exact ⟨_, rfl⟩) ?_
    rintro v post ⟨rfl, u1, hu1, rfl⟩
    show GH _ _ _ _ _ _ _ [_, _] _
    refine Ya (by kernel_rfl) ?_
    refine Zh ?_
    refine Zh ?_
    refine Zd (l := [0, 1, 2, 3, 4]) rfl ?_
    refine Za rfl rfl rfl rfl (Zc rfl rfl) ?_
    refine Za rfl rfl rfl rfl (Ze rfl rfl) ?_
    refine Za rfl rfl rfl rfl (Zj rfl rfl (List.mem_append_left _ (Zf 0 rfl)) (Zt hk) Try.underlying248 rfl) ?_
    refine Za rfl rfl rfl rfl (Yp rfl rfl Try.underlying248 rfl) ?_
    refine Za rfl rfl rfl rfl (Zc rfl rfl) ?_
    refine Zg ?_
    refine Zs ?_
    refine Yi ?he4 [0, 0] ?hl4 (Xb (X := Nat × Value × Sl × List UInt8 × Bool) (fun x_ => match x_ with | ⟨i, p, u, t, v⟩ => i ≤ s.l.length ∧ UsedOr b p ∧ Txt u t ∧ t = tx ++ (chainI (s.l.length : Int) ++ (s.l.take i).flatMap encCl) ∧ v = (w || (decide (1000 < (s.l.length : Int)) || (s.l.take i).any badCl))) (fun x_ => match x_ with | ⟨i, p, u, t, v⟩ => s.l.length - i) (fun x_ => match x_ with | ⟨i, p, u, t, v⟩ => [(0, .pointer (some ⟨b, 0, none⟩)), (1, .pointer (some ⟨bx, k, none⟩)), (2, .func (.func 144) #[.pointer (some ⟨b, 0, none⟩)] #[]), (41, .int .i64 (s.l.length : Int)), (42, .int .i64 (i : Int))]) (fun x_ => match x_ with | ⟨i, p, u, t, v⟩ => [(some b, .cells #[p, u.v (t).length, .pointer none, .bool v] 80 (0, 0)), (u.ob, .cells u.cs 5 u.fz)]) ?round4 (0, .pointer (some ⟨b, 0, none⟩), u1, tx ++ chainI (s.l.length : Int), true) ?h04)
    case he4 => exact (And.intro rfl (And.intro rfl (And.intro rfl (And.intro rfl (And.intro rfl trivial)))))
    case hl4 => exact ⟨_, rfl⟩
    case h04 => exact ⟨Nat.zero_le _, .inr rfl, hu1, by simp, by simp [*]⟩
    case round4 =>
     intro x_ hJ ih
     try dsimp only at hJ ih
     obtain ⟨i, p, u, t, v⟩ := x_
     try dsimp only at hJ ih
     obtain ⟨hi, hp, hu, ht, hv⟩ := hJ
     show G _ _ [(0, .pointer (some ⟨b, 0, none⟩)), (1, .pointer (some ⟨bx, k, none⟩)), (2, .func (.func 144) #[.pointer (some ⟨b, 0, none⟩)] #[]), (41, .int .i64 (s.l.length : Int)), (42, .int .i64 (i : Int))] [(some b, .cells #[p, u.v (t).length, .pointer none, .bool v] 80 (0, 0)), (u.ob, .cells u.cs 5 u.fz)] _
     refine Zh ?_
     refine Zd (l := [0]) rfl ?_
     refine Za rfl rfl rfl rfl (Xn rfl rfl rfl) ?_
     refine Zg ?_
     refine Zh ?_
     refine Yk rfl (fun hc2 => ?_) (fun hc2 => ?_)
     ·
      refine Zu ?_
      refine Zh ?_
      refine Zs ?_
      refine Zh ?_
      refine Zd (l := [0, 1]) rfl ?_
      refine Za rfl rfl rfl rfl (Zc rfl rfl) ?_
      refine Za rfl rfl rfl rfl (Zk rfl rfl) ?_
      refine Zg ?_
      refine Zh ?_
      obtain ⟨x, hx⟩ := getI (show i < s.l.length by omega)
      obtain ⟨bi, hb1, hb2, hss⟩ := hs.isS (i := i) (by omega)
      have hxo := hok x (List.mem_of_getElem? hx)
      have hfl := fmap_len encCl s.l (i + 1)
      rw [← Yx encCl hx, List.length_append] at hfl
      have htl := congrArg List.length ht
      simp only [List.length_append] at htl
      refine Zd (l := [0, 1, 2, 3, 4, 5, 6, 7]) rfl ?_
      refine Za rfl rfl rfl rfl (Zc rfl rfl) ?_
      refine Za rfl rfl rfl rfl (Ze rfl rfl) ?_
      refine Za rfl rfl rfl rfl (Zj rfl rfl (List.mem_append_left _ (Zf 0 rfl)) (Zt hk) Try.underlying248 rfl) ?_
      rw [hb1]
      refine Za rfl rfl rfl rfl (Zc rfl rfl) ?_
      refine Za rfl rfl rfl rfl (Zo (s := 3) rfl Try.underlying248 i_250 rfl rfl rfl rfl (by omega)) ?_
      refine Za rfl rfl rfl rfl (Xp (s := 3) (vs := (cCl x).toArray) rfl rfl (by rw [← hb2]; exact Zf 1 rfl) Try.underlying250 rfl i_250 rfl (hss.elem cCl_len hx) (by rfl)) ?_
      refine Yw rfl rfl rfl rfl (Ym rfl i_250 rfl) (fun b7 => ?_)
      refine Yj (l1 := []) (L' := [_, _, _]) rfl rfl rfl rfl (Yv (s := 3) rfl rfl rfl (Zf 0 rfl) (by rfl) i_250 rfl (by rfl) (by simp [Value.oneCell', cOp, cWk, cIv, cHr, cLt, cWt, cIt, cFl, cTn, cCl])) rfl ?_
      refine Zg ?_
      refine Zd (l := [0, 1]) rfl ?_
      refine Za rfl rfl rfl rfl (Zc rfl rfl) ?_
      refine G_callMB (L2 := [_]) rfl rfl rfl rfl rfl rfl Try.call144 rfl (cw_class b _ _ _ _ hp hu _ x _ _ hxo (by omega)) [1, 1] rfl (sub_el (A1 := [_, _]) (K := kCl) hx (List.mem_append_right _ (Zf 0 rfl))) ?_
      rintro v post ⟨rfl, p1, u1, hp1, hu1, rfl⟩
      show G _ _ _ [_, _, _] _
      refine Zg ?_
      refine Zv ?_
      refine Zd (l := [0, 1]) rfl ?_
      refine Za rfl rfl rfl rfl ((Xe rfl rfl rfl).int (Zw (by omega))) ?_
      refine Za rfl rfl rfl rfl (Zc rfl rfl) ?_
      refine Zg ?_
      refine Yi ?_ [0, 0] ?_ (ih (i + 1, p1, u1, t ++ encCl x, v || badCl x) ?_ ?_)
      · (refine (And.intro ?_ (And.intro ?_ (And.intro ?_ (And.intro ?_ (And.intro ?_ trivial))))) <;> first | rfl | exact Zl (by omega) | exact Zl (by simp))
      · exact ⟨_, rfl⟩
      · exact ⟨by omega, hp1, hu1, by rw [← Yx encCl hx, ht]; simp only [List.append_assoc], by rw [hv, ← anyt_next hx]; simp only [Bool.or_assoc]⟩
      · (first | omega | (dsimp only; omega))
     refine Yr rfl ?_
     refine Yy (post := [_, _]) Try.func143 rfl Zp [0, 0] rfl ?_
     dsimp only [packed]
     have e : s.l.take i = s.l := List.take_of_length_le (by omega)
     rw [e] at ht hv
     subst ht hv
     exact ⟨rfl, p, u, hp, hu, rfl⟩
 refine Za rfl rfl rfl rfl (Zc rfl rfl) ?_
 refine Za rfl rfl rfl rfl (Ze rfl rfl) ?_
 refine Za rfl rfl rfl rfl (Zj rfl rfl (List.mem_append_left _ (Zf 0 rfl)) (Zt hk) Try.underlying248 rfl) ?_
 refine Za rfl rfl rfl rfl (Yp rfl rfl Try.underlying248 rfl) ?_
 refine Za rfl rfl rfl rfl (V_gtr rfl rfl rfl) ?_
 refine Za rfl rfl rfl rfl (Xg rfl rfl rfl) ?_
 refine Za rfl rfl rfl rfl (Ze rfl rfl) ?_
 refine Za rfl rfl rfl rfl (Zb (fo := 3) rfl Try.underlying80 rfl i_4 rfl rfl rfl) ?_
 refine Yj (l1 := []) (L' := [_, _]) rfl rfl rfl rfl (Zm rfl rfl rfl (Zf 0 rfl) (by first | exact of_decide_eq_true rfl | omega | (simp [cOp, cWk, cIv, cHr, cLt, cWt, cIt, cFl, cTn, cCl]; done) | (simp [cOp, cWk, cIv, cHr, cLt, cWt, cIt, cFl, cTn, cCl]; omega) | (simp [cOp, cWk, cIv, cHr, cLt, cWt, cIt, cFl, cTn, cCl] at *; omega)) i_4 rfl rfl) rfl ?_
 refine Zg ?_
 refine Zh ?_
 refine Yf (Lq := []) (isq := []) (m := 10) Yo rfl rfl ?_
 refine Zi 0 rfl rfl rfl rfl (by kernel_rfl) (fun _ _ => Zc rfl rfl) ?_
 refine Zi 1 rfl rfl rfl rfl (by kernel_rfl) (fun _ _ => Ze rfl rfl) ?_
 refine Zi 2 rfl rfl rfl rfl (by kernel_rfl) (fun _ _ => Zb (fo := 0) rfl Try.underlying80 rfl i_78 rfl rfl rfl) ?_
 refine Zi 3 rfl rfl rfl rfl (by kernel_rfl) (fun _ _ => Zc rfl rfl) ?_
 refine Zi 4 rfl rfl rfl rfl (by kernel_rfl) (fun _ _ => Ze rfl rfl) ?_
 refine Zi 5 rfl rfl rfl rfl (by kernel_rfl) (fun _ _ => Zj rfl rfl (List.mem_append_left _ (Zf 0 rfl)) (Zt hk) Try.underlying248 rfl) ?_
 refine Zi 6 rfl rfl rfl rfl (by kernel_rfl) (fun _ _ => Yp rfl rfl Try.underlying248 rfl) ?_
 refine Zi 7 rfl rfl rfl rfl (by kernel_rfl) (fun _ _ => (Xt rfl rfl Try.underlying3 Try.underlying23).int (Xm (by omega))) ?_
 refine GH_all [8] (by kernel_rfl) (by decide) ?_
 refine (And.intro ?_ trivial)
 ·
  refine Xy (L2 := [_, _]) rfl rfl rfl rfl rfl rfl Try.call80 (Xv _ (by omega) (by omega)) [] rfl Xh [] (by rintro v post ⟨rfl, rfl⟩; exact ⟨_, rfl⟩) ?_
  rintro v post ⟨rfl, rfl⟩
  show GH _ _ _ _ _ _ _ [_, _] _
  refine GH_all [9] (by kernel_rfl) (by decide) ?_
  refine (And.intro ?_ trivial)
  ·
   refine Xy (L2 := []) rfl rfl rfl rfl rfl rfl Try.call79 (Xl _ _ _ _ _ _ _ hp hu (by omega)) [0, 0] rfl Xh [] (by rintro v post ⟨rfl, u1, hu1, rfl⟩; exact ⟨_, rfl⟩) ?_
   rintro v post ⟨rfl, u1, hu1, rfl⟩
   show GH _ _ _ _ _ _ _ [_, _] _
   refine Ya (by kernel_rfl) ?_
   refine Zh ?_
   refine Zh ?_
   refine Zd (l := [0, 1, 2, 3, 4]) rfl ?_
   refine Za rfl rfl rfl rfl (Zc rfl rfl) ?_
   refine Za rfl rfl rfl rfl (Ze rfl rfl) ?_
   refine Za rfl rfl rfl rfl (Zj rfl rfl (List.mem_append_left _ (Zf 0 rfl)) (Zt hk) Try.underlying248 rfl) ?_
   refine Za rfl rfl rfl rfl (Yp rfl rfl Try.underlying248 rfl) ?_
   refine Za rfl rfl rfl rfl (Zc rfl rfl) ?_
   refine Zg ?_
   refine Zs ?_
   refine Yi ?he4 [0, 0] ?hl4 (Xb (X := Nat × Value × Sl × List UInt8 × Bool) (fun x_ => match x_ with | ⟨i, p, u, t, v⟩ => i ≤ s.l.length ∧ UsedOr b p ∧ Txt u t ∧ t = tx ++ (chainI (s.l.length : Int) ++ (s.l.take i).flatMap encCl) ∧ v = (w || (decide (1000 < (s.l.length : Int)) || (s.l.take i).any badCl))) (fun x_ => match x_ with | ⟨i, p, u, t, v⟩ => s.l.length - i) (fun x_ => match x_ with | ⟨i, p, u, t, v⟩ => [(0, .pointer (some ⟨b, 0, none⟩)), (1, .pointer (some ⟨bx, k, none⟩)), (2, .func (.func 144) #[.pointer (some ⟨b, 0, none⟩)] #[]), (41, .int .i64 (s.l.length : Int)), (42, .int .i64 (i : Int))]) (fun x_ => match x_ with | ⟨i, p, u, t, v⟩ => [(some b, .cells #[p, u.v (t).length, .pointer none, .bool v] 80 (0, 0)), (u.ob, .cells u.cs 5 u.fz)]) ?round4 (0, .pointer (some ⟨b, 0, none⟩), u1, tx ++ chainI (s.l.length : Int), (decide (1000 < (s.l.length : Int)))) ?h04)
   case he4 => exact (And.intro rfl (And.intro rfl (And.intro rfl (And.intro rfl (And.intro rfl trivial)))))
   case hl4 => exact ⟨_, rfl⟩
   case h04 => exact ⟨Nat.zero_le _, .inr rfl, hu1, by simp, by simp [*]⟩
   case round4 =>
    intro x_ hJ ih
    try dsimp only at hJ ih
    obtain ⟨i, p, u, t, v⟩ := x_
    try dsimp only at hJ ih
    obtain ⟨hi, hp, hu, ht, hv⟩ := hJ
    show G _ _ [(0, .pointer (some ⟨b, 0, none⟩)), (1, .pointer (some ⟨bx, k, none⟩)), (2, .func (.func 144) #[.pointer (some ⟨b, 0, none⟩)] #[]), (41, .int .i64 (s.l.length : Int)), (42, .int .i64 (i : Int))] [(some b, .cells #[p, u.v (t).length, .pointer none, .bool v] 80 (0, 0)), (u.ob, .cells u.cs 5 u.fz)] _
    refine Zh ?_
    refine Zd (l := [0]) rfl ?_
    refine Za rfl rfl rfl rfl (Xn rfl rfl rfl) ?_
    refine Zg ?_
    refine Zh ?_
    refine Yk rfl (fun hc2 => ?_) (fun hc2 => ?_)
    ·
     refine Zu ?_
     refine Zh ?_
     refine Zs ?_
     refine Zh ?_
     refine Zd (l := [0, 1]) rfl ?_
     refine Za rfl rfl rfl rfl (Zc rfl rfl) ?_
     refine Za rfl rfl rfl rfl (Zk rfl rfl) ?_
     refine Zg ?_
     refine Zh ?_
     obtain ⟨x, hx⟩ := getI (show i < s.l.length by omega)
     obtain ⟨bi, hb1, hb2, hss⟩ := hs.isS (i := i) (by omega)
     have hxo := hok x (List.mem_of_getElem? hx)
     have hfl := fmap_len encCl s.l (i + 1)
     rw [← Yx encCl hx, List.length_append] at hfl
     have htl := congrArg List.length ht
     simp only [List.length_append] at htl
     refine Zd (l := [0, 1, 2, 3, 4, 5, 6, 7]) rfl ?_
     refine Za rfl rfl rfl rfl (Zc rfl rfl) ?_
     refine Za rfl rfl rfl rfl (Ze rfl rfl) ?_
     refine Za rfl rfl rfl rfl (Zj rfl rfl (List.mem_append_left _ (Zf 0 rfl)) (Zt hk) Try.underlying248 rfl) ?_
     rw [hb1]
     refine Za rfl rfl rfl rfl (Zc rfl rfl) ?_
     refine Za rfl rfl rfl rfl (Zo (s := 3) rfl Try.underlying248 i_250 rfl rfl rfl rfl (by omega)) ?_
     refine Za rfl rfl rfl rfl (Xp (s := 3) (vs := (cCl x).toArray) rfl rfl (by rw [← hb2]; exact Zf 1 rfl) Try.underlying250 rfl i_250 rfl (hss.elem cCl_len hx) (by rfl)) ?_
     refine Yw rfl rfl rfl rfl (Ym rfl i_250 rfl) (fun b7 => ?_)
     refine Yj (l1 := []) (L' := [_, _, _]) rfl rfl rfl rfl (Yv (s := 3) rfl rfl rfl (Zf 0 rfl) (by rfl) i_250 rfl (by rfl) (by simp [Value.oneCell', cOp, cWk, cIv, cHr, cLt, cWt, cIt, cFl, cTn, cCl])) rfl ?_
     refine Zg ?_
     refine Zd (l := [0, 1]) rfl ?_
     refine Za rfl rfl rfl rfl (Zc rfl rfl) ?_
     refine G_callMB (L2 := [_]) rfl rfl rfl rfl rfl rfl Try.call144 rfl (cw_class b _ _ _ _ hp hu _ x _ _ hxo (by omega)) [1, 1] rfl (sub_el (A1 := [_, _]) (K := kCl) hx (List.mem_append_right _ (Zf 0 rfl))) ?_
     rintro v post ⟨rfl, p1, u1, hp1, hu1, rfl⟩
     show G _ _ _ [_, _, _] _
     refine Zg ?_
     refine Zv ?_
     refine Zd (l := [0, 1]) rfl ?_
     refine Za rfl rfl rfl rfl ((Xe rfl rfl rfl).int (Zw (by omega))) ?_
     refine Za rfl rfl rfl rfl (Zc rfl rfl) ?_
     refine Zg ?_
     refine Yi ?_ [0, 0] ?_ (ih (i + 1, p1, u1, t ++ encCl x, v || badCl x) ?_ ?_)
     · (refine (And.intro ?_ (And.intro ?_ (And.intro ?_ (And.intro ?_ (And.intro ?_ trivial))))) <;> first | rfl | exact Zl (by omega) | exact Zl (by simp))
     · exact ⟨_, rfl⟩
     · exact ⟨by omega, hp1, hu1, by rw [← Yx encCl hx, ht]; simp only [List.append_assoc], by rw [hv, ← anyt_next hx]; simp only [Bool.or_assoc]⟩
     · (first | omega | (dsimp only; omega))
    refine Yr rfl ?_
    refine Yy (post := [_, _]) Try.func143 rfl Zp [0, 0] rfl ?_
    dsimp only [packed]
    have e : s.l.take i = s.l := List.take_of_length_le (by omega)
    rw [e] at ht hv
    subst ht hv
    exact ⟨rfl, p, u, hp, hu, rfl⟩

end
end Go.Proofs.Ytjnaeoelnmhjfaa

set_option linter.unusedSimpArgs false
set_option linter.unusedVariables false
namespace Go.Proofs.Ytjnaeoelnmhjfaa
open Go Go.RowKit

section
theorem i_99 : Try.prog.info? 99 = some Try.t99 := by kernel_rfl
theorem i_100 : Try.prog.info? 100 = some Try.t100 := by kernel_rfl
theorem i_101 : Try.prog.info? 101 = some Try.t101 := by kernel_rfl
theorem i_248 : Try.prog.info? 248 = some Try.t248 := by kernel_rfl
theorem p_250 : placesOf Try.prog (Try.prog.fieldsOf 250) = some [(0, 1), (1, 1), (2, 1)] := by kernel_rfl


def bC (x : Bool) : List Value := [.bool x]
theorem bC_len (x : Bool) : (bC x).length = 1 := rfl
def shC (s : Ins Tn) : List Value := [.slice s.p s.l.length s.cap]
theorem shC_len (s : Ins Tn) : (shC s).length = 1 := rfl
def kSh (s : Ins Tn) : List HBk := insK s :: s.l.flatMap kTn
/-- A need, as the program has it. -/
structure Po where
  n : List UInt8
  u : Int
  sv : Ins Int
  sh : Ins (Ins Tn)
  gv : Ins Bool
def cPo (x : Po) : List Value := [.string (bs x.n), .int .i64 x.u, .slice x.sv.p x.sv.l.length x.sv.cap, .slice x.sh.p x.sh.l.length x.sh.cap, .slice x.gv.p x.gv.l.length x.gv.cap]
theorem cPo_len (x : Po) : (cPo x).length = 5 := rfl
def clsOf (x : Po) : List Cl := List.zipWith (fun a (p : Bool × Ins Tn) => ⟨a, p.1, p.2⟩) x.sv.l (x.gv.l.zip x.sh.l)
def EvenPo (x : Po) : Prop := x.sv.l.length = x.sh.l.length ∧ x.sv.l.length = x.gv.l.length
instance (x : Po) : Decidable (EvenPo x) := by unfold EvenPo; infer_instance
def encPo (x : Po) : List UInt8 := encTs [x.n] ++ (encIs [x.u] ++ (if EvenPo x then encL encCl (clsOf x) else []))
def badPo (x : Po) : Bool := [x.n].any badT || ([x.u].any badI || (if EvenPo x then badL badCl (clsOf x) else true))
def OkPo (x : Po) : Prop := InsOk 1 i1C x.sv ∧ InsOk 1 bC x.gv ∧ InsOk 1 shC x.sh ∧ ∀ s ∈ x.sh.l, InsOk 5 cTn s ∧ ∀ y ∈ s.l, OkTn y
def kPo (x : Po) : List HBk := insK x.sv :: insK x.gv :: insK x.sh :: x.sh.l.flatMap kSh
theorem cls_len {x : Po} (h : EvenPo x) : (clsOf x).length = x.sv.l.length := by
  obtain ⟨h1, h2⟩ := h
  unfold clsOf; rw [List.length_zipWith, List.length_zip]; omega
theorem cls_at {x : Po} {i : Nat} {a : Int} {g : Bool} {s : Ins Tn} (ha : x.sv.l[i]? = some a) (hg : x.gv.l[i]? = some g) (hs : x.sh.l[i]? = some s) : (clsOf x)[i]? = some ⟨a, g, s⟩ := by
  unfold clsOf; rw [List.getElem?_zipWith, ha, List.zip, List.getElem?_zipWith, hg, hs]
theorem cls_mem {x : Po} {c : Cl} (h : c ∈ clsOf x) : c.s ∈ x.sh.l := by
  obtain ⟨i, hi⟩ := List.mem_iff_getElem?.1 h
  unfold clsOf at hi
  rw [List.getElem?_zipWith, List.zip, List.getElem?_zipWith] at hi
  rcases e1 : x.sv.l[i]? with _ | a <;> rcases e2 : x.gv.l[i]? with _ | g <;> rcases e3 : x.sh.l[i]? with _ | s <;> rw [e1, e2, e3] at hi <;> simp at hi
  subst hi
  exact List.mem_of_getElem? e3
theorem cls_sub {x : Po} : ∀ z ∈ (clsOf x).flatMap kCl, z ∈ x.sh.l.flatMap kSh := by
  intro z hz
  obtain ⟨c, hc, hz⟩ := List.mem_flatMap.1 hz
  exact List.mem_flatMap.2 ⟨c.s, cls_mem hc, hz⟩
theorem sub_two {M tl : List HBk} {a b : HBk} (ha : a ∈ M) (hb : b ∈ M) (h : ∀ z ∈ tl, z ∈ M) : ∀ z ∈ a :: b :: tl, z ∈ M := by
  intro z hz
  rcases List.mem_cons.1 hz with rfl | hz
  · exact ha
  rcases List.mem_cons.1 hz with rfl | hz
  · exact hb
  · exact h z hz
theorem cls_ok {x : Po} (h : OkPo x) : ∀ c ∈ clsOf x, OkCl c := fun c hc => h.2.2.2 c.s (cls_mem hc)

set_option maxRecDepth 100000 in
set_option maxHeartbeats 2000000 in
theorem cw_pool (b : Nat) (p : Value) (u : Sl) (tx : List UInt8) (w : Bool) (hp : UsedOr b p) (hu : Txt u tx) (bx : Nat) (x : Po) (T : TypeId) (fz : Nat × Nat) (hx : OkPo x) (hl : tx.length + (encPo x).length ≤ 140737488350000) :
    Ct Try.prog 104 [.pointer (some ⟨b, 0, none⟩), .pointer (some ⟨bx, 0, none⟩)] ((some bx, .cells (cPo x).toArray T fz) :: insK x.sv :: insK x.gv :: insK x.sh :: x.sh.l.flatMap kSh) [(some b, .cells #[p, u.v (tx).length, .pointer none, .bool w] 80 (0, 0)), (u.ob, .cells u.cs 5 u.fz)] fun v post => v = .tuple #[] ∧ ∃ p1 u1, UsedOr b p1 ∧ Txt u1 (tx ++ encPo x) ∧ post = [(some b, .cells #[p1, u1.v (tx ++ encPo x).length, .pointer none, .bool (w || badPo x)] 80 (0, 0)), (u1.ob, .cells u1.cs 5 u1.fz)] := by
 have hl_ := hl
 unfold encPo at hl_
 simp only [List.length_append] at hl_
 have n1 := hx.1.n
 have n2 := hx.1.le
 have n3 := hx.1.max
 have n4 := hx.2.1.le
 have n5 := hx.2.1.max
 have n6 := hx.2.2.1.le
 have n7 := hx.2.2.1.max
 refine Yu Try.func104 rfl rfl (fun w0 => ?_)
 show G _ _ [(0, _), (1, _)] _ _
 refine Zh ?_
 refine Zd (l := [0, 1, 2, 3, 4, 5]) rfl ?_
 refine Za rfl rfl rfl rfl (Zc rfl rfl) ?_
 refine Za rfl rfl rfl rfl (Zc rfl rfl) ?_
 refine Za rfl rfl rfl rfl (Ze rfl rfl) ?_
 refine Za rfl rfl rfl rfl (Zb (fo := 0) rfl Try.underlying103 rfl i_9 rfl rfl rfl) ?_
 refine Yw rfl rfl rfl rfl (Zn (s := 1) (cs := [_]) rfl Try.underlying278 i_244 rfl rfl rfl rfl rfl rfl rfl rfl rfl) (fun b12 => ?_)
 refine Xx (L2 := [_]) rfl rfl rfl rfl rfl rfl Try.call142 (cw_textsL b _ _ _ _ hp hu _ _ bx (cPo x).toArray T fz [(0, x.n)] (by simp) ⟨rfl, trivial⟩ (by (try simp only [List.map_cons, List.map_nil, List.length_append]); omega)) [1, 1] rfl (Ys (List.mem_append_right _ (Zf 0 rfl)) (Ys (List.mem_append_left _ (Zf 0 rfl)) Xh)) ?_
 rintro v post ⟨rfl, p1, u1, hp1, hu1, rfl⟩
 show G _ _ _ [_, _, _] _
 refine Zg ?_
 refine Zh ?_
 refine Zd (l := [0, 1, 2, 3, 4, 5]) rfl ?_
 refine Za rfl rfl rfl rfl (Zc rfl rfl) ?_
 refine Za rfl rfl rfl rfl (Zc rfl rfl) ?_
 refine Za rfl rfl rfl rfl (Ze rfl rfl) ?_
 refine Za rfl rfl rfl rfl (Zb (fo := 1) rfl Try.underlying103 rfl i_3 rfl rfl rfl) ?_
 refine Yw rfl rfl rfl rfl (Zn (s := 1) (cs := [_]) rfl Try.underlying241 i_176 rfl rfl rfl rfl rfl rfl rfl rfl rfl) (fun b18 => ?_)
 refine Xx (L2 := [_, _]) rfl rfl rfl rfl rfl rfl Try.call96 (cw_intsL b _ _ _ _ hp1 hu1 _ _ bx (cPo x).toArray T fz [(1, x.u)] (by simp) ⟨rfl, trivial⟩ (by (try simp only [List.map_cons, List.map_nil, List.length_append]); omega)) [1, 1] rfl (Ys (List.mem_append_right _ (Zf 0 rfl)) (Ys (List.mem_append_left _ (Zf 0 rfl)) Xh)) ?_
 rintro v post ⟨rfl, p1, u1, hp1, hu1, rfl⟩
 show G _ _ _ [_, _, _, _] _
 refine Zg ?_
 refine Zh ?_
 refine Zd (l := [0]) rfl ?_
 refine Yw rfl rfl rfl rfl (N_alloc1 rfl i_248 rfl rfl) (fun b4 => ?_)
 refine Zg ?_
 refine Zh ?_
 refine Zh ?_
 refine Yf (Lq := []) (isq := []) (m := 24) Yo rfl rfl ?_
 refine Zi 0 rfl rfl rfl rfl (by kernel_rfl) (fun _ _ => Zc rfl rfl) ?_
 refine Zi 1 rfl rfl rfl rfl (by kernel_rfl) (fun _ _ => Ze rfl rfl) ?_
 refine Zi 2 rfl rfl rfl rfl (by kernel_rfl) (fun _ _ => Zb (fo := 2) rfl Try.underlying103 rfl i_99 rfl rfl rfl) ?_
 refine Zi 3 rfl rfl rfl rfl (by kernel_rfl) (fun _ _ => Zj rfl rfl (List.mem_append_left _ (Zf 0 rfl)) rfl Try.underlying99 rfl) ?_
 refine Zi 4 rfl rfl rfl rfl (by kernel_rfl) (fun _ _ => Yp rfl rfl Try.underlying99 rfl) ?_
 refine Zi 5 rfl rfl rfl rfl (by kernel_rfl) (fun _ _ => Zc rfl rfl) ?_
 refine Zi 6 rfl rfl rfl rfl (by kernel_rfl) (fun _ _ => Ze rfl rfl) ?_
 refine Zi 7 rfl rfl rfl rfl (by kernel_rfl) (fun _ _ => Zb (fo := 3) rfl Try.underlying103 rfl i_100 rfl rfl rfl) ?_
 refine Zi 8 rfl rfl rfl rfl (by kernel_rfl) (fun _ _ => Zj rfl rfl (List.mem_append_left _ (Zf 0 rfl)) rfl Try.underlying100 rfl) ?_
 refine Zi 9 rfl rfl rfl rfl (by kernel_rfl) (fun _ _ => Yp rfl rfl Try.underlying100 rfl) ?_
 refine Zi 10 rfl rfl rfl rfl (by kernel_rfl) (fun _ _ => V_neq rfl rfl rfl) ?_
 refine Zi 11 rfl rfl rfl rfl (by kernel_rfl) (fun _ _ => Zc rfl rfl) ?_
 refine GH_splitD 31 rfl (fun hc1 => ?_) (fun hc1 => ?_)
 ·
  refine GH_takeOff 12 rfl rfl rfl rfl (by kernel_rfl) (by kernel_rfl) (by kernel_rfl) ?_
  refine GH_takeOff 13 rfl rfl rfl rfl (by kernel_rfl) (by kernel_rfl) (by kernel_rfl) ?_
  refine GH_takeOff 14 rfl rfl rfl rfl (by kernel_rfl) (by kernel_rfl) (by kernel_rfl) ?_
  refine GH_takeOff 15 rfl rfl rfl rfl (by kernel_rfl) (by kernel_rfl) (by kernel_rfl) ?_
  refine GH_takeOff 16 rfl rfl rfl rfl (by kernel_rfl) (by kernel_rfl) (by kernel_rfl) ?_
  refine GH_takeOff 17 rfl rfl rfl rfl (by kernel_rfl) (by kernel_rfl) (by kernel_rfl) ?_
  refine GH_takeOff 18 rfl rfl rfl rfl (by kernel_rfl) (by kernel_rfl) (by kernel_rfl) ?_
  refine GH_takeOff 19 rfl rfl rfl rfl (by kernel_rfl) (by kernel_rfl) (by kernel_rfl) ?_
  refine GH_takeOff 20 rfl rfl rfl rfl (by kernel_rfl) (by kernel_rfl) (by kernel_rfl) ?_
  refine GH_takeOff 21 rfl rfl rfl rfl (by kernel_rfl) (by kernel_rfl) (by kernel_rfl) ?_
  refine GH_takeOff 22 rfl rfl rfl rfl (by kernel_rfl) (by kernel_rfl) (by kernel_rfl) ?_
  refine Zi 23 rfl rfl rfl rfl (by kernel_rfl) (fun _ _ => Yz rfl rfl rfl) ?_
  refine Ya (by kernel_rfl) ?_
  refine G_then rfl ?_
  refine Zh ?_
  refine Zd (l := [0, 1, 2, 3]) rfl ?_
  refine Za rfl rfl rfl rfl (Zc rfl rfl) ?_
  refine Za rfl rfl rfl rfl (Ze rfl rfl) ?_
  refine Za rfl rfl rfl rfl (Zb (fo := 3) rfl Try.underlying80 rfl i_4 rfl rfl rfl) ?_
  refine Yj (l1 := [_]) (L' := [_, _, _, _, _]) rfl rfl rfl rfl (Zm rfl rfl rfl (Zf 1 rfl) (by first | exact of_decide_eq_true rfl | omega | (simp [cOp, cWk, cIv, cHr, cLt, cWt, cIt, cFl, cTn, cCl, cPo]; done) | (simp [cOp, cWk, cIv, cHr, cLt, cWt, cIt, cFl, cTn, cCl, cPo]; omega) | (simp [cOp, cWk, cIv, cHr, cLt, cWt, cIt, cFl, cTn, cCl, cPo] at *; omega)) i_4 rfl rfl) rfl ?_
  refine Zg ?_
  refine Yy (post := [_, _]) Try.func104 rfl Zp [1, 1] rfl ?_
  dsimp only [packed]
  first
    | (have hev : ¬ EvenPo x := fun h => by have h1 := h.1; have h2 := h.2; first | contradiction | omega
       have e1 : tx ++ encPo x = tx ++ encTs [x.n] ++ encIs [x.u] := by simp only [encPo, if_neg hev, List.append_nil, List.append_assoc]
       have e2 : (w || badPo x) = true := by simp only [badPo, if_neg hev, Bool.or_true]
       rw [e1, e2]
       exact ⟨rfl, p1, u1, hp1, hu1, rfl⟩)
    | (refine ⟨rfl, p1, u1, hp1, ?_, ?_⟩
       · simpa only [encPo, if_pos hev, List.map_cons, List.map_nil, List.append_assoc] using hu1
       · simp only [encPo, badPo, if_pos hev, List.map_cons, List.map_nil, List.append_assoc, Bool.or_assoc])
 refine Zi 12 rfl rfl rfl rfl (by kernel_rfl) (fun _ _ => Zc rfl rfl) ?_
 refine Zi 13 rfl rfl rfl rfl (by kernel_rfl) (fun _ _ => Ze rfl rfl) ?_
 refine Zi 14 rfl rfl rfl rfl (by kernel_rfl) (fun _ _ => Zb (fo := 2) rfl Try.underlying103 rfl i_99 rfl rfl rfl) ?_
 refine Zi 15 rfl rfl rfl rfl (by kernel_rfl) (fun _ _ => Zj rfl rfl (List.mem_append_left _ (Zf 0 rfl)) rfl Try.underlying99 rfl) ?_
 refine Zi 16 rfl rfl rfl rfl (by kernel_rfl) (fun _ _ => Yp rfl rfl Try.underlying99 rfl) ?_
 refine Zi 17 rfl rfl rfl rfl (by kernel_rfl) (fun _ _ => Zc rfl rfl) ?_
 refine Zi 18 rfl rfl rfl rfl (by kernel_rfl) (fun _ _ => Ze rfl rfl) ?_
 refine Zi 19 rfl rfl rfl rfl (by kernel_rfl) (fun _ _ => Zb (fo := 4) rfl Try.underlying103 rfl i_101 rfl rfl rfl) ?_
 refine Zi 20 rfl rfl rfl rfl (by kernel_rfl) (fun _ _ => Zj rfl rfl (List.mem_append_left _ (Zf 0 rfl)) rfl Try.underlying101 rfl) ?_
 refine Zi 21 rfl rfl rfl rfl (by kernel_rfl) (fun _ _ => Yp rfl rfl Try.underlying101 rfl) ?_
 refine Zi 22 rfl rfl rfl rfl (by kernel_rfl) (fun _ _ => V_neq rfl rfl rfl) ?_
 refine Zi 23 rfl rfl rfl rfl (by kernel_rfl) (fun _ _ => Xg rfl rfl rfl) ?_
 refine Ya (by kernel_rfl) ?_
 refine Yk rfl (fun hc2 => ?_) (fun hc2 => ?_)
 ·
  refine Zh ?_
  refine Zd (l := [0, 1, 2, 3]) rfl ?_
  refine Za rfl rfl rfl rfl (Zc rfl rfl) ?_
  refine Za rfl rfl rfl rfl (Ze rfl rfl) ?_
  refine Za rfl rfl rfl rfl (Zb (fo := 3) rfl Try.underlying80 rfl i_4 rfl rfl rfl) ?_
  refine Yj (l1 := [_]) (L' := [_, _, _, _, _]) rfl rfl rfl rfl (Zm rfl rfl rfl (Zf 1 rfl) (by first | exact of_decide_eq_true rfl | omega | (simp [cOp, cWk, cIv, cHr, cLt, cWt, cIt, cFl, cTn, cCl, cPo]; done) | (simp [cOp, cWk, cIv, cHr, cLt, cWt, cIt, cFl, cTn, cCl, cPo]; omega) | (simp [cOp, cWk, cIv, cHr, cLt, cWt, cIt, cFl, cTn, cCl, cPo] at *; omega)) i_4 rfl rfl) rfl ?_
  refine Zg ?_
  refine Yy (post := [_, _]) Try.func104 rfl Zp [1, 1] rfl ?_
  dsimp only [packed]
  first
    | (have hev : ¬ EvenPo x := fun h => by have h1 := h.1; have h2 := h.2; first | contradiction | omega
       have e1 : tx ++ encPo x = tx ++ encTs [x.n] ++ encIs [x.u] := by simp only [encPo, if_neg hev, List.append_nil, List.append_assoc]
       have e2 : (w || badPo x) = true := by simp only [badPo, if_neg hev, Bool.or_true]
       rw [e1, e2]
       exact ⟨rfl, p1, u1, hp1, hu1, rfl⟩)
    | (refine ⟨rfl, p1, u1, hp1, ?_, ?_⟩
       · simpa only [encPo, if_pos hev, List.map_cons, List.map_nil, List.append_assoc] using hu1
       · simp only [encPo, badPo, if_pos hev, List.map_cons, List.map_nil, List.append_assoc, Bool.or_assoc])
 refine Zu ?_
 refine Zh ?_
 refine Zh ?_
 have hev : EvenPo x := ⟨by omega, by omega⟩
 rw [if_pos hev] at hl_
 have hcn := cls_len hev
 refine Xq (.cells #[] 250 (0, 0)) ?_
 refine Zd (l := [0, 1, 2, 3, 4, 5]) rfl ?_
 refine Za rfl rfl rfl rfl (Zc rfl rfl) ?_
 refine Za rfl rfl rfl rfl (Ze rfl rfl) ?_
 refine Za rfl rfl rfl rfl (Zb (fo := 2) rfl Try.underlying103 rfl i_99 rfl rfl rfl) ?_
 refine Za rfl rfl rfl rfl (Zj rfl rfl (List.mem_append_left _ (Zf 0 rfl)) rfl Try.underlying99 rfl) ?_
 refine Za rfl rfl rfl rfl (Yp rfl rfl Try.underlying99 rfl) ?_
 refine Za rfl rfl rfl rfl (Zc rfl rfl) ?_
 refine Zg ?_
 refine Zs ?_
 refine Yi ?he6 [1, 0, 0, 0] ?hl6 (Xb (X := Nat × Sl) (fun x_ => match x_ with | ⟨i, v⟩ => i ≤ x.sv.l.length ∧ Own 3 v (((clsOf x).take i).flatMap cCl) i) (fun x_ => match x_ with | ⟨i, v⟩ => x.sv.l.length - i) (fun x_ => match x_ with | ⟨i, v⟩ => [(0, .pointer (some ⟨b, 0, none⟩)), (1, .pointer (some ⟨bx, 0, none⟩)), (4, .pointer (some ⟨b4, 0, none⟩)), (51, .int .i64 (x.sv.l.length : Int)), (52, .int .i64 (i : Int))]) (fun x_ => match x_ with | ⟨i, v⟩ => [(some b4, .cells #[v.v i] 248 (0, 0)), (v.ob, .cells v.cs 250 v.fz), (some b, .cells #[p1, u1.v (tx ++ encTs [x.n] ++ encIs [x.u]).length, .pointer none, .bool ((w || [x.n].any badT) || [x.u].any badI)] 80 (0, 0)), (u1.ob, .cells u1.cs 5 u1.fz)]) ?round6 (0, slNil) ?h06)
 case he6 => exact (And.intro rfl (And.intro rfl (And.intro rfl (And.intro rfl (And.intro rfl trivial)))))
 case hl6 => exact ⟨_, rfl⟩
 case h06 => exact ⟨Nat.zero_le _, own_nil 3⟩
 case round6 =>
  intro x_ hJ ih
  try dsimp only at hJ ih
  obtain ⟨i, v⟩ := x_
  try dsimp only at hJ ih
  obtain ⟨hi, hv⟩ := hJ
  show G _ _ [(0, .pointer (some ⟨b, 0, none⟩)), (1, .pointer (some ⟨bx, 0, none⟩)), (4, .pointer (some ⟨b4, 0, none⟩)), (51, .int .i64 (x.sv.l.length : Int)), (52, .int .i64 (i : Int))] [(some b4, .cells #[v.v i] 248 (0, 0)), (v.ob, .cells v.cs 250 v.fz), (some b, .cells #[p1, u1.v (tx ++ encTs [x.n] ++ encIs [x.u]).length, .pointer none, .bool ((w || [x.n].any badT) || [x.u].any badI)] 80 (0, 0)), (u1.ob, .cells u1.cs 5 u1.fz)] _
  refine Zh ?_
  refine Zd (l := [0]) rfl ?_
  refine Za rfl rfl rfl rfl (Xn rfl rfl rfl) ?_
  refine Zg ?_
  refine Zh ?_
  refine Yk rfl (fun hc3 => ?_) (fun hc3 => ?_)
  ·
   refine Zu ?_
   refine Zh ?_
   refine Zs ?_
   refine Zh ?_
   refine Zd (l := [0, 1]) rfl ?_
   refine Za rfl rfl rfl rfl (Zc rfl rfl) ?_
   refine Za rfl rfl rfl rfl (Zk rfl rfl) ?_
   refine Zg ?_
   obtain ⟨y1, hy1⟩ := getI (show i < x.sv.l.length by omega)
   obtain ⟨y2, hy2⟩ := getI (show i < x.gv.l.length by have := hev.2; omega)
   obtain ⟨y3, hy3⟩ := getI (show i < x.sh.l.length by have := hev.1; omega)
   have hy := cls_at hy1 hy2 hy3
   obtain ⟨i1, p11, p12, ss1⟩ := hx.1.isS (i := i) (by omega)
   obtain ⟨i2, p21, p22, ss2⟩ := hx.2.1.isS (i := i) (by have := hev.2; omega)
   obtain ⟨i3, p31, p32, ss3⟩ := hx.2.2.1.isS (i := i) (by have := hev.1; omega)
   refine Yf (Lq := []) (isq := []) (m := 26) Yo rfl rfl ?_
   refine Zi 1 rfl rfl rfl rfl (by kernel_rfl) (fun _ _ => Zc rfl rfl) ?_
   refine Zi 2 rfl rfl rfl rfl (by kernel_rfl) (fun _ _ => Ze rfl rfl) ?_
   refine Zi 3 rfl rfl rfl rfl (by kernel_rfl) (fun _ _ => Zb (fo := 2) rfl Try.underlying103 rfl i_99 rfl rfl rfl) ?_
   refine Zi 4 rfl rfl rfl rfl (by kernel_rfl) (fun _ _ => Zj rfl rfl (List.mem_append_left _ (Zf 0 rfl)) rfl Try.underlying99 rfl) ?_
   rw [p11]
   refine Zi 5 rfl rfl rfl rfl (by kernel_rfl) (fun _ _ => Zc rfl rfl) ?_
   refine Zi 6 rfl rfl rfl rfl (by kernel_rfl) (fun _ _ => Zo (s := 1) rfl Try.underlying99 i_3 rfl rfl rfl rfl (by omega)) ?_
   refine Zi 7 rfl rfl rfl rfl (by kernel_rfl) (fun _ _ => Zj rfl rfl (by rw [← Xc p12]; exact Zf 1 rfl) (Zt (Xr ss1 i1_len hy1 0 (by omega) rfl)) Try.underlying3 rfl) ?_
   refine Zi 8 rfl rfl rfl rfl (by kernel_rfl) (fun _ _ => Zc rfl rfl) ?_
   refine Zi 9 rfl rfl rfl rfl (by kernel_rfl) (fun _ _ => Ze rfl rfl) ?_
   refine Zi 10 rfl rfl rfl rfl (by kernel_rfl) (fun _ _ => Zb (fo := 4) rfl Try.underlying103 rfl i_101 rfl rfl rfl) ?_
   refine Zi 11 rfl rfl rfl rfl (by kernel_rfl) (fun _ _ => Zj rfl rfl (List.mem_append_left _ (Zf 0 rfl)) rfl Try.underlying101 rfl) ?_
   rw [p21]
   refine Zi 12 rfl rfl rfl rfl (by kernel_rfl) (fun _ _ => Zc rfl rfl) ?_
   refine Zi 13 rfl rfl rfl rfl (by kernel_rfl) (fun _ _ => Zo (s := 1) rfl Try.underlying101 i_4 rfl rfl rfl rfl (by omega)) ?_
   refine Zi 14 rfl rfl rfl rfl (by kernel_rfl) (fun _ _ => Zj rfl rfl (by rw [← Xc p22]; exact Zf 2 rfl) (Zt (Xr ss2 bC_len hy2 0 (by omega) rfl)) Try.underlying4 rfl) ?_
   refine Zi 15 rfl rfl rfl rfl (by kernel_rfl) (fun _ _ => Zc rfl rfl) ?_
   refine Zi 16 rfl rfl rfl rfl (by kernel_rfl) (fun _ _ => Ze rfl rfl) ?_
   refine Zi 17 rfl rfl rfl rfl (by kernel_rfl) (fun _ _ => Zb (fo := 3) rfl Try.underlying103 rfl i_100 rfl rfl rfl) ?_
   refine Zi 18 rfl rfl rfl rfl (by kernel_rfl) (fun _ _ => Zj rfl rfl (List.mem_append_left _ (Zf 0 rfl)) rfl Try.underlying100 rfl) ?_
   rw [p31]
   refine Zi 19 rfl rfl rfl rfl (by kernel_rfl) (fun _ _ => Zc rfl rfl) ?_
   refine Zi 20 rfl rfl rfl rfl (by kernel_rfl) (fun _ _ => Zo (s := 1) rfl Try.underlying100 i_109 rfl rfl rfl rfl (by omega)) ?_
   refine Zi 21 rfl rfl rfl rfl (by kernel_rfl) (fun _ _ => Zj rfl rfl (by rw [← Xc p32]; exact Zf 3 rfl) (Zt (Xr ss3 shC_len hy3 0 (by omega) rfl)) Try.underlying109 rfl) ?_
   refine Zi 22 rfl rfl rfl rfl (by kernel_rfl) (fun _ _ => Xw (cs := [_, _, _]) rfl Try.underlying250 i_250 rfl p_250 rfl rfl rfl) ?_
   refine GH_all [0, 23] (by kernel_rfl) (by decide) ?_
   refine (And.intro ?_ (And.intro ?_ trivial))
   ·
    refine Xo rfl rfl rfl rfl (Zj rfl rfl (List.mem_append_right _ (Zf 0 rfl)) rfl Try.underlying248 rfl) ?_
    refine GH_all [23] (by kernel_rfl) (by decide) ?_
    refine (And.intro ?_ trivial)
    ·
     refine Yl rfl rfl rfl rfl (Zn (s := 3) (cs := [_, _, _]) rfl Try.underlying248 i_250 rfl rfl rfl rfl rfl rfl rfl rfl rfl) [] (fun _ => ⟨_, rfl⟩) (fun b78 => ?_)
     refine GH_all [24] (by kernel_rfl) (by decide) ?_
     refine (And.intro ?_ trivial)
     ·
      refine Yq (l1 := [_, _]) (s := v) (nn := i) (m := 1) (news := (cCl ⟨y1, y2, y3⟩)) (bt := 40) rfl rfl rfl rfl Try.underlying248 Try.underlying248 (by first | exact .inl rfl | exact .inr ⟨_, rfl⟩) i_250 rfl rfl rfl rfl rfl rfl hv rfl (Yg (List.mem_append_right _ (Zf 0 rfl)) rfl rfl (by simp [cCl, Value.oneCell'])) (by omega) (by omega) [] (fun _ => ⟨_, rfl⟩) ?_
      intro w1 hw1 _
      show GH _ _ _ _ _ _ _ [_, _, _, _, _] _
      refine GH_all [25] (by kernel_rfl) (by decide) ?_
      refine (And.intro ?_ trivial)
      ·
       refine Xk (l1 := [_]) (L' := [_, _, _, _, _]) rfl rfl rfl rfl (Zm rfl rfl rfl (Zf 1 rfl) (by first | exact of_decide_eq_true rfl | omega | (simp [cOp, cWk, cIv, cHr, cLt, cWt, cIt, cFl, cTn, cCl, cPo]; done) | (simp [cOp, cWk, cIv, cHr, cLt, cWt, cIt, cFl, cTn, cCl, cPo]; omega) | (simp [cOp, cWk, cIv, cHr, cLt, cWt, cIt, cFl, cTn, cCl, cPo] at *; omega)) i_248 rfl rfl) rfl [] rfl ?_
       refine Ya (by kernel_rfl) ?_
       refine Zv ?_
       refine Zd (l := [0, 1]) rfl ?_
       refine Za rfl rfl rfl rfl ((Xe rfl rfl rfl).int (Zw (by omega))) ?_
       refine Za rfl rfl rfl rfl (Zc rfl rfl) ?_
       refine Zg ?_
       refine Yi ?_ [1, 1, 1, 1] ?_ (ih (i + 1, w1) ?_ ?_)
       · (refine (And.intro ?_ (And.intro ?_ (And.intro ?_ (And.intro ?_ (And.intro ?_ trivial))))) <;> first | rfl | exact Zl (by omega) | exact Zl (by simp))
       · exact ⟨_, rfl⟩
       · exact ⟨by omega, by obtain ⟨hci, hce⟩ := List.getElem?_eq_some_iff.1 hy; rw [List.take_succ_eq_append_getElem hci, List.flatMap_append, hce, List.flatMap_singleton]; exact hw1⟩
       · (first | omega | (dsimp only; omega))
   ·
    refine Yl rfl rfl rfl rfl (Zn (s := 3) (cs := [_, _, _]) rfl Try.underlying248 i_250 rfl rfl rfl rfl rfl rfl rfl rfl rfl) [] (fun _ => ⟨_, rfl⟩) (fun b78 => ?_)
    refine GH_all [0] (by kernel_rfl) (by decide) ?_
    refine (And.intro ?_ trivial)
    ·
     refine Xo rfl rfl rfl rfl (Zj rfl rfl (List.mem_append_right _ (Zf 1 rfl)) rfl Try.underlying248 rfl) ?_
     refine GH_all [24] (by kernel_rfl) (by decide) ?_
     refine (And.intro ?_ trivial)
     ·
      refine Yq (l1 := [_, _]) (s := v) (nn := i) (m := 1) (news := (cCl ⟨y1, y2, y3⟩)) (bt := 40) rfl rfl rfl rfl Try.underlying248 Try.underlying248 (by first | exact .inl rfl | exact .inr ⟨_, rfl⟩) i_250 rfl rfl rfl rfl rfl rfl hv rfl (Yg (List.mem_append_right _ (Zf 0 rfl)) rfl rfl (by simp [cCl, Value.oneCell'])) (by omega) (by omega) [] (fun _ => ⟨_, rfl⟩) ?_
      intro w1 hw1 _
      show GH _ _ _ _ _ _ _ [_, _, _, _, _] _
      refine GH_all [25] (by kernel_rfl) (by decide) ?_
      refine (And.intro ?_ trivial)
      ·
       refine Xk (l1 := [_]) (L' := [_, _, _, _, _]) rfl rfl rfl rfl (Zm rfl rfl rfl (Zf 1 rfl) (by first | exact of_decide_eq_true rfl | omega | (simp [cOp, cWk, cIv, cHr, cLt, cWt, cIt, cFl, cTn, cCl, cPo]; done) | (simp [cOp, cWk, cIv, cHr, cLt, cWt, cIt, cFl, cTn, cCl, cPo]; omega) | (simp [cOp, cWk, cIv, cHr, cLt, cWt, cIt, cFl, cTn, cCl, cPo] at *; omega)) i_248 rfl rfl) rfl [] rfl ?_
       refine Ya (by kernel_rfl) ?_
       refine Zv ?_
       refine Zd (l := [0, 1]) rfl ?_
       refine Za rfl rfl rfl rfl ((Xe rfl rfl rfl).int (Zw (by omega))) ?_
       refine Za rfl rfl rfl rfl (Zc rfl rfl) ?_
       refine Zg ?_
       refine Yi ?_ [1, 1, 1, 1] ?_ (ih (i + 1, w1) ?_ ?_)
       · (refine (And.intro ?_ (And.intro ?_ (And.intro ?_ (And.intro ?_ (And.intro ?_ trivial))))) <;> first | rfl | exact Zl (by omega) | exact Zl (by simp))
       · exact ⟨_, rfl⟩
       · exact ⟨by omega, by obtain ⟨hci, hce⟩ := List.getElem?_eq_some_iff.1 hy; rw [List.take_succ_eq_append_getElem hci, List.flatMap_append, hce, List.flatMap_singleton]; exact hw1⟩
       · (first | omega | (dsimp only; omega))
  refine Yr rfl ?_
  refine Zh ?_
  obtain rfl : i = (clsOf x).length := by omega
  rw [List.take_length] at hv
  refine Zd (l := [0, 1, 2, 3]) rfl ?_
  refine Za rfl rfl rfl rfl (Zc rfl rfl) ?_
  refine Za rfl rfl rfl rfl (Zc rfl rfl) ?_
  refine Za rfl rfl rfl rfl (V_func rfl rfl rfl) ?_
  refine Xx (L2 := [_, _]) rfl rfl rfl rfl rfl rfl Try.call143 (cw_listCl b _ _ _ _ hp1 hu1 b4 0 #[v.v (clsOf x).length] _ (0, 0) ⟨v.ob.map (fun b => ⟨b, 0, none⟩), v.ob, 0, v.cap, v.cs, 250, v.fz, clsOf x⟩ ⟨hv.le, hv.max, by show (clsOf x).length ≤ _; omega, .inl ⟨rfl, hv.sees⟩⟩ (cls_ok hx) rfl (by show (tx ++ encTs [x.n] ++ encIs [x.u]).length + (encL encCl (clsOf x)).length ≤ _; simp only [List.length_append]; omega)) [2, 2] rfl (sub_two (List.mem_append_right _ (Zf 0 rfl)) (List.mem_append_right _ (Zf 1 rfl)) (fun z hz => List.mem_append_left _ (List.mem_append_right ([_, _, _, _] : List HBk) (cls_sub z hz)))) ?_
  rintro v post ⟨rfl, p1, u1, hp1, hu1, rfl⟩
  show G _ _ _ [_, _, _, _] _
  refine Zg ?_
  refine Zh ?_
  refine Zh ?_
  refine Zd (l := [0, 1, 2, 3, 4]) rfl ?_
  refine Za rfl rfl rfl rfl (Zc rfl rfl) ?_
  refine Za rfl rfl rfl rfl (Ze rfl rfl) ?_
  refine Za rfl rfl rfl rfl (Zb (fo := 2) rfl Try.underlying80 rfl i_74 rfl rfl rfl) ?_
  refine Za rfl rfl rfl rfl (Zj rfl rfl (List.mem_append_right _ (Zf 0 rfl)) rfl Try.underlying74 rfl) ?_
  refine Za rfl rfl rfl rfl (V_peqlN rfl Try.underlying74 rfl rfl) ?_
  refine Zg ?_
  refine G_then rfl ?_
  refine Yy (post := [_, _]) Try.func104 rfl Zp [0, 0] rfl ?_
  dsimp only [packed]
  first
    | (have hev : ¬ EvenPo x := fun h => by have h1 := h.1; have h2 := h.2; first | contradiction | omega
       have e1 : tx ++ encPo x = tx ++ encTs [x.n] ++ encIs [x.u] := by simp only [encPo, if_neg hev, List.append_nil, List.append_assoc]
       have e2 : (w || badPo x) = true := by simp only [badPo, if_neg hev, Bool.or_true]
       rw [e1, e2]
       exact ⟨rfl, p1, u1, hp1, hu1, rfl⟩)
    | (refine ⟨rfl, p1, u1, hp1, ?_, ?_⟩
       · simpa only [encPo, if_pos hev, List.map_cons, List.map_nil, List.append_assoc] using hu1
       · simp only [encPo, badPo, if_pos hev, List.map_cons, List.map_nil, List.append_assoc, Bool.or_assoc])

end
end Go.Proofs.Ytjnaeoelnmhjfaa

set_option linter.unusedSimpArgs false
set_option linter.unusedVariables false
namespace Go.Proofs.Ytjnaeoelnmhjfaa
open Go Go.RowKit

section
theorem i_24 : Try.prog.info? 24 = some Try.t24 := by kernel_rfl
theorem i_25 : Try.prog.info? 25 = some Try.t25 := by kernel_rfl
theorem i_26 : Try.prog.info? 26 = some Try.t26 := by kernel_rfl
theorem i_27 : Try.prog.info? 27 = some Try.t27 := by kernel_rfl
theorem i_28 : Try.prog.info? 28 = some Try.t28 := by kernel_rfl
theorem i_29 : Try.prog.info? 29 = some Try.t29 := by kernel_rfl
theorem i_30 : Try.prog.info? 30 = some Try.t30 := by kernel_rfl
theorem i_80 : Try.prog.info? 80 = some Try.t80 := by kernel_rfl
theorem i_103 : Try.prog.info? 103 = some Try.t103 := by kernel_rfl
set_option maxRecDepth 100000 in
set_option maxHeartbeats 1000000 in
theorem cw_listPo (b : Nat) (p : Value) (u : Sl) (tx : List UInt8) (w : Bool) (hp : UsedOr b p) (hu : Txt u tx) (bx k : Nat) (cs : Array Value) (T : TypeId) (fz : Nat × Nat) (s : Ins Po) (hs : InsOk 5 cPo s) (hok : ∀ x ∈ s.l, OkPo x) (hk : cs[k]? = some (.slice s.p s.l.length s.cap)) (hl : tx.length + (encL encPo s.l).length ≤ 140737488350000) :
    Ct Try.prog 103 [.pointer (some ⟨b, 0, none⟩), .pointer (some ⟨bx, k, none⟩), .func (.func 104) #[.pointer (some ⟨b, 0, none⟩)] #[]] ((some bx, .cells cs T fz) :: (s.ob, .cells s.cs s.T s.fr) :: s.l.flatMap kPo) [(some b, .cells #[p, u.v (tx).length, .pointer none, .bool w] 80 (0, 0)), (u.ob, .cells u.cs 5 u.fz)] fun v post => v = .tuple #[] ∧ ∃ p1 u1, UsedOr b p1 ∧ Txt u1 (tx ++ encL encPo s.l) ∧ post = [(some b, .cells #[p1, u1.v (tx ++ encL encPo s.l).length, .pointer none, .bool (w || badL badPo s.l)] 80 (0, 0)), (u1.ob, .cells u1.cs 5 u1.fz)] := by
 have hl1 := hs.le
 have hl2 := hs.max
 have hln := hs.n
 have hcl := chainI_len (s.l.length : Int) (by omega) (by omega)
 have hl_ := hl
 unfold encL at hl_
 simp only [List.length_append] at hl_
 refine Yu Try.func103 rfl rfl (fun w0 => ?_)
 show G _ _ [(0, _), (1, _), (2, _)] _ _
 refine Zh ?_
 refine Zh ?_
 refine Zd (l := [0, 1, 2, 3, 4]) rfl ?_
 refine Za rfl rfl rfl rfl (Zc rfl rfl) ?_
 refine Za rfl rfl rfl rfl (Ze rfl rfl) ?_
 refine Za rfl rfl rfl rfl (Zb (fo := 2) rfl Try.underlying80 rfl i_74 rfl rfl rfl) ?_
 refine Za rfl rfl rfl rfl (Zj rfl rfl (List.mem_append_right _ (Zf 0 rfl)) rfl Try.underlying74 rfl) ?_
 refine Za rfl rfl rfl rfl (V_peqlN rfl Try.underlying74 rfl rfl) ?_
 refine Zg ?_
 refine G_then rfl ?_
 refine Zh ?_
 refine Zd (l := [0, 1, 2, 3, 4, 5, 6, 7, 8, 9, 10, 11, 12, 13, 14]) rfl ?_
 refine Za rfl rfl rfl rfl (Zc rfl rfl) ?_
 refine Za rfl rfl rfl rfl (Zc rfl rfl) ?_
 refine Za rfl rfl rfl rfl (Ze rfl rfl) ?_
 refine Za rfl rfl rfl rfl (Zb (fo := 3) rfl Try.underlying80 rfl i_4 rfl rfl rfl) ?_
 refine Za rfl rfl rfl rfl (Zj rfl rfl (List.mem_append_right _ (Zf 0 rfl)) rfl Try.underlying4 rfl) ?_
 refine Za rfl rfl rfl rfl (Zc rfl rfl) ?_
 refine G_split 19 rfl (fun hc1 => ?_) (fun hc1 => ?_)
 ·
  refine Yb rfl rfl rfl rfl ?_
  refine Yb rfl rfl rfl rfl ?_
  refine Yb rfl rfl rfl rfl ?_
  refine Yb rfl rfl rfl rfl ?_
  refine Yb rfl rfl rfl rfl ?_
  refine Za rfl rfl rfl rfl (Yz rfl rfl rfl) ?_
  refine Za rfl rfl rfl rfl (Ze rfl rfl) ?_
  refine Za rfl rfl rfl rfl (Zb (fo := 3) rfl Try.underlying80 rfl i_4 rfl rfl rfl) ?_
  refine Yj (l1 := []) (L' := [_, _]) rfl rfl rfl rfl (Zm rfl rfl rfl (Zf 0 rfl) (by first | exact of_decide_eq_true rfl | omega | (simp [cOp, cWk, cIv, cHr, cLt, cWt, cIt, cFl, cTn, cCl, cPo]; done) | (simp [cOp, cWk, cIv, cHr, cLt, cWt, cIt, cFl, cTn, cCl, cPo]; omega) | (simp [cOp, cWk, cIv, cHr, cLt, cWt, cIt, cFl, cTn, cCl, cPo] at *; omega)) i_4 rfl rfl) rfl ?_
  refine Zg ?_
  refine Zh ?_
  refine Yf (Lq := []) (isq := []) (m := 10) Yo rfl rfl ?_
  refine Zi 0 rfl rfl rfl rfl (by kernel_rfl) (fun _ _ => Zc rfl rfl) ?_
  refine Zi 1 rfl rfl rfl rfl (by kernel_rfl) (fun _ _ => Ze rfl rfl) ?_
  refine Zi 2 rfl rfl rfl rfl (by kernel_rfl) (fun _ _ => Zb (fo := 0) rfl Try.underlying80 rfl i_78 rfl rfl rfl) ?_
  refine Zi 3 rfl rfl rfl rfl (by kernel_rfl) (fun _ _ => Zc rfl rfl) ?_
  refine Zi 4 rfl rfl rfl rfl (by kernel_rfl) (fun _ _ => Ze rfl rfl) ?_
  refine Zi 5 rfl rfl rfl rfl (by kernel_rfl) (fun _ _ => Zj rfl rfl (List.mem_append_left _ (Zf 0 rfl)) (Zt hk) Try.underlying27 rfl) ?_
  refine Zi 6 rfl rfl rfl rfl (by kernel_rfl) (fun _ _ => Yp rfl rfl Try.underlying27 rfl) ?_
  refine Zi 7 rfl rfl rfl rfl (by kernel_rfl) (fun _ _ => (Xt rfl rfl Try.underlying3 Try.underlying23).int (Xm (by omega))) ?_
  refine GH_all [8] (by kernel_rfl) (by decide) ?_
  refine (And.intro ?_ trivial)
  ·
   refine Xy (L2 := [_, _]) rfl rfl rfl rfl rfl rfl Try.call80 (Xv _ (by omega) (by omega)) [] rfl Xh [] (by rintro v post ⟨rfl, rfl⟩; exact ⟨_, rfl⟩) ?_
   rintro v post ⟨rfl, rfl⟩
   show GH _ _ _ _ _ _ _ [_, _] _
   refine GH_all [9] (by kernel_rfl) (by decide) ?_
   refine (And.intro ?_ trivial)
   ·
    refine Xy (L2 := []) rfl rfl rfl rfl rfl rfl Try.call79 (Xl _ _ _ _ _ _ _ hp hu (by omega)) [0, 0] rfl Xh [] (by rintro v post ⟨rfl, u1, hu1, rfl⟩; exact ⟨_, rfl⟩) ?_
    rintro v post ⟨rfl, u1, hu1, rfl⟩
    show GH _ _ _ _ _ _ _ [_, _] _
    refine Ya (by kernel_rfl) ?_
    refine Zh ?_
    refine Zh ?_
    refine Zd (l := [0, 1, 2, 3, 4]) rfl ?_
    refine Za rfl rfl rfl rfl (Zc rfl rfl) ?_
    refine Za rfl rfl rfl rfl (Ze rfl rfl) ?_
    refine Za rfl rfl rfl rfl (Zj rfl rfl (List.mem_append_left _ (Zf 0 rfl)) (Zt hk) Try.underlying27 rfl) ?_
    refine Za rfl rfl rfl rfl (Yp rfl rfl Try.underlying27 rfl) ?_
    refine Za rfl rfl rfl rfl (Zc rfl rfl) ?_
    refine Zg ?_
    refine Zs ?_
    refine Yi ?he4 [0, 0] ?hl4 (Xb (X := Nat × Value × Sl × List UInt8 × Bool) (fun x_ => match x_ with | ⟨i, p, u, t, v⟩ => i ≤ s.l.length ∧ UsedOr b p ∧ Txt u t ∧ t = tx ++ (chainI (s.l.length : Int) ++ (s.l.take i).flatMap encPo) ∧ v = (w || (decide (1000 < (s.l.length : Int)) || (s.l.take i).any badPo))) (fun x_ => match x_ with | ⟨i, p, u, t, v⟩ => s.l.length - i) (fun x_ => match x_ with | ⟨i, p, u, t, v⟩ => [(0, .pointer (some ⟨b, 0, none⟩)), (1, .pointer (some ⟨bx, k, none⟩)), (2, .func (.func 104) #[.pointer (some ⟨b, 0, none⟩)] #[]), (41, .int .i64 (s.l.length : Int)), (42, .int .i64 (i : Int))]) (fun x_ => match x_ with | ⟨i, p, u, t, v⟩ => [(some b, .cells #[p, u.v (t).length, .pointer none, .bool v] 80 (0, 0)), (u.ob, .cells u.cs 5 u.fz)]) ?round4 (0, .pointer (some ⟨b, 0, none⟩), u1, tx ++ chainI (s.l.length : Int), true) ?h04)
    case he4 => exact (And.intro rfl (And.intro rfl (And.intro rfl (And.intro rfl (And.intro rfl trivial)))))
    case hl4 => exact ⟨_, rfl⟩
    case h04 => exact ⟨Nat.zero_le _, .inr rfl, hu1, by simp, by simp [*]⟩
    case round4 =>
     intro x_ hJ ih
     try dsimp only at hJ ih
     obtain ⟨i, p, u, t, v⟩ := x_
     try dsimp only at hJ ih
     obtain ⟨hi, hp, hu, ht, hv⟩ := hJ
     show G _ _ [(0, .pointer (some ⟨b, 0, none⟩)), (1, .pointer (some ⟨bx, k, none⟩)), (2, .func (.func 104) #[.pointer (some ⟨b, 0, none⟩)] #[]), (41, .int .i64 (s.l.length : Int)), (42, .int .i64 (i : Int))] [(some b, .cells #[p, u.v (t).length, .pointer none, .bool v] 80 (0, 0)), (u.ob, .cells u.cs 5 u.fz)] _
     refine Zh ?_
     refine Zd (l := [0]) rfl ?_
     refine Za rfl rfl rfl rfl (Xn rfl rfl rfl) ?_
     refine Zg ?_
     refine Zh ?_
     refine Yk rfl (fun hc2 => ?_) (fun hc2 => ?_)
     ·
      refine Zu ?_
      refine Zh ?_
      refine Zs ?_
      refine Zh ?_
      refine Zd (l := [0, 1]) rfl ?_
      refine Za rfl rfl rfl rfl (Zc rfl rfl) ?_
      refine Za rfl rfl rfl rfl (Zk rfl rfl) ?_
      refine Zg ?_
      refine Zh ?_
      obtain ⟨x, hx⟩ := getI (show i < s.l.length by omega)
      obtain ⟨bi, hb1, hb2, hss⟩ := hs.isS (i := i) (by omega)
      have hxo := hok x (List.mem_of_getElem? hx)
      have hfl := fmap_len encPo s.l (i + 1)
      rw [← Yx encPo hx, List.length_append] at hfl
      have htl := congrArg List.length ht
      simp only [List.length_append] at htl
      refine Zd (l := [0, 1, 2, 3, 4, 5, 6, 7]) rfl ?_
      refine Za rfl rfl rfl rfl (Zc rfl rfl) ?_
      refine Za rfl rfl rfl rfl (Ze rfl rfl) ?_
      refine Za rfl rfl rfl rfl (Zj rfl rfl (List.mem_append_left _ (Zf 0 rfl)) (Zt hk) Try.underlying27 rfl) ?_
      rw [hb1]
      refine Za rfl rfl rfl rfl (Zc rfl rfl) ?_
      refine Za rfl rfl rfl rfl (Zo (s := 5) rfl Try.underlying27 i_103 rfl rfl rfl rfl (by omega)) ?_
      refine Za rfl rfl rfl rfl (Xp (s := 5) (vs := (cPo x).toArray) rfl rfl (by rw [← hb2]; exact Zf 1 rfl) Try.underlying103 rfl i_103 rfl (hss.elem cPo_len hx) (by rfl)) ?_
      refine Yw rfl rfl rfl rfl (Ym rfl i_103 rfl) (fun b7 => ?_)
      refine Yj (l1 := []) (L' := [_, _, _]) rfl rfl rfl rfl (Yv (s := 5) rfl rfl rfl (Zf 0 rfl) (by rfl) i_103 rfl (by rfl) (by simp [Value.oneCell', cOp, cWk, cIv, cHr, cLt, cWt, cIt, cFl, cTn, cCl, cPo])) rfl ?_
      refine Zg ?_
      refine Zd (l := [0, 1]) rfl ?_
      refine Za rfl rfl rfl rfl (Zc rfl rfl) ?_
      refine G_callMB (L2 := [_]) rfl rfl rfl rfl rfl rfl Try.call104 rfl (cw_pool b _ _ _ _ hp hu _ x _ _ hxo (by omega)) [1, 1] rfl (sub_el (A1 := [_, _]) (K := kPo) hx (List.mem_append_right _ (Zf 0 rfl))) ?_
      rintro v post ⟨rfl, p1, u1, hp1, hu1, rfl⟩
      show G _ _ _ [_, _, _] _
      refine Zg ?_
      refine Zv ?_
      refine Zd (l := [0, 1]) rfl ?_
      refine Za rfl rfl rfl rfl ((Xe rfl rfl rfl).int (Zw (by omega))) ?_
      refine Za rfl rfl rfl rfl (Zc rfl rfl) ?_
      refine Zg ?_
      refine Yi ?_ [0, 0] ?_ (ih (i + 1, p1, u1, t ++ encPo x, v || badPo x) ?_ ?_)
      · (refine (And.intro ?_ (And.intro ?_ (And.intro ?_ (And.intro ?_ (And.intro ?_ trivial))))) <;> first | rfl | exact Zl (by omega) | exact Zl (by simp))
      · exact ⟨_, rfl⟩
      · exact ⟨by omega, hp1, hu1, by rw [← Yx encPo hx, ht]; simp only [List.append_assoc], by rw [hv, ← anyt_next hx]; simp only [Bool.or_assoc]⟩
      · (first | omega | (dsimp only; omega))
     refine Yr rfl ?_
     refine Yy (post := [_, _]) Try.func103 rfl Zp [0, 0] rfl ?_
     dsimp only [packed]
     have e : s.l.take i = s.l := List.take_of_length_le (by omega)
     rw [e] at ht hv
     subst ht hv
     exact ⟨rfl, p, u, hp, hu, rfl⟩
 refine Za rfl rfl rfl rfl (Zc rfl rfl) ?_
 refine Za rfl rfl rfl rfl (Ze rfl rfl) ?_
 refine Za rfl rfl rfl rfl (Zj rfl rfl (List.mem_append_left _ (Zf 0 rfl)) (Zt hk) Try.underlying27 rfl) ?_
 refine Za rfl rfl rfl rfl (Yp rfl rfl Try.underlying27 rfl) ?_
 refine Za rfl rfl rfl rfl (V_gtr rfl rfl rfl) ?_
 refine Za rfl rfl rfl rfl (Xg rfl rfl rfl) ?_
 refine Za rfl rfl rfl rfl (Ze rfl rfl) ?_
 refine Za rfl rfl rfl rfl (Zb (fo := 3) rfl Try.underlying80 rfl i_4 rfl rfl rfl) ?_
 refine Yj (l1 := []) (L' := [_, _]) rfl rfl rfl rfl (Zm rfl rfl rfl (Zf 0 rfl) (by first | exact of_decide_eq_true rfl | omega | (simp [cOp, cWk, cIv, cHr, cLt, cWt, cIt, cFl, cTn, cCl, cPo]; done) | (simp [cOp, cWk, cIv, cHr, cLt, cWt, cIt, cFl, cTn, cCl, cPo]; omega) | (simp [cOp, cWk, cIv, cHr, cLt, cWt, cIt, cFl, cTn, cCl, cPo] at *; omega)) i_4 rfl rfl) rfl ?_
 refine Zg ?_
 refine Zh ?_
 refine Yf (Lq := []) (isq := []) (m := 10) Yo rfl rfl ?_
 refine Zi 0 rfl rfl rfl rfl (by kernel_rfl) (fun _ _ => Zc rfl rfl) ?_
 refine Zi 1 rfl rfl rfl rfl (by kernel_rfl) (fun _ _ => Ze rfl rfl) ?_
 refine Zi 2 rfl rfl rfl rfl (by kernel_rfl) (fun _ _ => Zb (fo := 0) rfl Try.underlying80 rfl i_78 rfl rfl rfl) ?_
 refine Zi 3 rfl rfl rfl rfl (by kernel_rfl) (fun _ _ => Zc rfl rfl) ?_
 refine Zi 4 rfl rfl rfl rfl (by kernel_rfl) (fun _ _ => Ze rfl rfl) ?_
 refine Zi 5 rfl rfl rfl rfl (by kernel_rfl) (fun _ _ => Zj rfl rfl (List.mem_append_left _ (Zf 0 rfl)) (Zt hk) Try.underlying27 rfl) ?_
 refine Zi 6 rfl rfl rfl rfl (by kernel_rfl) (fun _ _ => Yp rfl rfl Try.underlying27 rfl) ?_
 refine Zi 7 rfl rfl rfl rfl (by kernel_rfl) (fun _ _ => (Xt rfl rfl Try.underlying3 Try.underlying23).int (Xm (by omega))) ?_
 refine GH_all [8] (by kernel_rfl) (by decide) ?_
 refine (And.intro ?_ trivial)
 ·
  refine Xy (L2 := [_, _]) rfl rfl rfl rfl rfl rfl Try.call80 (Xv _ (by omega) (by omega)) [] rfl Xh [] (by rintro v post ⟨rfl, rfl⟩; exact ⟨_, rfl⟩) ?_
  rintro v post ⟨rfl, rfl⟩
  show GH _ _ _ _ _ _ _ [_, _] _
  refine GH_all [9] (by kernel_rfl) (by decide) ?_
  refine (And.intro ?_ trivial)
  ·
   refine Xy (L2 := []) rfl rfl rfl rfl rfl rfl Try.call79 (Xl _ _ _ _ _ _ _ hp hu (by omega)) [0, 0] rfl Xh [] (by rintro v post ⟨rfl, u1, hu1, rfl⟩; exact ⟨_, rfl⟩) ?_
   rintro v post ⟨rfl, u1, hu1, rfl⟩
   show GH _ _ _ _ _ _ _ [_, _] _
   refine Ya (by kernel_rfl) ?_
   refine Zh ?_
   refine Zh ?_
   refine Zd (l := [0, 1, 2, 3, 4]) rfl ?_
   refine Za rfl rfl rfl rfl (Zc rfl rfl) ?_
   refine Za rfl rfl rfl rfl (Ze rfl rfl) ?_
   refine Za rfl rfl rfl rfl (Zj rfl rfl (List.mem_append_left _ (Zf 0 rfl)) (Zt hk) Try.underlying27 rfl) ?_
   refine Za rfl rfl rfl rfl (Yp rfl rfl Try.underlying27 rfl) ?_
   refine Za rfl rfl rfl rfl (Zc rfl rfl) ?_
   refine Zg ?_
   refine Zs ?_
   refine Yi ?he4 [0, 0] ?hl4 (Xb (X := Nat × Value × Sl × List UInt8 × Bool) (fun x_ => match x_ with | ⟨i, p, u, t, v⟩ => i ≤ s.l.length ∧ UsedOr b p ∧ Txt u t ∧ t = tx ++ (chainI (s.l.length : Int) ++ (s.l.take i).flatMap encPo) ∧ v = (w || (decide (1000 < (s.l.length : Int)) || (s.l.take i).any badPo))) (fun x_ => match x_ with | ⟨i, p, u, t, v⟩ => s.l.length - i) (fun x_ => match x_ with | ⟨i, p, u, t, v⟩ => [(0, .pointer (some ⟨b, 0, none⟩)), (1, .pointer (some ⟨bx, k, none⟩)), (2, .func (.func 104) #[.pointer (some ⟨b, 0, none⟩)] #[]), (41, .int .i64 (s.l.length : Int)), (42, .int .i64 (i : Int))]) (fun x_ => match x_ with | ⟨i, p, u, t, v⟩ => [(some b, .cells #[p, u.v (t).length, .pointer none, .bool v] 80 (0, 0)), (u.ob, .cells u.cs 5 u.fz)]) ?round4 (0, .pointer (some ⟨b, 0, none⟩), u1, tx ++ chainI (s.l.length : Int), (decide (1000 < (s.l.length : Int)))) ?h04)
   case he4 => exact (And.intro rfl (And.intro rfl (And.intro rfl (And.intro rfl (And.intro rfl trivial)))))
   case hl4 => exact ⟨_, rfl⟩
   case h04 => exact ⟨Nat.zero_le _, .inr rfl, hu1, by simp, by simp [*]⟩
   case round4 =>
    intro x_ hJ ih
    try dsimp only at hJ ih
    obtain ⟨i, p, u, t, v⟩ := x_
    try dsimp only at hJ ih
    obtain ⟨hi, hp, hu, ht, hv⟩ := hJ
    show G _ _ [(0, .pointer (some ⟨b, 0, none⟩)), (1, .pointer (some ⟨bx, k, none⟩)), (2, .func (.func 104) #[.pointer (some ⟨b, 0, none⟩)] #[]), (41, .int .i64 (s.l.length : Int)), (42, .int .i64 (i : Int))] [(some b, .cells #[p, u.v (t).length, .pointer none, .bool v] 80 (0, 0)), (u.ob, .cells u.cs 5 u.fz)] _
    refine Zh ?_
    refine Zd (l := [0]) rfl ?_
    refine Za rfl rfl rfl rfl (Xn rfl rfl rfl) ?_
    refine Zg ?_
    refine Zh ?_
    refine Yk rfl (fun hc2 => ?_) (fun hc2 => ?_)
    ·
     refine Zu ?_
     refine Zh ?_
     refine Zs ?_
     refine Zh ?_
     refine Zd (l := [0, 1]) rfl ?_
     refine Za rfl rfl rfl rfl (Zc rfl rfl) ?_
     refine Za rfl rfl rfl rfl (Zk rfl rfl) ?_
     refine Zg ?_
     refine Zh ?_
     obtain ⟨x, hx⟩ := getI (show i < s.l.length by omega)
     obtain ⟨bi, hb1, hb2, hss⟩ := hs.isS (i := i) (by omega)
     have hxo := hok x (List.mem_of_getElem? hx)
     have hfl := fmap_len encPo s.l (i + 1)
     rw [← Yx encPo hx, List.length_append] at hfl
     have htl := congrArg List.length ht
     simp only [List.length_append] at htl
     refine Zd (l := [0, 1, 2, 3, 4, 5, 6, 7]) rfl ?_
     refine Za rfl rfl rfl rfl (Zc rfl rfl) ?_
     refine Za rfl rfl rfl rfl (Ze rfl rfl) ?_
     refine Za rfl rfl rfl rfl (Zj rfl rfl (List.mem_append_left _ (Zf 0 rfl)) (Zt hk) Try.underlying27 rfl) ?_
     rw [hb1]
     refine Za rfl rfl rfl rfl (Zc rfl rfl) ?_
     refine Za rfl rfl rfl rfl (Zo (s := 5) rfl Try.underlying27 i_103 rfl rfl rfl rfl (by omega)) ?_
     refine Za rfl rfl rfl rfl (Xp (s := 5) (vs := (cPo x).toArray) rfl rfl (by rw [← hb2]; exact Zf 1 rfl) Try.underlying103 rfl i_103 rfl (hss.elem cPo_len hx) (by rfl)) ?_
     refine Yw rfl rfl rfl rfl (Ym rfl i_103 rfl) (fun b7 => ?_)
     refine Yj (l1 := []) (L' := [_, _, _]) rfl rfl rfl rfl (Yv (s := 5) rfl rfl rfl (Zf 0 rfl) (by rfl) i_103 rfl (by rfl) (by simp [Value.oneCell', cOp, cWk, cIv, cHr, cLt, cWt, cIt, cFl, cTn, cCl, cPo])) rfl ?_
     refine Zg ?_
     refine Zd (l := [0, 1]) rfl ?_
     refine Za rfl rfl rfl rfl (Zc rfl rfl) ?_
     refine G_callMB (L2 := [_]) rfl rfl rfl rfl rfl rfl Try.call104 rfl (cw_pool b _ _ _ _ hp hu _ x _ _ hxo (by omega)) [1, 1] rfl (sub_el (A1 := [_, _]) (K := kPo) hx (List.mem_append_right _ (Zf 0 rfl))) ?_
     rintro v post ⟨rfl, p1, u1, hp1, hu1, rfl⟩
     show G _ _ _ [_, _, _] _
     refine Zg ?_
     refine Zv ?_
     refine Zd (l := [0, 1]) rfl ?_
     refine Za rfl rfl rfl rfl ((Xe rfl rfl rfl).int (Zw (by omega))) ?_
     refine Za rfl rfl rfl rfl (Zc rfl rfl) ?_
     refine Zg ?_
     refine Yi ?_ [0, 0] ?_ (ih (i + 1, p1, u1, t ++ encPo x, v || badPo x) ?_ ?_)
     · (refine (And.intro ?_ (And.intro ?_ (And.intro ?_ (And.intro ?_ (And.intro ?_ trivial))))) <;> first | rfl | exact Zl (by omega) | exact Zl (by simp))
     · exact ⟨_, rfl⟩
     · exact ⟨by omega, hp1, hu1, by rw [← Yx encPo hx, ht]; simp only [List.append_assoc], by rw [hv, ← anyt_next hx]; simp only [Bool.or_assoc]⟩
     · (first | omega | (dsimp only; omega))
    refine Yr rfl ?_
    refine Yy (post := [_, _]) Try.func103 rfl Zp [0, 0] rfl ?_
    dsimp only [packed]
    have e : s.l.take i = s.l := List.take_of_length_le (by omega)
    rw [e] at ht hv
    subst ht hv
    exact ⟨rfl, p, u, hp, hu, rfl⟩


/-- All that there is, as the program has it. -/
structure St where
  v0 : Nat
  g : Bool
  v2 : Int
  v3 : Int
  v4 : Int
  v5 : Int
  v6 : Int
  li : Ins Op
  en : Ins Op
  wo : Ins Wk
  iv : Ins Iv
  po : Ins Po
  hi : Ins Hr
  le : Ins Lt
  wa : Ins Wt
def cSt (x : St) : List Value := [.int .u64 (x.v0 : Int), .bool x.g, .int .i64 x.v2, .int .i64 x.v3, .int .i64 x.v4, .int .i64 x.v5, .int .i64 x.v6, .slice x.li.p x.li.l.length x.li.cap, .slice x.en.p x.en.l.length x.en.cap, .slice x.wo.p x.wo.l.length x.wo.cap, .slice x.iv.p x.iv.l.length x.iv.cap, .slice x.po.p x.po.l.length x.po.cap, .slice x.hi.p x.hi.l.length x.hi.cap, .slice x.le.p x.le.l.length x.le.cap, .slice x.wa.p x.wa.l.length x.wa.cap]
def encSt (x : St) : List UInt8 := chainI (x.v0 : Int) ++ (encB x.g ++ (encIs [x.v2, x.v3, x.v4, x.v5, x.v6] ++ (encL encOp x.li.l ++ (encL encOp x.en.l ++ (encL encWk x.wo.l ++ (encL encIv x.iv.l ++ (encL encPo x.po.l ++ (encL encHr x.hi.l ++ (encL encLt x.le.l ++ (encL encWt x.wa.l))))))))))
def badSt (x : St) : Bool := [x.v2, x.v3, x.v4, x.v5, x.v6].any badI || (badL badOp x.li.l || (badL badOp x.en.l || (badL badWk x.wo.l || (badL badIv x.iv.l || (badL badPo x.po.l || (badL badHr x.hi.l || (badL badLt x.le.l || (badL badWt x.wa.l))))))))
structure OkSt (x : St) : Prop where
  v0 : x.v0 < 18446744073709551616
  li : InsOk 18 cOp x.li
  li2 : ∀ y ∈ x.li.l, OkOp y
  en : InsOk 18 cOp x.en
  en2 : ∀ y ∈ x.en.l, OkOp y
  wo : InsOk 7 cWk x.wo
  wo2 : ∀ y ∈ x.wo.l, OkWk y
  iv : InsOk 5 cIv x.iv
  iv2 : ∀ y ∈ x.iv.l, OkIv y
  po : InsOk 5 cPo x.po
  po2 : ∀ y ∈ x.po.l, OkPo y
  hi : InsOk 17 cHr x.hi
  hi2 : ∀ y ∈ x.hi.l, OkHr y
  le : InsOk 6 cLt x.le
  le2 : ∀ y ∈ x.le.l, OkLt y
  wa : InsOk 2 cWt x.wa
  wa2 : ∀ y ∈ x.wa.l, OkWt y
def kSt (x : St) : List HBk := insK x.li :: insK x.en :: insK x.wo :: insK x.iv :: insK x.po :: insK x.hi :: insK x.le :: insK x.wa :: x.po.l.flatMap kPo
theorem sub_po {A0 A1 A2 L tl : List HBk} {a b : HBk} (ha : a ∈ (A0 ++ tl) ++ L) (hb : b ∈ (A0 ++ tl) ++ L) : ∀ z ∈ a :: b :: tl, z ∈ (A0 ++ tl) ++ L :=
  sub_two ha hb (fun _ hz => List.mem_append_left _ (List.mem_append_right _ hz))

set_option maxRecDepth 100000 in
set_option maxHeartbeats 4000000 in
theorem cw_state (b : Nat) (p : Value) (u : Sl) (tx : List UInt8) (w : Bool) (hp : UsedOr b p) (hu : Txt u tx) (bx : Nat) (x : St) (T : TypeId) (fz : Nat × Nat) (hx : OkSt x) (hl : tx.length + (encSt x).length ≤ 140737488350000) :
    Ct Try.prog 34 [.pointer (some ⟨b, 0, none⟩), .pointer (some ⟨bx, 0, none⟩)] ((some bx, .cells (cSt x).toArray T fz) :: insK x.li :: insK x.en :: insK x.wo :: insK x.iv :: insK x.po :: insK x.hi :: insK x.le :: insK x.wa :: x.po.l.flatMap kPo) [(some b, .cells #[p, u.v (tx).length, .pointer none, .bool w] 80 (0, 0)), (u.ob, .cells u.cs 5 u.fz)] fun v post => v = .tuple #[] ∧ ∃ p1 u1, UsedOr b p1 ∧ Txt u1 (tx ++ encSt x) ∧ post = [(some b, .cells #[p1, u1.v (tx ++ encSt x).length, .pointer none, .bool (w || badSt x)] 80 (0, 0)), (u1.ob, .cells u1.cs 5 u1.fz)] := by
 have hl_ := hl
 unfold encSt at hl_
 simp only [List.length_append] at hl_
 refine Yu Try.func34 rfl rfl (fun w0 => ?_)
 show G _ _ [(0, _), (1, _)] _ _
 refine Zh ?_
 refine Zd (l := [0, 1, 2, 3, 4]) rfl ?_
 refine Za rfl rfl rfl rfl (Zc rfl rfl) ?_
 refine Za rfl rfl rfl rfl (Zc rfl rfl) ?_
 refine Za rfl rfl rfl rfl (Ze rfl rfl) ?_
 refine Za rfl rfl rfl rfl (Zb (fo := 0) rfl Try.underlying32 rfl i_23 rfl rfl rfl) ?_
 refine Xx (L2 := []) rfl rfl rfl rfl rfl rfl Try.call94 (cw_num b _ _ _ _ hp hu bx 0 (cSt x).toArray T fz x.v0 hx.v0 rfl (by (try simp only [List.map_cons, List.map_nil, List.length_append]); omega)) [0, 0] rfl (Ys (List.mem_append_left _ (Zf 0 rfl)) Xh) ?_
 rintro v post ⟨rfl, p1, u1, hp1, hu1, rfl⟩
 show G _ _ _ [_, _] _
 refine Zg ?_
 refine Zh ?_
 refine Zd (l := [0, 1, 2, 3, 4]) rfl ?_
 refine Za rfl rfl rfl rfl (Zc rfl rfl) ?_
 refine Za rfl rfl rfl rfl (Zc rfl rfl) ?_
 refine Za rfl rfl rfl rfl (Ze rfl rfl) ?_
 refine Za rfl rfl rfl rfl (Zb (fo := 1) rfl Try.underlying32 rfl i_4 rfl rfl rfl) ?_
 refine Xx (L2 := []) rfl rfl rfl rfl rfl rfl Try.call95 (cw_flag b _ _ _ _ hp1 hu1 bx 1 (cSt x).toArray T fz x.g rfl (by (try simp only [List.map_cons, List.map_nil, List.length_append]); omega)) [0, 0] rfl (Ys (List.mem_append_left _ (Zf 0 rfl)) Xh) ?_
 rintro v post ⟨rfl, p1, u1, hp1, hu1, rfl⟩
 show G _ _ _ [_, _] _
 refine Zg ?_
 refine Zh ?_
 refine Yf (Lq := []) (isq := []) (m := 18) Yo rfl rfl ?_
 refine Zi 0 rfl rfl rfl rfl (by kernel_rfl) (fun _ _ => Zc rfl rfl) ?_
 refine Zi 1 rfl rfl rfl rfl (by kernel_rfl) (fun _ _ => Zc rfl rfl) ?_
 refine Zi 2 rfl rfl rfl rfl (by kernel_rfl) (fun _ _ => Ze rfl rfl) ?_
 refine Zi 3 rfl rfl rfl rfl (by kernel_rfl) (fun _ _ => Zb (fo := 2) rfl Try.underlying32 rfl i_3 rfl rfl rfl) ?_
 refine Zi 4 rfl rfl rfl rfl (by kernel_rfl) (fun _ _ => Zc rfl rfl) ?_
 refine Zi 5 rfl rfl rfl rfl (by kernel_rfl) (fun _ _ => Ze rfl rfl) ?_
 refine Zi 6 rfl rfl rfl rfl (by kernel_rfl) (fun _ _ => Zb (fo := 3) rfl Try.underlying32 rfl i_3 rfl rfl rfl) ?_
 refine Zi 7 rfl rfl rfl rfl (by kernel_rfl) (fun _ _ => Zc rfl rfl) ?_
 refine Zi 8 rfl rfl rfl rfl (by kernel_rfl) (fun _ _ => Ze rfl rfl) ?_
 refine Zi 9 rfl rfl rfl rfl (by kernel_rfl) (fun _ _ => Zb (fo := 4) rfl Try.underlying32 rfl i_3 rfl rfl rfl) ?_
 refine Zi 10 rfl rfl rfl rfl (by kernel_rfl) (fun _ _ => Zc rfl rfl) ?_
 refine Zi 11 rfl rfl rfl rfl (by kernel_rfl) (fun _ _ => Ze rfl rfl) ?_
 refine Zi 12 rfl rfl rfl rfl (by kernel_rfl) (fun _ _ => Zb (fo := 5) rfl Try.underlying32 rfl i_3 rfl rfl rfl) ?_
 refine Zi 13 rfl rfl rfl rfl (by kernel_rfl) (fun _ _ => Zc rfl rfl) ?_
 refine Zi 14 rfl rfl rfl rfl (by kernel_rfl) (fun _ _ => Ze rfl rfl) ?_
 refine Zi 15 rfl rfl rfl rfl (by kernel_rfl) (fun _ _ => Zb (fo := 6) rfl Try.underlying32 rfl i_3 rfl rfl rfl) ?_
 refine GH_all [16] (by kernel_rfl) (by decide) ?_
 refine (And.intro ?_ trivial)
 ·
  refine Yl rfl rfl rfl rfl (Zn (s := 1) (cs := [_, _, _, _, _]) rfl Try.underlying241 i_176 rfl rfl rfl rfl rfl rfl rfl rfl rfl) [] (fun _ => ⟨_, rfl⟩) (fun b30 => ?_)
  refine GH_all [17] (by kernel_rfl) (by decide) ?_
  refine (And.intro ?_ trivial)
  ·
   refine Xy (L2 := [_]) rfl rfl rfl rfl rfl rfl Try.call96 (cw_intsL b _ _ _ _ hp1 hu1 _ _ bx (cSt x).toArray T fz [(2, x.v2), (3, x.v3), (4, x.v4), (5, x.v5), (6, x.v6)] (by simp) ⟨rfl, rfl, rfl, rfl, rfl, trivial⟩ (by (try simp only [List.map_cons, List.map_nil, List.length_append]); omega)) [1, 1] rfl (Ys (List.mem_append_right _ (Zf 0 rfl)) (Ys (List.mem_append_left _ (Zf 0 rfl)) Xh)) [] (by rintro v post ⟨rfl, p1, u1, hp1, hu1, rfl⟩; exact ⟨_, rfl⟩) ?_
   rintro v post ⟨rfl, p1, u1, hp1, hu1, rfl⟩
   show GH _ _ _ _ _ _ _ [_, _, _] _
   refine Ya (by kernel_rfl) ?_
   refine Zh ?_
   refine Zd (l := [0, 1, 2, 3, 4, 5, 6]) rfl ?_
   refine Za rfl rfl rfl rfl (Zc rfl rfl) ?_
   refine Za rfl rfl rfl rfl (Zc rfl rfl) ?_
   refine Za rfl rfl rfl rfl (Ze rfl rfl) ?_
   refine Za rfl rfl rfl rfl (Zb (fo := 7) rfl Try.underlying32 rfl i_24 rfl rfl rfl) ?_
   refine Za rfl rfl rfl rfl (Zc rfl rfl) ?_
   refine Za rfl rfl rfl rfl (V_func rfl rfl rfl) ?_
   refine Xx (L2 := [_]) rfl rfl rfl rfl rfl rfl Try.call97 (cw_listOp b _ _ _ _ hp1 hu1 bx 7 (cSt x).toArray T fz x.li hx.li hx.li2 rfl (by (try simp only [List.map_cons, List.map_nil, List.length_append]); omega)) [0, 0] rfl (Ys (List.mem_append_left _ (Zf 0 rfl)) (Ys (List.mem_append_left _ (Zf 1 rfl)) Xh)) ?_
   rintro v post ⟨rfl, p1, u1, hp1, hu1, rfl⟩
   show G _ _ _ [_, _, _] _
   refine Zg ?_
   refine Zh ?_
   refine Zd (l := [0, 1, 2, 3, 4, 5, 6]) rfl ?_
   refine Za rfl rfl rfl rfl (Zc rfl rfl) ?_
   refine Za rfl rfl rfl rfl (Zc rfl rfl) ?_
   refine Za rfl rfl rfl rfl (Ze rfl rfl) ?_
   refine Za rfl rfl rfl rfl (Zb (fo := 8) rfl Try.underlying32 rfl i_24 rfl rfl rfl) ?_
   refine Za rfl rfl rfl rfl (Zc rfl rfl) ?_
   refine Za rfl rfl rfl rfl (V_func rfl rfl rfl) ?_
   refine Xx (L2 := [_]) rfl rfl rfl rfl rfl rfl Try.call97 (cw_listOp b _ _ _ _ hp1 hu1 bx 8 (cSt x).toArray T fz x.en hx.en hx.en2 rfl (by (try simp only [List.map_cons, List.map_nil, List.length_append]); omega)) [0, 0] rfl (Ys (List.mem_append_left _ (Zf 0 rfl)) (Ys (List.mem_append_left _ (Zf 2 rfl)) Xh)) ?_
   rintro v post ⟨rfl, p1, u1, hp1, hu1, rfl⟩
   show G _ _ _ [_, _, _] _
   refine Zg ?_
   refine Zh ?_
   refine Zd (l := [0, 1, 2, 3, 4, 5, 6]) rfl ?_
   refine Za rfl rfl rfl rfl (Zc rfl rfl) ?_
   refine Za rfl rfl rfl rfl (Zc rfl rfl) ?_
   refine Za rfl rfl rfl rfl (Ze rfl rfl) ?_
   refine Za rfl rfl rfl rfl (Zb (fo := 9) rfl Try.underlying32 rfl i_25 rfl rfl rfl) ?_
   refine Za rfl rfl rfl rfl (Zc rfl rfl) ?_
   refine Za rfl rfl rfl rfl (V_func rfl rfl rfl) ?_
   refine Xx (L2 := [_]) rfl rfl rfl rfl rfl rfl Try.call99 (cw_listWk b _ _ _ _ hp1 hu1 bx 9 (cSt x).toArray T fz x.wo hx.wo hx.wo2 rfl (by (try simp only [List.map_cons, List.map_nil, List.length_append]); omega)) [0, 0] rfl (Ys (List.mem_append_left _ (Zf 0 rfl)) (Ys (List.mem_append_left _ (Zf 3 rfl)) Xh)) ?_
   rintro v post ⟨rfl, p1, u1, hp1, hu1, rfl⟩
   show G _ _ _ [_, _, _] _
   refine Zg ?_
   refine Zh ?_
   refine Zd (l := [0, 1, 2, 3, 4, 5, 6]) rfl ?_
   refine Za rfl rfl rfl rfl (Zc rfl rfl) ?_
   refine Za rfl rfl rfl rfl (Zc rfl rfl) ?_
   refine Za rfl rfl rfl rfl (Ze rfl rfl) ?_
   refine Za rfl rfl rfl rfl (Zb (fo := 10) rfl Try.underlying32 rfl i_26 rfl rfl rfl) ?_
   refine Za rfl rfl rfl rfl (Zc rfl rfl) ?_
   refine Za rfl rfl rfl rfl (V_func rfl rfl rfl) ?_
   refine Xx (L2 := [_]) rfl rfl rfl rfl rfl rfl Try.call101 (cw_listIv b _ _ _ _ hp1 hu1 bx 10 (cSt x).toArray T fz x.iv hx.iv hx.iv2 rfl (by (try simp only [List.map_cons, List.map_nil, List.length_append]); omega)) [0, 0] rfl (Ys (List.mem_append_left _ (Zf 0 rfl)) (Ys (List.mem_append_left _ (Zf 4 rfl)) Xh)) ?_
   rintro v post ⟨rfl, p1, u1, hp1, hu1, rfl⟩
   show G _ _ _ [_, _, _] _
   refine Zg ?_
   refine Zh ?_
   refine Zd (l := [0, 1, 2, 3, 4, 5, 6]) rfl ?_
   refine Za rfl rfl rfl rfl (Zc rfl rfl) ?_
   refine Za rfl rfl rfl rfl (Zc rfl rfl) ?_
   refine Za rfl rfl rfl rfl (Ze rfl rfl) ?_
   refine Za rfl rfl rfl rfl (Zb (fo := 11) rfl Try.underlying32 rfl i_27 rfl rfl rfl) ?_
   refine Za rfl rfl rfl rfl (Zc rfl rfl) ?_
   refine Za rfl rfl rfl rfl (V_func rfl rfl rfl) ?_
   refine Xx (L2 := [_]) rfl rfl rfl rfl rfl rfl Try.call103 (cw_listPo b _ _ _ _ hp1 hu1 bx 11 (cSt x).toArray T fz x.po hx.po hx.po2 rfl (by (try simp only [List.map_cons, List.map_nil, List.length_append]); omega)) [0, 0] rfl (sub_po (A0 := [_, _, _, _, _, _, _, _, _]) (A1 := []) (A2 := []) (List.mem_append_left _ (Zf 0 rfl)) (List.mem_append_left _ (Zf 5 rfl))) ?_
   rintro v post ⟨rfl, p1, u1, hp1, hu1, rfl⟩
   show G _ _ _ [_, _, _] _
   refine Zg ?_
   refine Zh ?_
   refine Zd (l := [0, 1, 2, 3, 4, 5, 6]) rfl ?_
   refine Za rfl rfl rfl rfl (Zc rfl rfl) ?_
   refine Za rfl rfl rfl rfl (Zc rfl rfl) ?_
   refine Za rfl rfl rfl rfl (Ze rfl rfl) ?_
   refine Za rfl rfl rfl rfl (Zb (fo := 12) rfl Try.underlying32 rfl i_28 rfl rfl rfl) ?_
   refine Za rfl rfl rfl rfl (Zc rfl rfl) ?_
   refine Za rfl rfl rfl rfl (V_func rfl rfl rfl) ?_
   refine Xx (L2 := [_]) rfl rfl rfl rfl rfl rfl Try.call105 (cw_listHr b _ _ _ _ hp1 hu1 bx 12 (cSt x).toArray T fz x.hi hx.hi hx.hi2 rfl (by (try simp only [List.map_cons, List.map_nil, List.length_append]); omega)) [0, 0] rfl (Ys (List.mem_append_left _ (Zf 0 rfl)) (Ys (List.mem_append_left _ (Zf 6 rfl)) Xh)) ?_
   rintro v post ⟨rfl, p1, u1, hp1, hu1, rfl⟩
   show G _ _ _ [_, _, _] _
   refine Zg ?_
   refine Zh ?_
   refine Zd (l := [0, 1, 2, 3, 4, 5, 6]) rfl ?_
   refine Za rfl rfl rfl rfl (Zc rfl rfl) ?_
   refine Za rfl rfl rfl rfl (Zc rfl rfl) ?_
   refine Za rfl rfl rfl rfl (Ze rfl rfl) ?_
   refine Za rfl rfl rfl rfl (Zb (fo := 13) rfl Try.underlying32 rfl i_29 rfl rfl rfl) ?_
   refine Za rfl rfl rfl rfl (Zc rfl rfl) ?_
   refine Za rfl rfl rfl rfl (V_func rfl rfl rfl) ?_
   refine Xx (L2 := [_]) rfl rfl rfl rfl rfl rfl Try.call107 (cw_listLt b _ _ _ _ hp1 hu1 bx 13 (cSt x).toArray T fz x.le hx.le hx.le2 rfl (by (try simp only [List.map_cons, List.map_nil, List.length_append]); omega)) [0, 0] rfl (Ys (List.mem_append_left _ (Zf 0 rfl)) (Ys (List.mem_append_left _ (Zf 7 rfl)) Xh)) ?_
   rintro v post ⟨rfl, p1, u1, hp1, hu1, rfl⟩
   show G _ _ _ [_, _, _] _
   refine Zg ?_
   refine Zd (l := [0, 1, 2, 3, 4, 5, 6]) rfl ?_
   refine Za rfl rfl rfl rfl (Zc rfl rfl) ?_
   refine Za rfl rfl rfl rfl (Zc rfl rfl) ?_
   refine Za rfl rfl rfl rfl (Ze rfl rfl) ?_
   refine Za rfl rfl rfl rfl (Zb (fo := 14) rfl Try.underlying32 rfl i_30 rfl rfl rfl) ?_
   refine Za rfl rfl rfl rfl (Zc rfl rfl) ?_
   refine Za rfl rfl rfl rfl (V_func rfl rfl rfl) ?_
   refine Xx (L2 := [_]) rfl rfl rfl rfl rfl rfl Try.call109 (cw_listWt b _ _ _ _ hp1 hu1 bx 14 (cSt x).toArray T fz x.wa hx.wa hx.wa2 rfl (by (try simp only [List.map_cons, List.map_nil, List.length_append]); omega)) [0, 0] rfl (Ys (List.mem_append_left _ (Zf 0 rfl)) (Ys (List.mem_append_left _ (Zf 8 rfl)) Xh)) ?_
   rintro v post ⟨rfl, p1, u1, hp1, hu1, rfl⟩
   show G _ _ _ [_, _, _] _
   refine Zg ?_
   refine G_end (post := [_, _]) Try.func34 rfl Zp [0, 0] rfl ?_
   dsimp only [packed]
   refine ⟨rfl, p1, u1, hp1, ?_, ?_⟩
   · simpa only [encSt, List.map_cons, List.map_nil, List.append_assoc] using hu1
   · simp only [encSt, badSt, List.map_cons, List.map_nil, List.append_assoc, Bool.or_assoc]


def dumpE (x : St) : Value := if badSt x then .tuple #[.string (bs []), .int .i64 1] else .tuple #[.string (bs (encSt x)), .int .i64 0]
theorem dumpE_bad {x : St} (h : badSt x = true) : dumpE x = .tuple #[.string (bs []), .int .i64 1] := by unfold dumpE; rw [if_pos h]
theorem dumpE_ok {x : St} (h : ¬ badSt x = true) : dumpE x = .tuple #[.string (bs (encSt x)), .int .i64 0] := by unfold dumpE; rw [if_neg h]
theorem sub_one {M tl : List HBk} {a : HBk} (ha : a ∈ M) (h : ∀ z ∈ tl, z ∈ M) : ∀ z ∈ a :: tl, z ∈ M := by
  intro z hz
  rcases List.mem_cons.1 hz with rfl | hz
  · exact ha
  · exact h z hz

set_option maxRecDepth 100000 in
set_option maxHeartbeats 1000000 in
theorem du_encode (x : St) (hx : OkSt x) (hl : (encSt x).length ≤ 140737488350000) :
    Ct Try.prog 14 [.agg (cSt x).toArray] (insK x.li :: insK x.en :: insK x.wo :: insK x.iv :: insK x.po :: insK x.hi :: insK x.le :: insK x.wa :: x.po.l.flatMap kPo) [] fun v post => v = dumpE x ∧ post = [] := by
 refine Yu Try.func14 rfl rfl (fun w0 => ?_)
 show G _ _ [(0, _)] _ _
 refine Zh ?_
 refine Zd (l := [0, 1, 2]) rfl ?_
 refine Yw rfl rfl rfl rfl (N_boxA rfl rfl) (fun b1 => ?_)
 refine Za rfl rfl rfl rfl (Zk rfl rfl) ?_
 refine Za rfl rfl rfl rfl (Zk rfl rfl) ?_
 refine Zg ?_
 refine Zh ?_
 refine Zd (l := [0]) rfl ?_
 refine Yw rfl rfl rfl rfl (Ym rfl i_80 rfl) (fun b4 => ?_)
 refine Zg ?_
 refine Zh ?_
 refine Xq (.cells #[] 5 (0, 0)) ?_
 refine Zd (l := [0]) rfl ?_
 refine Xx (L2 := [_]) rfl rfl rfl rfl rfl rfl Try.call34 (cw_state b4 (.pointer none) slNil [] false (.inl rfl) txt_nil b1 x _ (0, 0) hx (by simpa using hl)) [1, 0] rfl (sub_one (List.mem_append_right _ (Zf 0 rfl)) (fun z hz => List.mem_append_left _ hz)) ?_
 rintro v post ⟨rfl, p1, u1, hp1, hu1, rfl⟩
 show G _ _ _ [_, _, _] _
 refine Zg ?_
 refine Zh ?_
 refine Zh ?_
 rw [List.nil_append] at hu1 ⊢
 rw [Bool.false_or]
 refine Zd (l := [0, 1]) rfl ?_
 refine Za rfl rfl rfl rfl (Zb (fo := 3) rfl Try.underlying80 rfl i_4 rfl rfl rfl) ?_
 refine Za rfl rfl rfl rfl (Zj rfl rfl (List.mem_append_right _ (Zf 0 rfl)) rfl Try.underlying4 rfl) ?_
 refine Zg ?_
 refine G_if rfl (fun hc1 => ?_) (fun hc1 => ?_)
 ·
  refine Zh ?_
  refine Zd (l := [0, 1]) rfl ?_
  refine Za rfl rfl rfl rfl (Zk rfl rfl) ?_
  refine Za rfl rfl rfl rfl (Zk rfl rfl) ?_
  refine Zg ?_
  refine Yy (post := []) Try.func14 rfl (Zy (Yt rfl) (Zy (Yt rfl) Zp)) [] rfl ?_
  dsimp only [packed]
  first
    | exact ⟨(dumpE_bad (by assumption)).symm, rfl⟩
    | exact ⟨(dumpE_ok (by simp [*])).symm, rfl⟩
 refine Zu ?_
 refine Zh ?_
 refine Zd (l := [0, 1, 2, 3]) rfl ?_
 refine Za rfl rfl rfl rfl (Zb (fo := 0) rfl Try.underlying80 rfl i_78 rfl rfl rfl) ?_
 refine Xx (L2 := [_]) rfl rfl rfl rfl rfl rfl Try.call53 (cbld_string _ _ b4 _ u1 (encSt x) hu1 (by omega)) [0, 0] rfl Xh ?_
 rintro v post ⟨rfl, u2, hu2, rfl⟩
 show G _ _ _ [_, _, _] _
 refine Za rfl rfl rfl rfl (Zk rfl rfl) ?_
 refine Za rfl rfl rfl rfl (Zk rfl rfl) ?_
 refine Zg ?_
 refine Yy (post := []) Try.func14 rfl (Zy (Yt rfl) (Zy (Yt rfl) Zp)) [] rfl ?_
 dsimp only [packed]
 first
   | exact ⟨(dumpE_bad (by assumption)).symm, rfl⟩
   | exact ⟨(dumpE_ok (by simp [*])).symm, rfl⟩

end
end Go.Proofs.Ytjnaeoelnmhjfaa

set_option linter.unusedSimpArgs false
set_option linter.unusedVariables false
namespace Go.Proofs.Ytjnaeoelnmhjfaa
open Go Go.RowKit

section
end
end Go.Proofs.Ytjnaeoelnmhjfaa

set_option linter.unusedSimpArgs false
set_option linter.unusedVariables false
namespace Go.Proofs.Ytjnaeoelnmhjfaa
open Go Go.RowKit

section
end
end Go.Proofs.Ytjnaeoelnmhjfaa

set_option linter.unusedSimpArgs false
set_option linter.unusedVariables false
namespace Go.Proofs.Ytjnaeoelnmhjfaa
open Go Go.RowKit

section
end
end Go.Proofs.Ytjnaeoelnmhjfaa

set_option linter.unusedSimpArgs false
set_option linter.unusedVariables false
namespace Go.Proofs.Ytjnaeoelnmhjfaa
open Go Go.RowKit

section



/-- A tenant that waits, as the document has it. -/
structure Dt where
  v0 : Int
  v1 : Int
  v2 : Int
  q : Int
  s : Ins Fl
  g : Bool
def cDt (x : Dt) : List Value := [.int .i64 x.v0, .int .i64 x.v1, .int .i64 x.v2, .int .i64 x.q, .slice x.s.p x.s.l.length x.s.cap, .bool x.g]
theorem cDt_len (x : Dt) : (cDt x).length = 6 := rfl
def OkDt (x : Dt) : Prop := InsOk 4 cFl x.s ∧ ∀ y ∈ x.s.l, OkFl y
def kDt (x : Dt) : List HBk := insK x.s :: x.s.l.flatMap kFl
/-- A share, as the document has it. -/
structure Ds where
  q : Int
  s : Ins Dt
  g : Bool
def cDs (x : Ds) : List Value := [.int .i64 x.q, .slice x.s.p x.s.l.length x.s.cap, .bool x.g]
theorem cDs_len (x : Ds) : (cDs x).length = 3 := rfl
def OkDs (x : Ds) : Prop := InsOk 6 cDt x.s ∧ ∀ y ∈ x.s.l, OkDt y
def kDs (x : Ds) : List HBk := insK x.s :: x.s.l.flatMap kDt


end
end Go.Proofs.Ytjnaeoelnmhjfaa

namespace Go.Proofs.Ytjnaeoelnmhjfaa
open Go Go.RowKit

def rdNum (l : List UInt8) (e : Nat) : Nat × List UInt8 × Nat :=
  if e ≠ 0 then (0, l, e) else
    match unchain l with
    | (v, n, e') => if e' ≠ 0 then (0, l, e') else (v, l.drop n, 0)
def rdInt (most : Int) (l : List UInt8) (e : Nat) : Nat × List UInt8 × Nat :=
  if e ≠ 0 then (0, l, e) else
    match unchain l with
    | (v, n, e') => if e' ≠ 0 then (0, l, e') else if most < 0 ∨ most < (v : Int) then (0, l, 4) else (v, l.drop n, 0)
def rdStr (most : Int) (l : List UInt8) (e : Nat) : List UInt8 × List UInt8 × Nat :=
  if e ≠ 0 then ([], l, e) else
    match untext l most with
    | (s, n, e') => if e' ≠ 0 then ([], l, e') else (s, l.drop n, 0)
def rdFlag (l : List UInt8) (e : Nat) : Bool × List UInt8 × Nat :=
  if e ≠ 0 then (false, l, e) else
    match unchain l with
    | (v, n, e') => if e' ≠ 0 then (false, l, e') else if 1 < v then (false, l, 3) else (v == 1, l.drop n, 0)
def rdEnd (l : List UInt8) (e : Nat) : Nat := if e ≠ 0 then e else if l = [] then 0 else 3

theorem rdNum_err (l : List UInt8) (e : Nat) (h : e ≠ 0) : rdNum l e = (0, l, e) := by simp [rdNum, h]
theorem rdNum_bad (l : List UInt8) (v n e : Nat) (hu : unchain l = (v, n, e)) (h : e ≠ 0) : rdNum l 0 = (0, l, e) := by simp [rdNum, hu, h]
theorem rdNum_ok (l : List UInt8) (v n : Nat) (hu : unchain l = (v, n, 0)) : rdNum l 0 = (v, l.drop n, 0) := by simp [rdNum, hu]
theorem rdInt_err (most : Int) (l : List UInt8) (e : Nat) (h : e ≠ 0) : rdInt most l e = (0, l, e) := by simp [rdInt, h]
theorem rdInt_bad (most : Int) (l : List UInt8) (v n e : Nat) (hu : unchain l = (v, n, e)) (h : e ≠ 0) : rdInt most l 0 = (0, l, e) := by simp [rdInt, hu, h]
theorem rdInt_long (most : Int) (l : List UInt8) (v n : Nat) (hu : unchain l = (v, n, 0)) (h : most < 0 ∨ most < (v : Int)) : rdInt most l 0 = (0, l, 4) := by simp [rdInt, hu, h]
theorem rdInt_ok (most : Int) (l : List UInt8) (v n : Nat) (hu : unchain l = (v, n, 0)) (h : ¬ (most < 0 ∨ most < (v : Int))) : rdInt most l 0 = (v, l.drop n, 0) := by
  unfold rdInt; rw [hu]; simp only [ne_eq, not_true_eq_false, if_false]; rw [if_neg h]
theorem rdStr_err (most : Int) (l : List UInt8) (e : Nat) (h : e ≠ 0) : rdStr most l e = ([], l, e) := by simp [rdStr, h]
theorem rdStr_bad (most : Int) (l : List UInt8) (s : List UInt8) (n e : Nat) (hu : untext l most = (s, n, e)) (h : e ≠ 0) : rdStr most l 0 = ([], l, e) := by simp [rdStr, hu, h]
theorem rdStr_ok (most : Int) (l : List UInt8) (s : List UInt8) (n : Nat) (hu : untext l most = (s, n, 0)) : rdStr most l 0 = (s, l.drop n, 0) := by simp [rdStr, hu]
theorem rdFlag_err (l : List UInt8) (e : Nat) (h : e ≠ 0) : rdFlag l e = (false, l, e) := by simp [rdFlag, h]
theorem rdFlag_bad (l : List UInt8) (v n e : Nat) (hu : unchain l = (v, n, e)) (h : e ≠ 0) : rdFlag l 0 = (false, l, e) := by simp [rdFlag, hu, h]
theorem rdFlag_long (l : List UInt8) (v n : Nat) (hu : unchain l = (v, n, 0)) (h : 1 < v) : rdFlag l 0 = (false, l, 3) := by simp [rdFlag, hu, h]
theorem rdFlag_ok (l : List UInt8) (v n : Nat) (hu : unchain l = (v, n, 0)) (h : ¬ 1 < v) : rdFlag l 0 = (v == 1, l.drop n, 0) := by
  unfold rdFlag; rw [hu]; simp only [ne_eq, not_true_eq_false, if_false]; rw [if_neg h]

theorem untext_ok (l : List UInt8) (most : Int) (s : List UInt8) (n e : Nat) (h : untext l most = (s, n, e)) : (e = 0 ∧ n ≤ l.length ∧ s.length ≤ l.length ∧ (s.length : Int) ≤ most) ∨ (s = [] ∧ n = 0 ∧ 2 ≤ e ∧ e ≤ 4) := by
  obtain ⟨v, k, e', hu⟩ : ∃ v k e', unchain l = (v, k, e') := ⟨_, _, _, rfl⟩
  have hok := unchain_ok l
  rw [hu] at hok
  obtain ⟨_, hok⟩ := hok
  simp only at hok
  by_cases he : e' = 0
  · subst he
    by_cases h1 : most < 0 ∨ most < (v : Int)
    · rw [untext_long _ _ _ _ hu h1] at h
      obtain ⟨rfl, rfl, rfl⟩ : [] = s ∧ 0 = n ∧ 4 = e := by simpa using h
      exact .inr ⟨rfl, rfl, by omega, by omega⟩
    · by_cases h2 : l.length - k < v
      · rw [untext_short _ _ _ _ hu h1 h2] at h
        obtain ⟨rfl, rfl, rfl⟩ : [] = s ∧ 0 = n ∧ 2 = e := by simpa using h
        exact .inr ⟨rfl, rfl, by omega, by omega⟩
      · rw [untext_yes _ _ _ _ hu h1 h2] at h
        obtain ⟨rfl, rfl, rfl⟩ : List.take v (List.drop k l) = s ∧ k + v = n ∧ 0 = e := by simpa using h
        refine .inl ⟨rfl, by omega, by simp; omega, by simp; omega⟩
  · rw [untext_err _ _ _ _ _ hu he] at h
    obtain ⟨rfl, rfl, rfl⟩ : [] = s ∧ 0 = n ∧ e' = e := by simpa using h
    exact .inr ⟨rfl, rfl, by omega, by omega⟩

end Go.Proofs.Ytjnaeoelnmhjfaa

set_option linter.unusedSimpArgs false
set_option linter.unusedVariables false
namespace Go.Proofs.Ytjnaeoelnmhjfaa
open Go Go.RowKit

section
theorem i_33 : Try.prog.info? 33 = some Try.t33 := by kernel_rfl
theorem i_169 : Try.prog.info? 169 = some Try.t169 := by kernel_rfl
theorem p_169 : placesOf Try.prog (Try.prog.fieldsOf 169) = some [(0, 1), (1, 1)] := by kernel_rfl


theorem ct_unchain (l : List UInt8) (v n e : Nat) (hu : unchain l = (v, n, e)) (h : l.length ≤ 9223372036854775807) : Ct Try.prog 131 [.string (bs l)] [] [] (fun r post => r = .tuple #[.int .u64 (v : Int), .int .i64 (n : Int), .int .i64 (e : Int)] ∧ post = []) :=
  ct_same (fun w => by
    have := unchain_any (bs l) w (by rw [bs_size]; omega)
    rw [bs_data, hu] at this
    exact this)
theorem ct_runchain (l : List UInt8) (v n e : Nat) (hu : unchain l = (v, n, e)) (h : l.length ≤ 9223372036854775807) : Ct Try.prog 111 [.string (bs l)] [] [] (fun r post => r = .tuple #[.int .u64 (v : Int), .int .i64 (n : Int), .int .i64 (e : Int)] ∧ post = []) :=
  ct_same (fun w => by
    have := runchain_any (bs l) w (by rw [bs_size]; omega)
    rw [bs_data, hu] at this
    exact this)
theorem ct_untext (l : List UInt8) (most : Int) (s : List UInt8) (n e : Nat) (hu : untext l most = (s, n, e)) (h : l.length ≤ 140737488351232) (hm : 0 ≤ most ∧ most ≤ 4611686018427387904) : Ct Try.prog 152 [.string (bs l), .int .i64 most] [] [] (fun r post => r = .tuple #[.string (bs s), .int .i64 (n : Int), .int .i64 (e : Int)] ∧ post = []) :=
  ct_same (fun w => by
    have := untext_any (bs l) most w (by rw [bs_size]; omega) (by omega) (by omega)
    rw [bs_data, hu] at this
    exact this)
theorem ct_runtext (l : List UInt8) (most : Int) (s : List UInt8) (n e : Nat) (hu : untext l most = (s, n, e)) (h : l.length ≤ 140737488351232) (hm : 0 ≤ most ∧ most ≤ 4611686018427387904) : Ct Try.prog 113 [.string (bs l), .int .i64 most] [] [] (fun r post => r = .tuple #[.string (bs s), .int .i64 (n : Int), .int .i64 (e : Int)] ∧ post = []) :=
  ct_same (fun w => by
    have := runtext_any (bs l) most w (by rw [bs_size]; omega) (by omega) (by omega)
    rw [bs_data, hu] at this
    exact this)
theorem unchain_bd {l : List UInt8} {v n e : Nat} (h : unchain l = (v, n, e)) : v < 18446744073709551616 ∧ ((e = 0 ∧ n ≤ l.length ∧ n ≤ 10 ∧ 1 ≤ n) ∨ (0 < e ∧ e ≤ 3 ∧ v = 0)) := by
  have := unchain_ok l
  rw [h] at this
  obtain ⟨h1, h2⟩ := this
  simp only at h1 h2
  exact ⟨h1, by omega⟩

set_option maxRecDepth 100000 in
set_option maxHeartbeats 1000000 in
theorem rd_ok (b : Nat) (l : List UInt8) (e : Nat) :
    Ct Try.prog 130 [.pointer (some ⟨b, 0, none⟩)] [(some b, .cells #[.string (bs l), .int .i64 ((e : Nat) : Int)] 169 (0, 0))] [] fun v post => v = .bool (decide (e = 0)) ∧ post = [] := by
 refine Yu Try.func130 rfl rfl (fun w0 => ?_)
 show G _ _ [(0, _)] _ _
 refine Zh ?_
 refine Zd (l := [0]) rfl ?_
 refine Za rfl rfl rfl rfl (Zk rfl rfl) ?_
 refine Zg ?_
 refine Zh ?_
 refine Zd (l := [0, 1, 2, 3, 4, 5, 6, 7, 8, 9]) rfl ?_
 refine Za rfl rfl rfl rfl (Zc rfl rfl) ?_
 refine Za rfl rfl rfl rfl (V_pneqN rfl Try.underlying74 rfl rfl) ?_
 refine Za rfl rfl rfl rfl (Zc rfl rfl) ?_
 refine Za rfl rfl rfl rfl (Zc rfl rfl) ?_
 first
  | refine Za rfl rfl rfl rfl (Ze rfl rfl) ?_
  | refine Za rfl rfl rfl rfl (Zz rfl rfl) ?_
 refine Za rfl rfl rfl rfl (Zb (fo := 1) rfl Try.underlying169 rfl i_33 rfl rfl rfl) ?_
 refine Za rfl rfl rfl rfl (Zj rfl rfl (Zf 0 rfl) rfl Try.underlying33 rfl) ?_
 refine Za rfl rfl rfl rfl (V_eql rfl rfl rfl) ?_
 refine Za rfl rfl rfl rfl (Yz rfl rfl rfl) ?_
 refine Za rfl rfl rfl rfl (Zk rfl rfl) ?_
 refine Zg ?_
 refine Yy (post := []) Try.func130 rfl (Zy (Yt rfl) Zp) [] rfl ?_
 dsimp only [packed]
 refine ⟨bool_eq ?_, rfl⟩; simp

set_option maxRecDepth 100000 in
set_option maxHeartbeats 1000000 in
theorem rd_err (b : Nat) (l : List UInt8) (e : Nat) :
    Ct Try.prog 86 [.pointer (some ⟨b, 0, none⟩)] [(some b, .cells #[.string (bs l), .int .i64 ((e : Nat) : Int)] 169 (0, 0))] [] fun v post => v = .int .i64 (e : Int) ∧ post = [] := by
 refine Yu Try.func86 rfl rfl (fun w0 => ?_)
 show G _ _ [(0, _)] _ _
 refine Zh ?_
 refine Zd (l := [0]) rfl ?_
 refine Za rfl rfl rfl rfl (Zk rfl rfl) ?_
 refine Zg ?_
 refine Zh ?_
 refine Zh ?_
 refine Zd (l := [0, 1]) rfl ?_
 refine Za rfl rfl rfl rfl (Zc rfl rfl) ?_
 refine Za rfl rfl rfl rfl (V_peqlN rfl Try.underlying74 rfl rfl) ?_
 refine Zg ?_
 refine Xu rfl ?_
 refine Zu ?_
 refine Zh ?_
 refine Zd (l := [0, 1, 2, 3, 4]) rfl ?_
 refine Za rfl rfl rfl rfl (Zc rfl rfl) ?_
 first
  | refine Za rfl rfl rfl rfl (Ze rfl rfl) ?_
  | refine Za rfl rfl rfl rfl (Zz rfl rfl) ?_
 refine Za rfl rfl rfl rfl (Zb (fo := 1) rfl Try.underlying169 rfl i_33 rfl rfl rfl) ?_
 refine Za rfl rfl rfl rfl (Zj rfl rfl (Zf 0 rfl) rfl Try.underlying33 rfl) ?_
 refine Za rfl rfl rfl rfl (Zk rfl rfl) ?_
 refine Zg ?_
 refine Yy (post := []) Try.func86 rfl (Zy (Yt rfl) Zp) [] rfl ?_
 dsimp only [packed]
 exact ⟨rfl, rfl⟩

set_option maxRecDepth 100000 in
set_option maxHeartbeats 1000000 in
theorem rd_took1 (b : Nat) (l : List UInt8) (e n e1 : Nat) (hn : n ≤ l.length) (h1 : e1 = 0) :
    Ct Try.prog 132 [.pointer (some ⟨b, 0, none⟩), .int .i64 (n : Int), .int .i64 (e1 : Int)] [] [(some b, .cells #[.string (bs l), .int .i64 ((e : Nat) : Int)] 169 (0, 0))] fun v post => v = .bool true ∧ post = [(some b, .cells #[.string (bs (l.drop n)), .int .i64 ((e : Nat) : Int)] 169 (0, 0))] := by
 subst h1
 refine Yu Try.func132 rfl rfl (fun w0 => ?_)
 show G _ _ [(0, _), (1, _), (2, _)] _ _
 refine Zh ?_
 refine Zd (l := [0]) rfl ?_
 refine Za rfl rfl rfl rfl (Zk rfl rfl) ?_
 refine Zg ?_
 refine Zh ?_
 refine Zh ?_
 refine Zd (l := [0, 1]) rfl ?_
 refine Za rfl rfl rfl rfl (Zc rfl rfl) ?_
 refine Za rfl rfl rfl rfl (V_neq rfl rfl rfl) ?_
 refine Zg ?_
 refine Yk rfl (fun hc1 => ?_) (fun hc1 => ?_)
 · (first | (exact absurd rfl hc1) | (exfalso; omega))
 refine Zu ?_
 refine Zh ?_
 refine Zd (l := [0, 1, 2, 3, 4, 5, 6, 7, 8, 9]) rfl ?_
 refine Za rfl rfl rfl rfl (Zc rfl rfl) ?_
 refine Za rfl rfl rfl rfl (Zc rfl rfl) ?_
 first
  | refine Za rfl rfl rfl rfl (Ze rfl rfl) ?_
  | refine Za rfl rfl rfl rfl (Zz rfl rfl) ?_
 refine Za rfl rfl rfl rfl (Zb (fo := 0) rfl Try.underlying169 rfl i_9 rfl rfl rfl) ?_
 refine Za rfl rfl rfl rfl (Zj rfl rfl (Zf 0 rfl) rfl Try.underlying9 rfl) ?_
 refine Za rfl rfl rfl rfl (Zc rfl rfl) ?_
 first
  | refine Za rfl rfl rfl rfl (V_ssliceLN (lo := _) rfl Try.underlying9 rfl rfl rfl (by first | omega | (simp; done) | (simp; omega) | (simp at *; omega))) ?_
  | refine Za rfl rfl rfl rfl (V_ssliceL rfl Try.underlying9 rfl rfl (by first | omega | (simp; done) | (simp; omega) | (simp at *; omega)) (by first | omega | (simp; done) | (simp; omega) | (simp at *; omega))) ?_
 first
  | refine Za rfl rfl rfl rfl (Ze rfl rfl) ?_
  | refine Za rfl rfl rfl rfl (Zz rfl rfl) ?_
 refine Za rfl rfl rfl rfl (Zb (fo := 0) rfl Try.underlying169 rfl i_9 rfl rfl rfl) ?_
 refine Yj (l1 := []) (L' := [_]) rfl rfl rfl rfl (Zm rfl rfl rfl (Zf 0 rfl) (by first | exact of_decide_eq_true rfl | omega | (simp; done) | (simp; omega) | (simp at *; omega)) i_9 rfl rfl) rfl ?_
 refine Zg ?_
 refine Zh ?_
 refine Zd (l := [0]) rfl ?_
 refine Za rfl rfl rfl rfl (Zk rfl rfl) ?_
 refine Zg ?_
 refine Yy (post := [_]) Try.func132 rfl (Zy (Yt rfl) Zp) [0] rfl ?_
 dsimp only [packed]
 exact ⟨rfl, rfl⟩

set_option maxRecDepth 100000 in
set_option maxHeartbeats 1000000 in
theorem rd_took0 (b : Nat) (l : List UInt8) (e n e1 : Nat) (h1 : 0 < e1) :
    Ct Try.prog 132 [.pointer (some ⟨b, 0, none⟩), .int .i64 (n : Int), .int .i64 (e1 : Int)] [] [(some b, .cells #[.string (bs l), .int .i64 ((e : Nat) : Int)] 169 (0, 0))] fun v post => v = .bool false ∧ post = [(some b, .cells #[.string (bs l), .int .i64 ((e1 : Nat) : Int)] 169 (0, 0))] := by
 refine Yu Try.func132 rfl rfl (fun w0 => ?_)
 show G _ _ [(0, _), (1, _), (2, _)] _ _
 refine Zh ?_
 refine Zd (l := [0]) rfl ?_
 refine Za rfl rfl rfl rfl (Zk rfl rfl) ?_
 refine Zg ?_
 refine Zh ?_
 refine Zh ?_
 refine Zd (l := [0, 1]) rfl ?_
 refine Za rfl rfl rfl rfl (Zc rfl rfl) ?_
 refine Za rfl rfl rfl rfl (V_neq rfl rfl rfl) ?_
 refine Zg ?_
 refine Yk rfl (fun hc1 => ?_) (fun hc1 => ?_)
 rotate_left
 · (exfalso; omega)
 refine Zh ?_
 refine Zd (l := [0, 1, 2, 3, 4]) rfl ?_
 refine Za rfl rfl rfl rfl (Zc rfl rfl) ?_
 refine Za rfl rfl rfl rfl (Zc rfl rfl) ?_
 first
  | refine Za rfl rfl rfl rfl (Ze rfl rfl) ?_
  | refine Za rfl rfl rfl rfl (Zz rfl rfl) ?_
 refine Za rfl rfl rfl rfl (Zb (fo := 1) rfl Try.underlying169 rfl i_33 rfl rfl rfl) ?_
 refine Yj (l1 := []) (L' := [_]) rfl rfl rfl rfl (Zm rfl rfl rfl (Zf 0 rfl) (by first | exact of_decide_eq_true rfl | omega | (simp; done) | (simp; omega) | (simp at *; omega)) i_33 rfl rfl) rfl ?_
 refine Zg ?_
 refine Zh ?_
 refine Zd (l := [0]) rfl ?_
 refine Za rfl rfl rfl rfl (Zk rfl rfl) ?_
 refine Zg ?_
 refine Yy (post := [_]) Try.func132 rfl (Zy (Yt rfl) Zp) [0] rfl ?_
 dsimp only [packed]
 exact ⟨rfl, rfl⟩

set_option maxRecDepth 100000 in
set_option maxHeartbeats 1000000 in
theorem rrd_took1 (b : Nat) (l : List UInt8) (e n e1 : Nat) (hn : n ≤ l.length) (h1 : e1 = 0) :
    Ct Try.prog 112 [.pointer (some ⟨b, 0, none⟩), .int .i64 (n : Int), .int .i64 (e1 : Int)] [] [(some b, .cells #[.string (bs l), .int .i64 ((e : Nat) : Int)] 86 (0, 0))] fun v post => v = .tuple #[] ∧ post = [(some b, .cells #[.string (bs (l.drop n)), .int .i64 ((e : Nat) : Int)] 86 (0, 0))] := by
 subst h1
 refine Yu Try.func112 rfl rfl (fun w0 => ?_)
 show G _ _ [(0, _), (1, _), (2, _)] _ _
 refine Zh ?_
 refine Zh ?_
 refine Zd (l := [0, 1]) rfl ?_
 refine Za rfl rfl rfl rfl (Zc rfl rfl) ?_
 refine Za rfl rfl rfl rfl (V_neq rfl rfl rfl) ?_
 refine Zg ?_
 refine Yk rfl (fun hc1 => ?_) (fun hc1 => ?_)
 · (first | (exact absurd rfl hc1) | (exfalso; omega))
 refine Zu ?_
 refine Zd (l := [0, 1, 2, 3, 4, 5, 6, 7, 8, 9]) rfl ?_
 refine Za rfl rfl rfl rfl (Zc rfl rfl) ?_
 refine Za rfl rfl rfl rfl (Zc rfl rfl) ?_
 first
  | refine Za rfl rfl rfl rfl (Ze rfl rfl) ?_
  | refine Za rfl rfl rfl rfl (Zz rfl rfl) ?_
 refine Za rfl rfl rfl rfl (Zb (fo := 0) rfl Try.underlying86 rfl i_9 rfl rfl rfl) ?_
 refine Za rfl rfl rfl rfl (Zj rfl rfl (Zf 0 rfl) rfl Try.underlying9 rfl) ?_
 refine Za rfl rfl rfl rfl (Zc rfl rfl) ?_
 first
  | refine Za rfl rfl rfl rfl (V_ssliceLN (lo := _) rfl Try.underlying9 rfl rfl rfl (by first | omega | (simp; done) | (simp; omega) | (simp at *; omega))) ?_
  | refine Za rfl rfl rfl rfl (V_ssliceL rfl Try.underlying9 rfl rfl (by first | omega | (simp; done) | (simp; omega) | (simp at *; omega)) (by first | omega | (simp; done) | (simp; omega) | (simp at *; omega))) ?_
 first
  | refine Za rfl rfl rfl rfl (Ze rfl rfl) ?_
  | refine Za rfl rfl rfl rfl (Zz rfl rfl) ?_
 refine Za rfl rfl rfl rfl (Zb (fo := 0) rfl Try.underlying86 rfl i_9 rfl rfl rfl) ?_
 refine Yj (l1 := []) (L' := [_]) rfl rfl rfl rfl (Zm rfl rfl rfl (Zf 0 rfl) (by first | exact of_decide_eq_true rfl | omega | (simp; done) | (simp; omega) | (simp at *; omega)) i_9 rfl rfl) rfl ?_
 refine Zg ?_
 refine G_end (post := [_]) Try.func112 rfl Zp [0] rfl ?_
 dsimp only [packed]
 exact ⟨rfl, rfl⟩

set_option maxRecDepth 100000 in
set_option maxHeartbeats 1000000 in
theorem rrd_took0 (b : Nat) (l : List UInt8) (e n e1 : Nat) (h1 : 0 < e1) :
    Ct Try.prog 112 [.pointer (some ⟨b, 0, none⟩), .int .i64 (n : Int), .int .i64 (e1 : Int)] [] [(some b, .cells #[.string (bs l), .int .i64 ((e : Nat) : Int)] 86 (0, 0))] fun v post => v = .tuple #[] ∧ post = [(some b, .cells #[.string (bs l), .int .i64 ((e1 : Nat) : Int)] 86 (0, 0))] := by
 refine Yu Try.func112 rfl rfl (fun w0 => ?_)
 show G _ _ [(0, _), (1, _), (2, _)] _ _
 refine Zh ?_
 refine Zh ?_
 refine Zd (l := [0, 1]) rfl ?_
 refine Za rfl rfl rfl rfl (Zc rfl rfl) ?_
 refine Za rfl rfl rfl rfl (V_neq rfl rfl rfl) ?_
 refine Zg ?_
 refine Yk rfl (fun hc1 => ?_) (fun hc1 => ?_)
 rotate_left
 · (exfalso; omega)
 refine Zh ?_
 refine Zd (l := [0, 1, 2, 3, 4]) rfl ?_
 refine Za rfl rfl rfl rfl (Zc rfl rfl) ?_
 refine Za rfl rfl rfl rfl (Zc rfl rfl) ?_
 first
  | refine Za rfl rfl rfl rfl (Ze rfl rfl) ?_
  | refine Za rfl rfl rfl rfl (Zz rfl rfl) ?_
 refine Za rfl rfl rfl rfl (Zb (fo := 1) rfl Try.underlying86 rfl i_3 rfl rfl rfl) ?_
 refine Yj (l1 := []) (L' := [_]) rfl rfl rfl rfl (Zm rfl rfl rfl (Zf 0 rfl) (by first | exact of_decide_eq_true rfl | omega | (simp; done) | (simp; omega) | (simp at *; omega)) i_3 rfl rfl) rfl ?_
 refine Zg ?_
 refine Yy (post := [_]) Try.func112 rfl Zp [0] rfl ?_
 dsimp only [packed]
 exact ⟨rfl, rfl⟩

set_option maxRecDepth 100000 in
set_option maxHeartbeats 1000000 in
theorem rd_num (b : Nat) (l : List UInt8) (e : Nat) (hl : l.length ≤ 140737488351232) (he : e ≤ 1000) :
    Ct Try.prog 133 [.pointer (some ⟨b, 0, none⟩)] [] [(some b, .cells #[.string (bs l), .int .i64 ((e : Nat) : Int)] 169 (0, 0))] fun r post => r = .int .u64 (((rdNum l e).1 : Nat) : Int) ∧ post = [(some b, .cells #[.string (bs (rdNum l e).2.1), .int .i64 (((rdNum l e).2.2 : Nat) : Int)] 169 (0, 0))] := by
 obtain ⟨v, n, e1, hu⟩ : ∃ v n e1, unchain l = (v, n, e1) := ⟨_, _, _, rfl⟩
 obtain ⟨hv, hb⟩ := unchain_bd hu
 refine Yu Try.func133 rfl rfl (fun w0 => ?_)
 show G _ _ [(0, _)] _ _
 refine Zh ?_
 refine Zd (l := [0]) rfl ?_
 refine Za rfl rfl rfl rfl (Zk rfl rfl) ?_
 refine Zg ?_
 refine Zh ?_
 refine Zh ?_
 refine Zd (l := [0, 1, 2]) rfl ?_
 refine Za rfl rfl rfl rfl (Zc rfl rfl) ?_
 refine Zq (L2 := [_]) rfl rfl rfl rfl rfl rfl Try.call130 (rd_ok _ _ _) [] [0] rfl rfl ?_
 rintro v post ⟨rfl, rfl⟩
 show G _ _ _ [_] _
 refine Za rfl rfl rfl rfl (V_notD rfl rfl) ?_
 refine Zg ?_
 refine Yk rfl (fun hc1 => ?_) (fun hc1 => ?_)
 ·
  refine Zh ?_
  refine Zd (l := [0]) rfl ?_
  refine Za rfl rfl rfl rfl (Zk rfl rfl) ?_
  refine Zg ?_
  refine Yy (post := [_]) Try.func133 rfl (Zy (Yt rfl) Zp) [0] rfl ?_
  dsimp only [packed]
  first
    | (rw [rdNum_err l e (by omega)]; exact ⟨rfl, rfl⟩)
    | (obtain rfl : e = 0 := by omega
       rw [rdNum_bad l v n e1 hu (by omega)]; subst h2; exact ⟨rfl, rfl⟩)
    | (obtain rfl : e = 0 := by omega
       subst h0; rw [rdNum_ok l v n hu]; exact ⟨rfl, rfl⟩)
 refine Zu ?_
 refine Zh ?_
 rcases hb with ⟨h0, h1, h2, h3⟩ | ⟨h0, h1, h2⟩
 ·
  refine Zd (l := [0, 1, 2, 3, 4, 5, 6, 7, 8, 9, 10, 11]) rfl ?_
  refine Za rfl rfl rfl rfl (Zc rfl rfl) ?_
  first
   | refine Za rfl rfl rfl rfl (Ze rfl rfl) ?_
   | refine Za rfl rfl rfl rfl (Zz rfl rfl) ?_
  refine Za rfl rfl rfl rfl (Zb (fo := 0) rfl Try.underlying169 rfl i_9 rfl rfl rfl) ?_
  refine Za rfl rfl rfl rfl (Zj rfl rfl (Zf 0 rfl) rfl Try.underlying9 rfl) ?_
  refine Zq (L2 := [_]) rfl rfl rfl rfl rfl rfl Try.call131 (ct_unchain _ v n e1 hu (by omega)) [] [] rfl rfl ?_
  rintro v post ⟨rfl, rfl⟩
  show G _ _ _ [_] _
  refine Za rfl rfl rfl rfl (Zc rfl rfl) ?_
  refine Za rfl rfl rfl rfl (Yd rfl rfl rfl) ?_
  refine Za rfl rfl rfl rfl (Yd rfl rfl rfl) ?_
  refine Za rfl rfl rfl rfl (Yd rfl rfl rfl) ?_
  refine Za rfl rfl rfl rfl (Zk rfl rfl) ?_
  refine Za rfl rfl rfl rfl (Zk rfl rfl) ?_
  refine Za rfl rfl rfl rfl (Zk rfl rfl) ?_
  refine Zg ?_
  refine Zh ?_
  refine Zh ?_
  refine Zd (l := [0, 1, 2, 3, 4]) rfl ?_
  refine Za rfl rfl rfl rfl (Zc rfl rfl) ?_
  refine Za rfl rfl rfl rfl (Zc rfl rfl) ?_
  refine Za rfl rfl rfl rfl (Zc rfl rfl) ?_
  refine Zq (L2 := []) rfl rfl rfl rfl rfl rfl Try.call132 (rd_took1 _ _ _ _ _ (by omega) (by omega)) [0] [] rfl rfl ?_
  rintro v post ⟨rfl, rfl⟩
  show G _ _ _ [_] _
  refine Za rfl rfl rfl rfl (V_not rfl rfl) ?_
  refine Zg ?_
  refine Xu rfl ?_
  refine Zu ?_
  refine Zh ?_
  refine Zd (l := [0, 1]) rfl ?_
  refine Za rfl rfl rfl rfl (Zc rfl rfl) ?_
  refine Za rfl rfl rfl rfl (Zk rfl rfl) ?_
  refine Zg ?_
  refine Yy (post := [_]) Try.func133 rfl (Zy (Yt rfl) Zp) [0] rfl ?_
  dsimp only [packed]
  first
    | (rw [rdNum_err l e (by omega)]; exact ⟨rfl, rfl⟩)
    | (obtain rfl : e = 0 := by omega
       rw [rdNum_bad l v n e1 hu (by omega)]; subst h2; exact ⟨rfl, rfl⟩)
    | (obtain rfl : e = 0 := by omega
       subst h0; rw [rdNum_ok l v n hu]; exact ⟨rfl, rfl⟩)
 ·
  refine Zd (l := [0, 1, 2, 3, 4, 5, 6, 7, 8, 9, 10, 11]) rfl ?_
  refine Za rfl rfl rfl rfl (Zc rfl rfl) ?_
  first
   | refine Za rfl rfl rfl rfl (Ze rfl rfl) ?_
   | refine Za rfl rfl rfl rfl (Zz rfl rfl) ?_
  refine Za rfl rfl rfl rfl (Zb (fo := 0) rfl Try.underlying169 rfl i_9 rfl rfl rfl) ?_
  refine Za rfl rfl rfl rfl (Zj rfl rfl (Zf 0 rfl) rfl Try.underlying9 rfl) ?_
  refine Zq (L2 := [_]) rfl rfl rfl rfl rfl rfl Try.call131 (ct_unchain _ v n e1 hu (by omega)) [] [] rfl rfl ?_
  rintro v post ⟨rfl, rfl⟩
  show G _ _ _ [_] _
  refine Za rfl rfl rfl rfl (Zc rfl rfl) ?_
  refine Za rfl rfl rfl rfl (Yd rfl rfl rfl) ?_
  refine Za rfl rfl rfl rfl (Yd rfl rfl rfl) ?_
  refine Za rfl rfl rfl rfl (Yd rfl rfl rfl) ?_
  refine Za rfl rfl rfl rfl (Zk rfl rfl) ?_
  refine Za rfl rfl rfl rfl (Zk rfl rfl) ?_
  refine Za rfl rfl rfl rfl (Zk rfl rfl) ?_
  refine Zg ?_
  refine Zh ?_
  refine Zh ?_
  refine Zd (l := [0, 1, 2, 3, 4]) rfl ?_
  refine Za rfl rfl rfl rfl (Zc rfl rfl) ?_
  refine Za rfl rfl rfl rfl (Zc rfl rfl) ?_
  refine Za rfl rfl rfl rfl (Zc rfl rfl) ?_
  refine Zq (L2 := []) rfl rfl rfl rfl rfl rfl Try.call132 (rd_took0 _ _ _ _ _ (by omega)) [0] [] rfl rfl ?_
  rintro v post ⟨rfl, rfl⟩
  show G _ _ _ [_] _
  refine Za rfl rfl rfl rfl (V_not rfl rfl) ?_
  refine Zg ?_
  refine G_then rfl ?_
  refine Zh ?_
  refine Zd (l := [0]) rfl ?_
  refine Za rfl rfl rfl rfl (Zk rfl rfl) ?_
  refine Zg ?_
  refine Yy (post := [_]) Try.func133 rfl (Zy (Yt rfl) Zp) [0] rfl ?_
  dsimp only [packed]
  first
    | (rw [rdNum_err l e (by omega)]; exact ⟨rfl, rfl⟩)
    | (obtain rfl : e = 0 := by omega
       rw [rdNum_bad l v n e1 hu (by omega)]; subst h2; exact ⟨rfl, rfl⟩)
    | (obtain rfl : e = 0 := by omega
       subst h0; rw [rdNum_ok l v n hu]; exact ⟨rfl, rfl⟩)

set_option maxRecDepth 100000 in
set_option maxHeartbeats 1000000 in
theorem rd_int (b : Nat) (l : List UInt8) (e : Nat) (most : Int) (hl : l.length ≤ 140737488351232) (he : e ≤ 1000) (hm : 0 ≤ most ∧ most ≤ 4611686018427387904) :
    Ct Try.prog 84 [.pointer (some ⟨b, 0, none⟩), .int .i64 most] [] [(some b, .cells #[.string (bs l), .int .i64 ((e : Nat) : Int)] 169 (0, 0))] fun r post => r = .int .i64 (((rdInt most l e).1 : Nat) : Int) ∧ post = [(some b, .cells #[.string (bs (rdInt most l e).2.1), .int .i64 (((rdInt most l e).2.2 : Nat) : Int)] 169 (0, 0))] := by
 obtain ⟨v, n, e1, hu⟩ : ∃ v n e1, unchain l = (v, n, e1) := ⟨_, _, _, rfl⟩
 obtain ⟨hv, hb⟩ := unchain_bd hu
 obtain ⟨hm0, hm1⟩ := hm
 refine Yu Try.func84 rfl rfl (fun w0 => ?_)
 show G _ _ [(0, _), (1, _)] _ _
 refine Zh ?_
 refine Zd (l := [0]) rfl ?_
 refine Za rfl rfl rfl rfl (Zk rfl rfl) ?_
 refine Zg ?_
 refine Zh ?_
 refine Zh ?_
 refine Zd (l := [0, 1, 2]) rfl ?_
 refine Za rfl rfl rfl rfl (Zc rfl rfl) ?_
 refine Zq (L2 := [_]) rfl rfl rfl rfl rfl rfl Try.call130 (rd_ok _ _ _) [] [0] rfl rfl ?_
 rintro v post ⟨rfl, rfl⟩
 show G _ _ _ [_] _
 refine Za rfl rfl rfl rfl (V_notD rfl rfl) ?_
 refine Zg ?_
 refine Yk rfl (fun hc1 => ?_) (fun hc1 => ?_)
 ·
  refine Zh ?_
  refine Zd (l := [0]) rfl ?_
  refine Za rfl rfl rfl rfl (Zk rfl rfl) ?_
  refine Zg ?_
  refine Yy (post := [_]) Try.func84 rfl (Zy (Yt rfl) Zp) [0] rfl ?_
  dsimp only [packed]
  first
    | (rw [rdInt_err most l e (by omega)]; exact ⟨rfl, rfl⟩)
    | (obtain rfl : e = 0 := by omega
       rw [rdInt_bad most l v n e1 hu (by omega)]; subst h2; exact ⟨rfl, rfl⟩)
    | (obtain rfl : e = 0 := by omega
       subst h0; rw [rdInt_long most l v n hu (.inr h2)]; exact ⟨rfl, rfl⟩)
    | (obtain rfl : e = 0 := by omega
       subst h0; rw [rdInt_ok most l v n hu (by omega)]; exact ⟨rfl, rfl⟩)
 refine Zu ?_
 refine Zh ?_
 rcases (by omega : (e1 = 0 ∧ n ≤ l.length ∧ most < (v : Int)) ∨ (e1 = 0 ∧ n ≤ l.length ∧ ¬ most < (v : Int)) ∨ (0 < e1 ∧ e1 ≤ 3 ∧ v = 0)) with ⟨h0, h1, h2⟩ | ⟨h0, h1, h2⟩ | ⟨h0, h1, h2⟩
 ·
  refine Zd (l := [0, 1, 2, 3, 4, 5, 6, 7, 8, 9, 10, 11]) rfl ?_
  refine Za rfl rfl rfl rfl (Zc rfl rfl) ?_
  first
   | refine Za rfl rfl rfl rfl (Ze rfl rfl) ?_
   | refine Za rfl rfl rfl rfl (Zz rfl rfl) ?_
  refine Za rfl rfl rfl rfl (Zb (fo := 0) rfl Try.underlying169 rfl i_9 rfl rfl rfl) ?_
  refine Za rfl rfl rfl rfl (Zj rfl rfl (Zf 0 rfl) rfl Try.underlying9 rfl) ?_
  refine Zq (L2 := [_]) rfl rfl rfl rfl rfl rfl Try.call131 (ct_unchain _ v n e1 hu (by omega)) [] [] rfl rfl ?_
  rintro v post ⟨rfl, rfl⟩
  show G _ _ _ [_] _
  refine Za rfl rfl rfl rfl (Zc rfl rfl) ?_
  refine Za rfl rfl rfl rfl (Yd rfl rfl rfl) ?_
  refine Za rfl rfl rfl rfl (Yd rfl rfl rfl) ?_
  refine Za rfl rfl rfl rfl (Yd rfl rfl rfl) ?_
  refine Za rfl rfl rfl rfl (Zk rfl rfl) ?_
  refine Za rfl rfl rfl rfl (Zk rfl rfl) ?_
  refine Za rfl rfl rfl rfl (Zk rfl rfl) ?_
  refine Zg ?_
  refine Zh ?_
  refine Zh ?_
  refine Zd (l := [0, 1, 2, 3, 4, 5, 6, 7, 8, 9, 10, 11]) rfl ?_
  refine Za rfl rfl rfl rfl (Zc rfl rfl) ?_
  refine Za rfl rfl rfl rfl (V_eql rfl rfl rfl) ?_
  refine Za rfl rfl rfl rfl (Zc rfl rfl) ?_
  refine Xa 22 rfl (fun hc2 => ?_) (fun hc2 => ?_)
  rotate_left
  · (exfalso; omega)
  refine Za rfl rfl rfl rfl (Zc rfl rfl) ?_
  refine Za rfl rfl rfl rfl (Xn rfl rfl rfl) ?_
  refine Za rfl rfl rfl rfl (Zc rfl rfl) ?_
  refine Xa 25 rfl (fun hc3 => ?_) (fun hc3 => ?_)
  · (exfalso; omega)
  refine Za rfl rfl rfl rfl (Zc rfl rfl) ?_
  refine Za rfl rfl rfl rfl (Zc rfl rfl) ?_
  first
   | refine Za rfl rfl rfl rfl ((Xt rfl rfl Try.underlying3 Try.underlying23).int (Xm (by omega))) ?_
   | refine Za rfl rfl rfl rfl (Xt rfl rfl Try.underlying3 Try.underlying23) ?_
  refine Za rfl rfl rfl rfl (V_gtr rfl rfl rfl) ?_
  refine Za rfl rfl rfl rfl (Xg rfl rfl rfl) ?_
  refine Za rfl rfl rfl rfl (Yz rfl rfl rfl) ?_
  refine Zg ?_
  refine Yk rfl (fun hc4 => ?_) (fun hc4 => ?_)
  rotate_left
  · (exfalso; omega)
  refine Zd (l := [0]) rfl ?_
  refine Za rfl rfl rfl rfl (Zk rfl rfl) ?_
  refine Zg ?_
  refine Zh ?_
  refine Zh ?_
  refine Zd (l := [0, 1, 2, 3, 4]) rfl ?_
  refine Za rfl rfl rfl rfl (Zc rfl rfl) ?_
  refine Za rfl rfl rfl rfl (Zc rfl rfl) ?_
  refine Za rfl rfl rfl rfl (Zc rfl rfl) ?_
  refine Zq (L2 := []) rfl rfl rfl rfl rfl rfl Try.call132 (rd_took0 _ _ _ _ 4 (by omega)) [0] [] rfl rfl ?_
  rintro v post ⟨rfl, rfl⟩
  show G _ _ _ [_] _
  refine Za rfl rfl rfl rfl (V_not rfl rfl) ?_
  refine Zg ?_
  refine G_then rfl ?_
  refine Zh ?_
  refine Zd (l := [0]) rfl ?_
  refine Za rfl rfl rfl rfl (Zk rfl rfl) ?_
  refine Zg ?_
  refine Yy (post := [_]) Try.func84 rfl (Zy (Yt rfl) Zp) [0] rfl ?_
  dsimp only [packed]
  first
    | (rw [rdInt_err most l e (by omega)]; exact ⟨rfl, rfl⟩)
    | (obtain rfl : e = 0 := by omega
       rw [rdInt_bad most l v n e1 hu (by omega)]; subst h2; exact ⟨rfl, rfl⟩)
    | (obtain rfl : e = 0 := by omega
       subst h0; rw [rdInt_long most l v n hu (.inr h2)]; exact ⟨rfl, rfl⟩)
    | (obtain rfl : e = 0 := by omega
       subst h0; rw [rdInt_ok most l v n hu (by omega)]; exact ⟨rfl, rfl⟩)
 ·
  refine Zd (l := [0, 1, 2, 3, 4, 5, 6, 7, 8, 9, 10, 11]) rfl ?_
  refine Za rfl rfl rfl rfl (Zc rfl rfl) ?_
  first
   | refine Za rfl rfl rfl rfl (Ze rfl rfl) ?_
   | refine Za rfl rfl rfl rfl (Zz rfl rfl) ?_
  refine Za rfl rfl rfl rfl (Zb (fo := 0) rfl Try.underlying169 rfl i_9 rfl rfl rfl) ?_
  refine Za rfl rfl rfl rfl (Zj rfl rfl (Zf 0 rfl) rfl Try.underlying9 rfl) ?_
  refine Zq (L2 := [_]) rfl rfl rfl rfl rfl rfl Try.call131 (ct_unchain _ v n e1 hu (by omega)) [] [] rfl rfl ?_
  rintro v post ⟨rfl, rfl⟩
  show G _ _ _ [_] _
  refine Za rfl rfl rfl rfl (Zc rfl rfl) ?_
  refine Za rfl rfl rfl rfl (Yd rfl rfl rfl) ?_
  refine Za rfl rfl rfl rfl (Yd rfl rfl rfl) ?_
  refine Za rfl rfl rfl rfl (Yd rfl rfl rfl) ?_
  refine Za rfl rfl rfl rfl (Zk rfl rfl) ?_
  refine Za rfl rfl rfl rfl (Zk rfl rfl) ?_
  refine Za rfl rfl rfl rfl (Zk rfl rfl) ?_
  refine Zg ?_
  refine Zh ?_
  refine Zh ?_
  refine Zd (l := [0, 1, 2, 3, 4, 5, 6, 7, 8, 9, 10, 11]) rfl ?_
  refine Za rfl rfl rfl rfl (Zc rfl rfl) ?_
  refine Za rfl rfl rfl rfl (V_eql rfl rfl rfl) ?_
  refine Za rfl rfl rfl rfl (Zc rfl rfl) ?_
  refine Xa 22 rfl (fun hc2 => ?_) (fun hc2 => ?_)
  rotate_left
  · (exfalso; omega)
  refine Za rfl rfl rfl rfl (Zc rfl rfl) ?_
  refine Za rfl rfl rfl rfl (Xn rfl rfl rfl) ?_
  refine Za rfl rfl rfl rfl (Zc rfl rfl) ?_
  refine Xa 25 rfl (fun hc3 => ?_) (fun hc3 => ?_)
  · (exfalso; omega)
  refine Za rfl rfl rfl rfl (Zc rfl rfl) ?_
  refine Za rfl rfl rfl rfl (Zc rfl rfl) ?_
  first
   | refine Za rfl rfl rfl rfl ((Xt rfl rfl Try.underlying3 Try.underlying23).int (Xm (by omega))) ?_
   | refine Za rfl rfl rfl rfl (Xt rfl rfl Try.underlying3 Try.underlying23) ?_
  refine Za rfl rfl rfl rfl (V_gtr rfl rfl rfl) ?_
  refine Za rfl rfl rfl rfl (Xg rfl rfl rfl) ?_
  refine Za rfl rfl rfl rfl (Yz rfl rfl rfl) ?_
  refine Zg ?_
  refine Yk rfl (fun hc4 => ?_) (fun hc4 => ?_)
  · (exfalso; omega)
  refine Zu ?_
  refine Zh ?_
  refine Zh ?_
  refine Zd (l := [0, 1, 2, 3, 4]) rfl ?_
  refine Za rfl rfl rfl rfl (Zc rfl rfl) ?_
  refine Za rfl rfl rfl rfl (Zc rfl rfl) ?_
  refine Za rfl rfl rfl rfl (Zc rfl rfl) ?_
  refine Zq (L2 := []) rfl rfl rfl rfl rfl rfl Try.call132 (rd_took1 _ _ _ _ _ (by omega) (by omega)) [0] [] rfl rfl ?_
  rintro v post ⟨rfl, rfl⟩
  show G _ _ _ [_] _
  refine Za rfl rfl rfl rfl (V_not rfl rfl) ?_
  refine Zg ?_
  refine Xu rfl ?_
  refine Zu ?_
  refine Zh ?_
  refine Zd (l := [0, 1, 2]) rfl ?_
  refine Za rfl rfl rfl rfl (Zc rfl rfl) ?_
  first
   | refine Za rfl rfl rfl rfl ((Xt rfl rfl Try.underlying23 Try.underlying3).int (Zw (by omega))) ?_
   | refine Za rfl rfl rfl rfl (Xt rfl rfl Try.underlying23 Try.underlying3) ?_
  refine Za rfl rfl rfl rfl (Zk rfl rfl) ?_
  refine Zg ?_
  refine Yy (post := [_]) Try.func84 rfl (Zy (Yt rfl) Zp) [0] rfl ?_
  dsimp only [packed]
  first
    | (rw [rdInt_err most l e (by omega)]; exact ⟨rfl, rfl⟩)
    | (obtain rfl : e = 0 := by omega
       rw [rdInt_bad most l v n e1 hu (by omega)]; subst h2; exact ⟨rfl, rfl⟩)
    | (obtain rfl : e = 0 := by omega
       subst h0; rw [rdInt_long most l v n hu (.inr h2)]; exact ⟨rfl, rfl⟩)
    | (obtain rfl : e = 0 := by omega
       subst h0; rw [rdInt_ok most l v n hu (by omega)]; exact ⟨rfl, rfl⟩)
 ·
  refine Zd (l := [0, 1, 2, 3, 4, 5, 6, 7, 8, 9, 10, 11]) rfl ?_
  refine Za rfl rfl rfl rfl (Zc rfl rfl) ?_
  first
   | refine Za rfl rfl rfl rfl (Ze rfl rfl) ?_
   | refine Za rfl rfl rfl rfl (Zz rfl rfl) ?_
  refine Za rfl rfl rfl rfl (Zb (fo := 0) rfl Try.underlying169 rfl i_9 rfl rfl rfl) ?_
  refine Za rfl rfl rfl rfl (Zj rfl rfl (Zf 0 rfl) rfl Try.underlying9 rfl) ?_
  refine Zq (L2 := [_]) rfl rfl rfl rfl rfl rfl Try.call131 (ct_unchain _ v n e1 hu (by omega)) [] [] rfl rfl ?_
  rintro v post ⟨rfl, rfl⟩
  show G _ _ _ [_] _
  refine Za rfl rfl rfl rfl (Zc rfl rfl) ?_
  refine Za rfl rfl rfl rfl (Yd rfl rfl rfl) ?_
  refine Za rfl rfl rfl rfl (Yd rfl rfl rfl) ?_
  refine Za rfl rfl rfl rfl (Yd rfl rfl rfl) ?_
  refine Za rfl rfl rfl rfl (Zk rfl rfl) ?_
  refine Za rfl rfl rfl rfl (Zk rfl rfl) ?_
  refine Za rfl rfl rfl rfl (Zk rfl rfl) ?_
  refine Zg ?_
  refine Zh ?_
  refine Zh ?_
  refine Zd (l := [0, 1, 2, 3, 4, 5, 6, 7, 8, 9, 10, 11]) rfl ?_
  refine Za rfl rfl rfl rfl (Zc rfl rfl) ?_
  refine Za rfl rfl rfl rfl (V_eql rfl rfl rfl) ?_
  refine Za rfl rfl rfl rfl (Zc rfl rfl) ?_
  refine Xa 22 rfl (fun hc2 => ?_) (fun hc2 => ?_)
  · (exfalso; omega)
  refine Yb rfl rfl rfl rfl ?_
  refine Yb rfl rfl rfl rfl ?_
  refine Yb rfl rfl rfl rfl ?_
  refine Yb rfl rfl rfl rfl ?_
  refine Yb rfl rfl rfl rfl ?_
  refine Yb rfl rfl rfl rfl ?_
  refine Yb rfl rfl rfl rfl ?_
  refine Yb rfl rfl rfl rfl ?_
  refine Za rfl rfl rfl rfl (Xg rfl rfl rfl) ?_
  refine Zg ?_
  refine Xu rfl ?_
  refine Zu ?_
  refine Zh ?_
  refine Zh ?_
  refine Zd (l := [0, 1, 2, 3, 4]) rfl ?_
  refine Za rfl rfl rfl rfl (Zc rfl rfl) ?_
  refine Za rfl rfl rfl rfl (Zc rfl rfl) ?_
  refine Za rfl rfl rfl rfl (Zc rfl rfl) ?_
  refine Zq (L2 := []) rfl rfl rfl rfl rfl rfl Try.call132 (rd_took0 _ _ _ _ _ (by omega)) [0] [] rfl rfl ?_
  rintro v post ⟨rfl, rfl⟩
  show G _ _ _ [_] _
  refine Za rfl rfl rfl rfl (V_not rfl rfl) ?_
  refine Zg ?_
  refine G_then rfl ?_
  refine Zh ?_
  refine Zd (l := [0]) rfl ?_
  refine Za rfl rfl rfl rfl (Zk rfl rfl) ?_
  refine Zg ?_
  refine Yy (post := [_]) Try.func84 rfl (Zy (Yt rfl) Zp) [0] rfl ?_
  dsimp only [packed]
  first
    | (rw [rdInt_err most l e (by omega)]; exact ⟨rfl, rfl⟩)
    | (obtain rfl : e = 0 := by omega
       rw [rdInt_bad most l v n e1 hu (by omega)]; subst h2; exact ⟨rfl, rfl⟩)
    | (obtain rfl : e = 0 := by omega
       subst h0; rw [rdInt_long most l v n hu (.inr h2)]; exact ⟨rfl, rfl⟩)
    | (obtain rfl : e = 0 := by omega
       subst h0; rw [rdInt_ok most l v n hu (by omega)]; exact ⟨rfl, rfl⟩)

set_option maxRecDepth 100000 in
set_option maxHeartbeats 1000000 in
theorem rd_str (b : Nat) (l : List UInt8) (e : Nat) (most : Int) (hl : l.length ≤ 140737488351232) (he : e ≤ 1000) (hm : 0 ≤ most ∧ most ≤ 4611686018427387904) :
    Ct Try.prog 134 [.pointer (some ⟨b, 0, none⟩), .int .i64 most] [] [(some b, .cells #[.string (bs l), .int .i64 ((e : Nat) : Int)] 169 (0, 0))] fun r post => r = .string (bs (rdStr most l e).1) ∧ post = [(some b, .cells #[.string (bs (rdStr most l e).2.1), .int .i64 (((rdStr most l e).2.2 : Nat) : Int)] 169 (0, 0))] := by
 obtain ⟨s, n, e1, hu⟩ : ∃ s n e1, untext l most = (s, n, e1) := ⟨_, _, _, rfl⟩
 refine Yu Try.func134 rfl rfl (fun w0 => ?_)
 show G _ _ [(0, _), (1, _)] _ _
 refine Zh ?_
 refine Zd (l := [0]) rfl ?_
 refine Za rfl rfl rfl rfl (Zk rfl rfl) ?_
 refine Zg ?_
 refine Zh ?_
 refine Zh ?_
 refine Zd (l := [0, 1, 2]) rfl ?_
 refine Za rfl rfl rfl rfl (Zc rfl rfl) ?_
 refine Zq (L2 := [_]) rfl rfl rfl rfl rfl rfl Try.call130 (rd_ok _ _ _) [] [0] rfl rfl ?_
 rintro v post ⟨rfl, rfl⟩
 show G _ _ _ [_] _
 refine Za rfl rfl rfl rfl (V_notD rfl rfl) ?_
 refine Zg ?_
 refine Yk rfl (fun hc1 => ?_) (fun hc1 => ?_)
 ·
  refine Zh ?_
  refine Zd (l := [0]) rfl ?_
  refine Za rfl rfl rfl rfl (Zk rfl rfl) ?_
  refine Zg ?_
  refine Yy (post := [_]) Try.func134 rfl (Zy (Yt rfl) Zp) [0] rfl ?_
  dsimp only [packed]
  first
    | (rw [rdStr_err most l e (by omega)]; exact ⟨rfl, rfl⟩)
    | (obtain rfl : e = 0 := by omega
       rw [rdStr_bad most l s n e1 hu (by omega)]; subst h0; exact ⟨rfl, rfl⟩)
    | (obtain rfl : e = 0 := by omega
       subst h0; rw [rdStr_ok most l s n hu]; exact ⟨rfl, rfl⟩)
 refine Zu ?_
 refine Zh ?_
 rcases untext_ok l most s n e1 hu with ⟨h0, h1, h2, h3⟩ | ⟨h0, h1, h2, h3⟩
 ·
  refine Zd (l := [0, 1, 2, 3, 4, 5, 6, 7, 8, 9, 10, 11, 12]) rfl ?_
  refine Za rfl rfl rfl rfl (Zc rfl rfl) ?_
  first
   | refine Za rfl rfl rfl rfl (Ze rfl rfl) ?_
   | refine Za rfl rfl rfl rfl (Zz rfl rfl) ?_
  refine Za rfl rfl rfl rfl (Zb (fo := 0) rfl Try.underlying169 rfl i_9 rfl rfl rfl) ?_
  refine Za rfl rfl rfl rfl (Zj rfl rfl (Zf 0 rfl) rfl Try.underlying9 rfl) ?_
  refine Za rfl rfl rfl rfl (Zc rfl rfl) ?_
  refine Zq (L2 := [_]) rfl rfl rfl rfl rfl rfl Try.call152 (ct_untext _ _ s n e1 hu (by omega) hm) [] [] rfl rfl ?_
  rintro v post ⟨rfl, rfl⟩
  show G _ _ _ [_] _
  refine Za rfl rfl rfl rfl (Zc rfl rfl) ?_
  refine Za rfl rfl rfl rfl (Yd rfl rfl rfl) ?_
  refine Za rfl rfl rfl rfl (Yd rfl rfl rfl) ?_
  refine Za rfl rfl rfl rfl (Yd rfl rfl rfl) ?_
  refine Za rfl rfl rfl rfl (Zk rfl rfl) ?_
  refine Za rfl rfl rfl rfl (Zk rfl rfl) ?_
  refine Za rfl rfl rfl rfl (Zk rfl rfl) ?_
  refine Zg ?_
  refine Zh ?_
  refine Zd (l := [0, 1, 2, 3]) rfl ?_
  refine Za rfl rfl rfl rfl (Zc rfl rfl) ?_
  refine Za rfl rfl rfl rfl (Zc rfl rfl) ?_
  refine Za rfl rfl rfl rfl (Zc rfl rfl) ?_
  refine Zq (L2 := []) rfl rfl rfl rfl rfl rfl Try.call132 (rd_took1 _ _ _ _ _ (by omega) (by omega)) [0] [] rfl rfl ?_
  rintro v post ⟨rfl, rfl⟩
  show G _ _ _ [_] _
  refine Zg ?_
  refine Zh ?_
  refine Zd (l := [0, 1]) rfl ?_
  refine Za rfl rfl rfl rfl (Zc rfl rfl) ?_
  refine Za rfl rfl rfl rfl (Zk rfl rfl) ?_
  refine Zg ?_
  refine Yy (post := [_]) Try.func134 rfl (Zy (Yt rfl) Zp) [0] rfl ?_
  dsimp only [packed]
  first
    | (rw [rdStr_err most l e (by omega)]; exact ⟨rfl, rfl⟩)
    | (obtain rfl : e = 0 := by omega
       rw [rdStr_bad most l s n e1 hu (by omega)]; subst h0; exact ⟨rfl, rfl⟩)
    | (obtain rfl : e = 0 := by omega
       subst h0; rw [rdStr_ok most l s n hu]; exact ⟨rfl, rfl⟩)
 ·
  refine Zd (l := [0, 1, 2, 3, 4, 5, 6, 7, 8, 9, 10, 11, 12]) rfl ?_
  refine Za rfl rfl rfl rfl (Zc rfl rfl) ?_
  first
   | refine Za rfl rfl rfl rfl (Ze rfl rfl) ?_
   | refine Za rfl rfl rfl rfl (Zz rfl rfl) ?_
  refine Za rfl rfl rfl rfl (Zb (fo := 0) rfl Try.underlying169 rfl i_9 rfl rfl rfl) ?_
  refine Za rfl rfl rfl rfl (Zj rfl rfl (Zf 0 rfl) rfl Try.underlying9 rfl) ?_
  refine Za rfl rfl rfl rfl (Zc rfl rfl) ?_
  refine Zq (L2 := [_]) rfl rfl rfl rfl rfl rfl Try.call152 (ct_untext _ _ s n e1 hu (by omega) hm) [] [] rfl rfl ?_
  rintro v post ⟨rfl, rfl⟩
  show G _ _ _ [_] _
  refine Za rfl rfl rfl rfl (Zc rfl rfl) ?_
  refine Za rfl rfl rfl rfl (Yd rfl rfl rfl) ?_
  refine Za rfl rfl rfl rfl (Yd rfl rfl rfl) ?_
  refine Za rfl rfl rfl rfl (Yd rfl rfl rfl) ?_
  refine Za rfl rfl rfl rfl (Zk rfl rfl) ?_
  refine Za rfl rfl rfl rfl (Zk rfl rfl) ?_
  refine Za rfl rfl rfl rfl (Zk rfl rfl) ?_
  refine Zg ?_
  refine Zh ?_
  refine Zd (l := [0, 1, 2, 3]) rfl ?_
  refine Za rfl rfl rfl rfl (Zc rfl rfl) ?_
  refine Za rfl rfl rfl rfl (Zc rfl rfl) ?_
  refine Za rfl rfl rfl rfl (Zc rfl rfl) ?_
  refine Zq (L2 := []) rfl rfl rfl rfl rfl rfl Try.call132 (rd_took0 _ _ _ _ _ (by omega)) [0] [] rfl rfl ?_
  rintro v post ⟨rfl, rfl⟩
  show G _ _ _ [_] _
  refine Zg ?_
  refine Zh ?_
  refine Zd (l := [0, 1]) rfl ?_
  refine Za rfl rfl rfl rfl (Zc rfl rfl) ?_
  refine Za rfl rfl rfl rfl (Zk rfl rfl) ?_
  refine Zg ?_
  refine Yy (post := [_]) Try.func134 rfl (Zy (Yt rfl) Zp) [0] rfl ?_
  dsimp only [packed]
  first
    | (rw [rdStr_err most l e (by omega)]; exact ⟨rfl, rfl⟩)
    | (obtain rfl : e = 0 := by omega
       rw [rdStr_bad most l s n e1 hu (by omega)]; subst h0; exact ⟨rfl, rfl⟩)
    | (obtain rfl : e = 0 := by omega
       subst h0; rw [rdStr_ok most l s n hu]; exact ⟨rfl, rfl⟩)

set_option maxRecDepth 100000 in
set_option maxHeartbeats 1000000 in
theorem rd_flag (b : Nat) (l : List UInt8) (e : Nat) (hl : l.length ≤ 140737488351232) (he : e ≤ 1000) :
    Ct Try.prog 141 [.pointer (some ⟨b, 0, none⟩)] [] [(some b, .cells #[.string (bs l), .int .i64 ((e : Nat) : Int)] 169 (0, 0))] fun r post => r = .bool (rdFlag l e).1 ∧ post = [(some b, .cells #[.string (bs (rdFlag l e).2.1), .int .i64 (((rdFlag l e).2.2 : Nat) : Int)] 169 (0, 0))] := by
 obtain ⟨v, n, e1, hu⟩ : ∃ v n e1, unchain l = (v, n, e1) := ⟨_, _, _, rfl⟩
 obtain ⟨hv, hb⟩ := unchain_bd hu
 refine Yu Try.func141 rfl rfl (fun w0 => ?_)
 show G _ _ [(0, _)] _ _
 refine Zh ?_
 refine Zd (l := [0]) rfl ?_
 refine Za rfl rfl rfl rfl (Zk rfl rfl) ?_
 refine Zg ?_
 refine Zh ?_
 refine Zh ?_
 refine Zd (l := [0, 1, 2]) rfl ?_
 refine Za rfl rfl rfl rfl (Zc rfl rfl) ?_
 refine Zq (L2 := [_]) rfl rfl rfl rfl rfl rfl Try.call130 (rd_ok _ _ _) [] [0] rfl rfl ?_
 rintro v post ⟨rfl, rfl⟩
 show G _ _ _ [_] _
 refine Za rfl rfl rfl rfl (V_notD rfl rfl) ?_
 refine Zg ?_
 refine Yk rfl (fun hc1 => ?_) (fun hc1 => ?_)
 ·
  refine Zh ?_
  refine Zd (l := [0]) rfl ?_
  refine Za rfl rfl rfl rfl (Zk rfl rfl) ?_
  refine Zg ?_
  refine Yy (post := [_]) Try.func141 rfl (Zy (Yt rfl) Zp) [0] rfl ?_
  dsimp only [packed]
  first
    | (rw [rdFlag_err l e (by omega)]; exact ⟨rfl, rfl⟩)
    | (obtain rfl : e = 0 := by omega
       rw [rdFlag_bad l v n e1 hu (by omega)]; exact ⟨rfl, rfl⟩)
    | (obtain rfl : e = 0 := by omega
       subst h0; rw [rdFlag_long l v n hu h2]; exact ⟨rfl, rfl⟩)
    | (obtain rfl : e = 0 := by omega
       subst h0; rw [rdFlag_ok l v n hu h2]; refine ⟨bool_eq (Bool.eq_iff_iff.2 ?_), rfl⟩; first | (simp; done) | (simp; omega) | (simp [*]; done))
 refine Zu ?_
 refine Zh ?_
 rcases (by omega : (e1 = 0 ∧ n ≤ l.length ∧ 1 < v) ∨ (e1 = 0 ∧ n ≤ l.length ∧ ¬ 1 < v) ∨ (0 < e1 ∧ e1 ≤ 3 ∧ v = 0)) with ⟨h0, h1, h2⟩ | ⟨h0, h1, h2⟩ | ⟨h0, h1, h2⟩
 ·
  refine Zd (l := [0, 1, 2, 3, 4, 5, 6, 7, 8, 9, 10, 11]) rfl ?_
  refine Za rfl rfl rfl rfl (Zc rfl rfl) ?_
  first
   | refine Za rfl rfl rfl rfl (Ze rfl rfl) ?_
   | refine Za rfl rfl rfl rfl (Zz rfl rfl) ?_
  refine Za rfl rfl rfl rfl (Zb (fo := 0) rfl Try.underlying169 rfl i_9 rfl rfl rfl) ?_
  refine Za rfl rfl rfl rfl (Zj rfl rfl (Zf 0 rfl) rfl Try.underlying9 rfl) ?_
  refine Zq (L2 := [_]) rfl rfl rfl rfl rfl rfl Try.call131 (ct_unchain _ v n e1 hu (by omega)) [] [] rfl rfl ?_
  rintro v post ⟨rfl, rfl⟩
  show G _ _ _ [_] _
  refine Za rfl rfl rfl rfl (Zc rfl rfl) ?_
  refine Za rfl rfl rfl rfl (Yd rfl rfl rfl) ?_
  refine Za rfl rfl rfl rfl (Yd rfl rfl rfl) ?_
  refine Za rfl rfl rfl rfl (Yd rfl rfl rfl) ?_
  refine Za rfl rfl rfl rfl (Zk rfl rfl) ?_
  refine Za rfl rfl rfl rfl (Zk rfl rfl) ?_
  refine Za rfl rfl rfl rfl (Zk rfl rfl) ?_
  refine Zg ?_
  refine Zh ?_
  refine Zh ?_
  refine Zd (l := [0, 1, 2, 3, 4, 5]) rfl ?_
  refine Za rfl rfl rfl rfl (Zc rfl rfl) ?_
  refine Za rfl rfl rfl rfl (V_eql rfl rfl rfl) ?_
  refine Za rfl rfl rfl rfl (Zc rfl rfl) ?_
  refine Xa 20 rfl (fun hc2 => ?_) (fun hc2 => ?_)
  rotate_left
  · (exfalso; omega)
  refine Za rfl rfl rfl rfl (Zc rfl rfl) ?_
  refine Za rfl rfl rfl rfl (V_gtr rfl rfl rfl) ?_
  refine Za rfl rfl rfl rfl (Yz rfl rfl rfl) ?_
  refine Zg ?_
  refine Yk rfl (fun hc3 => ?_) (fun hc3 => ?_)
  rotate_left
  · (exfalso; omega)
  refine Zd (l := [0]) rfl ?_
  refine Za rfl rfl rfl rfl (Zk rfl rfl) ?_
  refine Zg ?_
  refine Zh ?_
  refine Zd (l := [0, 1, 2, 3, 4, 5, 6, 7, 8]) rfl ?_
  refine Za rfl rfl rfl rfl (Zc rfl rfl) ?_
  refine Za rfl rfl rfl rfl (Zc rfl rfl) ?_
  refine Za rfl rfl rfl rfl (Zc rfl rfl) ?_
  refine Zq (L2 := []) rfl rfl rfl rfl rfl rfl Try.call132 (rd_took0 _ _ _ _ 3 (by omega)) [0] [] rfl rfl ?_
  rintro v post ⟨rfl, rfl⟩
  show G _ _ _ [_] _
  refine Za rfl rfl rfl rfl (Zc rfl rfl) ?_
  refine Yb rfl rfl rfl rfl ?_
  refine Yb rfl rfl rfl rfl ?_
  refine Za rfl rfl rfl rfl (Xg rfl rfl rfl) ?_
  refine Za rfl rfl rfl rfl (Zk rfl rfl) ?_
  refine Zg ?_
  refine Yy (post := [_]) Try.func141 rfl (Zy (Yt rfl) Zp) [0] rfl ?_
  dsimp only [packed]
  first
    | (rw [rdFlag_err l e (by omega)]; exact ⟨rfl, rfl⟩)
    | (obtain rfl : e = 0 := by omega
       rw [rdFlag_bad l v n e1 hu (by omega)]; exact ⟨rfl, rfl⟩)
    | (obtain rfl : e = 0 := by omega
       subst h0; rw [rdFlag_long l v n hu h2]; exact ⟨rfl, rfl⟩)
    | (obtain rfl : e = 0 := by omega
       subst h0; rw [rdFlag_ok l v n hu h2]; refine ⟨bool_eq (Bool.eq_iff_iff.2 ?_), rfl⟩; first | (simp; done) | (simp; omega) | (simp [*]; done))
 ·
  refine Zd (l := [0, 1, 2, 3, 4, 5, 6, 7, 8, 9, 10, 11]) rfl ?_
  refine Za rfl rfl rfl rfl (Zc rfl rfl) ?_
  first
   | refine Za rfl rfl rfl rfl (Ze rfl rfl) ?_
   | refine Za rfl rfl rfl rfl (Zz rfl rfl) ?_
  refine Za rfl rfl rfl rfl (Zb (fo := 0) rfl Try.underlying169 rfl i_9 rfl rfl rfl) ?_
  refine Za rfl rfl rfl rfl (Zj rfl rfl (Zf 0 rfl) rfl Try.underlying9 rfl) ?_
  refine Zq (L2 := [_]) rfl rfl rfl rfl rfl rfl Try.call131 (ct_unchain _ v n e1 hu (by omega)) [] [] rfl rfl ?_
  rintro v post ⟨rfl, rfl⟩
  show G _ _ _ [_] _
  refine Za rfl rfl rfl rfl (Zc rfl rfl) ?_
  refine Za rfl rfl rfl rfl (Yd rfl rfl rfl) ?_
  refine Za rfl rfl rfl rfl (Yd rfl rfl rfl) ?_
  refine Za rfl rfl rfl rfl (Yd rfl rfl rfl) ?_
  refine Za rfl rfl rfl rfl (Zk rfl rfl) ?_
  refine Za rfl rfl rfl rfl (Zk rfl rfl) ?_
  refine Za rfl rfl rfl rfl (Zk rfl rfl) ?_
  refine Zg ?_
  refine Zh ?_
  refine Zh ?_
  refine Zd (l := [0, 1, 2, 3, 4, 5]) rfl ?_
  refine Za rfl rfl rfl rfl (Zc rfl rfl) ?_
  refine Za rfl rfl rfl rfl (V_eql rfl rfl rfl) ?_
  refine Za rfl rfl rfl rfl (Zc rfl rfl) ?_
  refine Xa 20 rfl (fun hc2 => ?_) (fun hc2 => ?_)
  rotate_left
  · (exfalso; omega)
  refine Za rfl rfl rfl rfl (Zc rfl rfl) ?_
  refine Za rfl rfl rfl rfl (V_gtr rfl rfl rfl) ?_
  refine Za rfl rfl rfl rfl (Yz rfl rfl rfl) ?_
  refine Zg ?_
  refine Yk rfl (fun hc3 => ?_) (fun hc3 => ?_)
  · (exfalso; omega)
  refine Zu ?_
  refine Zh ?_
  refine Zd (l := [0, 1, 2, 3, 4, 5, 6, 7, 8]) rfl ?_
  refine Za rfl rfl rfl rfl (Zc rfl rfl) ?_
  refine Za rfl rfl rfl rfl (Zc rfl rfl) ?_
  refine Za rfl rfl rfl rfl (Zc rfl rfl) ?_
  refine Zq (L2 := []) rfl rfl rfl rfl rfl rfl Try.call132 (rd_took1 _ _ _ _ _ (by omega) (by omega)) [0] [] rfl rfl ?_
  rintro v post ⟨rfl, rfl⟩
  show G _ _ _ [_] _
  refine Za rfl rfl rfl rfl (Zc rfl rfl) ?_
  refine Za rfl rfl rfl rfl (Zc rfl rfl) ?_
  refine Za rfl rfl rfl rfl (V_eql rfl rfl rfl) ?_
  refine Za rfl rfl rfl rfl (Yz rfl rfl rfl) ?_
  refine Za rfl rfl rfl rfl (Zk rfl rfl) ?_
  refine Zg ?_
  refine Yy (post := [_]) Try.func141 rfl (Zy (Yt rfl) Zp) [0] rfl ?_
  dsimp only [packed]
  first
    | (rw [rdFlag_err l e (by omega)]; exact ⟨rfl, rfl⟩)
    | (obtain rfl : e = 0 := by omega
       rw [rdFlag_bad l v n e1 hu (by omega)]; exact ⟨rfl, rfl⟩)
    | (obtain rfl : e = 0 := by omega
       subst h0; rw [rdFlag_long l v n hu h2]; exact ⟨rfl, rfl⟩)
    | (obtain rfl : e = 0 := by omega
       subst h0; rw [rdFlag_ok l v n hu h2]; refine ⟨bool_eq (Bool.eq_iff_iff.2 ?_), rfl⟩; first | (simp; done) | (simp; omega) | (simp [*]; done))
 ·
  refine Zd (l := [0, 1, 2, 3, 4, 5, 6, 7, 8, 9, 10, 11]) rfl ?_
  refine Za rfl rfl rfl rfl (Zc rfl rfl) ?_
  first
   | refine Za rfl rfl rfl rfl (Ze rfl rfl) ?_
   | refine Za rfl rfl rfl rfl (Zz rfl rfl) ?_
  refine Za rfl rfl rfl rfl (Zb (fo := 0) rfl Try.underlying169 rfl i_9 rfl rfl rfl) ?_
  refine Za rfl rfl rfl rfl (Zj rfl rfl (Zf 0 rfl) rfl Try.underlying9 rfl) ?_
  refine Zq (L2 := [_]) rfl rfl rfl rfl rfl rfl Try.call131 (ct_unchain _ v n e1 hu (by omega)) [] [] rfl rfl ?_
  rintro v post ⟨rfl, rfl⟩
  show G _ _ _ [_] _
  refine Za rfl rfl rfl rfl (Zc rfl rfl) ?_
  refine Za rfl rfl rfl rfl (Yd rfl rfl rfl) ?_
  refine Za rfl rfl rfl rfl (Yd rfl rfl rfl) ?_
  refine Za rfl rfl rfl rfl (Yd rfl rfl rfl) ?_
  refine Za rfl rfl rfl rfl (Zk rfl rfl) ?_
  refine Za rfl rfl rfl rfl (Zk rfl rfl) ?_
  refine Za rfl rfl rfl rfl (Zk rfl rfl) ?_
  refine Zg ?_
  refine Zh ?_
  refine Zh ?_
  refine Zd (l := [0, 1, 2, 3, 4, 5]) rfl ?_
  refine Za rfl rfl rfl rfl (Zc rfl rfl) ?_
  refine Za rfl rfl rfl rfl (V_eql rfl rfl rfl) ?_
  refine Za rfl rfl rfl rfl (Zc rfl rfl) ?_
  refine Xa 20 rfl (fun hc2 => ?_) (fun hc2 => ?_)
  · (exfalso; omega)
  refine Yb rfl rfl rfl rfl ?_
  refine Yb rfl rfl rfl rfl ?_
  refine Za rfl rfl rfl rfl (Xg rfl rfl rfl) ?_
  refine Zg ?_
  refine Xu rfl ?_
  refine Zu ?_
  refine Zh ?_
  refine Zd (l := [0, 1, 2, 3, 4, 5, 6, 7, 8]) rfl ?_
  refine Za rfl rfl rfl rfl (Zc rfl rfl) ?_
  refine Za rfl rfl rfl rfl (Zc rfl rfl) ?_
  refine Za rfl rfl rfl rfl (Zc rfl rfl) ?_
  refine Zq (L2 := []) rfl rfl rfl rfl rfl rfl Try.call132 (rd_took0 _ _ _ _ _ (by omega)) [0] [] rfl rfl ?_
  rintro v post ⟨rfl, rfl⟩
  show G _ _ _ [_] _
  refine Za rfl rfl rfl rfl (Zc rfl rfl) ?_
  refine Yb rfl rfl rfl rfl ?_
  refine Yb rfl rfl rfl rfl ?_
  refine Za rfl rfl rfl rfl (Xg rfl rfl rfl) ?_
  refine Za rfl rfl rfl rfl (Zk rfl rfl) ?_
  refine Zg ?_
  refine Yy (post := [_]) Try.func141 rfl (Zy (Yt rfl) Zp) [0] rfl ?_
  dsimp only [packed]
  first
    | (rw [rdFlag_err l e (by omega)]; exact ⟨rfl, rfl⟩)
    | (obtain rfl : e = 0 := by omega
       rw [rdFlag_bad l v n e1 hu (by omega)]; exact ⟨rfl, rfl⟩)
    | (obtain rfl : e = 0 := by omega
       subst h0; rw [rdFlag_long l v n hu h2]; exact ⟨rfl, rfl⟩)
    | (obtain rfl : e = 0 := by omega
       subst h0; rw [rdFlag_ok l v n hu h2]; refine ⟨bool_eq (Bool.eq_iff_iff.2 ?_), rfl⟩; first | (simp; done) | (simp; omega) | (simp [*]; done))

set_option maxRecDepth 100000 in
set_option maxHeartbeats 1000000 in
theorem rd_end (b : Nat) (l : List UInt8) (e : Nat) :
    Ct Try.prog 35 [.pointer (some ⟨b, 0, none⟩)] [(some b, .cells #[.string (bs l), .int .i64 ((e : Nat) : Int)] 169 (0, 0))] [] fun r post => r = .int .i64 ((rdEnd l e : Nat) : Int) ∧ post = [] := by
 refine Yu Try.func35 rfl rfl (fun w0 => ?_)
 show G _ _ [(0, _)] _ _
 refine Zh ?_
 refine Zd (l := [0]) rfl ?_
 refine Za rfl rfl rfl rfl (Zk rfl rfl) ?_
 refine Zg ?_
 refine Zh ?_
 refine Zh ?_
 refine Zd (l := [0, 1, 2]) rfl ?_
 refine Za rfl rfl rfl rfl (Zc rfl rfl) ?_
 refine Zq (L2 := []) rfl rfl rfl rfl rfl rfl Try.call86 (rd_err _ _ _) [] [0] rfl rfl ?_
 rintro v post ⟨rfl, rfl⟩
 refine Za rfl rfl rfl rfl (Zk rfl rfl) ?_
 refine Zg ?_
 refine Zh ?_
 refine Zd (l := [0, 1]) rfl ?_
 refine Za rfl rfl rfl rfl (Zc rfl rfl) ?_
 refine Za rfl rfl rfl rfl (V_neq rfl rfl rfl) ?_
 refine Zg ?_
 refine Yk rfl (fun hc1 => ?_) (fun hc1 => ?_)
 ·
  refine Zh ?_
  refine Zd (l := [0, 1]) rfl ?_
  refine Za rfl rfl rfl rfl (Zc rfl rfl) ?_
  refine Za rfl rfl rfl rfl (Zk rfl rfl) ?_
  refine Zg ?_
  refine Yy (post := []) Try.func35 rfl (Zy (Yt rfl) Zp) [] rfl ?_
  dsimp only [packed]
  refine ⟨?_, rfl⟩; unfold rdEnd; first | (rw [if_pos (by omega)]; done) | (rw [if_neg (by omega), if_neg (by assumption)]; rfl) | (rw [if_neg (by omega), if_pos (Classical.not_not.1 (by assumption))]; rfl) | (rw [if_neg (by omega), if_pos (by assumption)]; rfl)
 refine Zu ?_
 refine Zh ?_
 refine Zh ?_
 refine Zd (l := [0, 1, 2, 3, 4]) rfl ?_
 refine Za rfl rfl rfl rfl (Zc rfl rfl) ?_
 first
  | refine Za rfl rfl rfl rfl (Ze rfl rfl) ?_
  | refine Za rfl rfl rfl rfl (Zz rfl rfl) ?_
 refine Za rfl rfl rfl rfl (Zb (fo := 0) rfl Try.underlying169 rfl i_9 rfl rfl rfl) ?_
 refine Za rfl rfl rfl rfl (Zj rfl rfl (Zf 0 rfl) rfl Try.underlying9 rfl) ?_
 refine Za rfl rfl rfl rfl (V_sneq rfl rfl rfl) ?_
 refine Zg ?_
 refine Yk rfl (fun hc2 => ?_) (fun hc2 => ?_)
 ·
  refine Zh ?_
  refine Zd (l := [0]) rfl ?_
  refine Za rfl rfl rfl rfl (Zk rfl rfl) ?_
  refine Zg ?_
  refine Yy (post := []) Try.func35 rfl (Zy (Yt rfl) Zp) [] rfl ?_
  dsimp only [packed]
  refine ⟨?_, rfl⟩; unfold rdEnd; first | (rw [if_pos (by omega)]; done) | (rw [if_neg (by omega), if_neg (by assumption)]; rfl) | (rw [if_neg (by omega), if_pos (Classical.not_not.1 (by assumption))]; rfl) | (rw [if_neg (by omega), if_pos (by assumption)]; rfl)
 refine Zu ?_
 refine Zh ?_
 refine Zd (l := [0]) rfl ?_
 refine Za rfl rfl rfl rfl (Zk rfl rfl) ?_
 refine Zg ?_
 refine Yy (post := []) Try.func35 rfl (Zy (Yt rfl) Zp) [] rfl ?_
 dsimp only [packed]
 refine ⟨?_, rfl⟩; unfold rdEnd; first | (rw [if_pos (by omega)]; done) | (rw [if_neg (by omega), if_neg (by assumption)]; rfl) | (rw [if_neg (by omega), if_pos (Classical.not_not.1 (by assumption))]; rfl) | (rw [if_neg (by omega), if_pos (by assumption)]; rfl)

set_option maxRecDepth 100000 in
set_option maxHeartbeats 1000000 in
theorem rrd_num (b : Nat) (l : List UInt8) (e : Nat) (hl : l.length ≤ 140737488351232) (he : e ≤ 1000) :
    Ct Try.prog 36 [.pointer (some ⟨b, 0, none⟩)] [] [(some b, .cells #[.string (bs l), .int .i64 ((e : Nat) : Int)] 86 (0, 0))] fun r post => r = .int .u64 (((rdNum l e).1 : Nat) : Int) ∧ post = [(some b, .cells #[.string (bs (rdNum l e).2.1), .int .i64 (((rdNum l e).2.2 : Nat) : Int)] 86 (0, 0))] := by
 obtain ⟨v, n, e1, hu⟩ : ∃ v n e1, unchain l = (v, n, e1) := ⟨_, _, _, rfl⟩
 obtain ⟨hv, hb⟩ := unchain_bd hu
 refine Yu Try.func36 rfl rfl (fun w0 => ?_)
 show G _ _ [(0, _)] _ _
 refine Zh ?_
 refine Zd (l := [0]) rfl ?_
 refine Za rfl rfl rfl rfl (Zk rfl rfl) ?_
 refine Zg ?_
 refine Zh ?_
 refine Zh ?_
 refine Zd (l := [0, 1, 2, 3, 4]) rfl ?_
 refine Za rfl rfl rfl rfl (Zc rfl rfl) ?_
 first
  | refine Za rfl rfl rfl rfl (Ze rfl rfl) ?_
  | refine Za rfl rfl rfl rfl (Zz rfl rfl) ?_
 refine Za rfl rfl rfl rfl (Zb (fo := 1) rfl Try.underlying86 rfl i_3 rfl rfl rfl) ?_
 refine Za rfl rfl rfl rfl (Zj rfl rfl (Zf 0 rfl) rfl Try.underlying3 rfl) ?_
 refine Za rfl rfl rfl rfl (V_neq rfl rfl rfl) ?_
 refine Zg ?_
 refine Yk rfl (fun hc1 => ?_) (fun hc1 => ?_)
 ·
  refine Zh ?_
  refine Zd (l := [0]) rfl ?_
  refine Za rfl rfl rfl rfl (Zk rfl rfl) ?_
  refine Zg ?_
  refine Yy (post := [_]) Try.func36 rfl (Zy (Yt rfl) Zp) [0] rfl ?_
  dsimp only [packed]
  first
    | (rw [rdNum_err l e (by omega)]; exact ⟨rfl, rfl⟩)
    | (obtain rfl : e = 0 := by omega
       rw [rdNum_bad l v n e1 hu (by omega)]; subst h2; exact ⟨rfl, rfl⟩)
    | (obtain rfl : e = 0 := by omega
       subst h0; rw [rdNum_ok l v n hu]; exact ⟨rfl, rfl⟩)
 refine Zu ?_
 refine Zh ?_
 rcases hb with ⟨h0, h1, h2, h3⟩ | ⟨h0, h1, h2⟩
 ·
  refine Zd (l := [0, 1, 2, 3, 4, 5, 6, 7, 8, 9, 10, 11]) rfl ?_
  refine Za rfl rfl rfl rfl (Zc rfl rfl) ?_
  first
   | refine Za rfl rfl rfl rfl (Ze rfl rfl) ?_
   | refine Za rfl rfl rfl rfl (Zz rfl rfl) ?_
  refine Za rfl rfl rfl rfl (Zb (fo := 0) rfl Try.underlying86 rfl i_9 rfl rfl rfl) ?_
  refine Za rfl rfl rfl rfl (Zj rfl rfl (Zf 0 rfl) rfl Try.underlying9 rfl) ?_
  refine Zq (L2 := [_]) rfl rfl rfl rfl rfl rfl Try.call111 (ct_runchain _ v n e1 hu (by omega)) [] [] rfl rfl ?_
  rintro v post ⟨rfl, rfl⟩
  show G _ _ _ [_] _
  refine Za rfl rfl rfl rfl (Zc rfl rfl) ?_
  refine Za rfl rfl rfl rfl (Yd rfl rfl rfl) ?_
  refine Za rfl rfl rfl rfl (Yd rfl rfl rfl) ?_
  refine Za rfl rfl rfl rfl (Yd rfl rfl rfl) ?_
  refine Za rfl rfl rfl rfl (Zk rfl rfl) ?_
  refine Za rfl rfl rfl rfl (Zk rfl rfl) ?_
  refine Za rfl rfl rfl rfl (Zk rfl rfl) ?_
  refine Zg ?_
  refine Zh ?_
  refine Zd (l := [0, 1, 2, 3]) rfl ?_
  refine Za rfl rfl rfl rfl (Zc rfl rfl) ?_
  refine Za rfl rfl rfl rfl (Zc rfl rfl) ?_
  refine Za rfl rfl rfl rfl (Zc rfl rfl) ?_
  refine Zq (L2 := []) rfl rfl rfl rfl rfl rfl Try.call112 (rrd_took1 _ _ _ _ _ (by omega) (by omega)) [0] [] rfl rfl ?_
  rintro v post ⟨rfl, rfl⟩
  show G _ _ _ [_] _
  refine Zg ?_
  refine Zh ?_
  refine Zd (l := [0, 1]) rfl ?_
  refine Za rfl rfl rfl rfl (Zc rfl rfl) ?_
  refine Za rfl rfl rfl rfl (Zk rfl rfl) ?_
  refine Zg ?_
  refine Yy (post := [_]) Try.func36 rfl (Zy (Yt rfl) Zp) [0] rfl ?_
  dsimp only [packed]
  first
    | (rw [rdNum_err l e (by omega)]; exact ⟨rfl, rfl⟩)
    | (obtain rfl : e = 0 := by omega
       rw [rdNum_bad l v n e1 hu (by omega)]; subst h2; exact ⟨rfl, rfl⟩)
    | (obtain rfl : e = 0 := by omega
       subst h0; rw [rdNum_ok l v n hu]; exact ⟨rfl, rfl⟩)
 ·
  refine Zd (l := [0, 1, 2, 3, 4, 5, 6, 7, 8, 9, 10, 11]) rfl ?_
  refine Za rfl rfl rfl rfl (Zc rfl rfl) ?_
  first
   | refine Za rfl rfl rfl rfl (Ze rfl rfl) ?_
   | refine Za rfl rfl rfl rfl (Zz rfl rfl) ?_
  refine Za rfl rfl rfl rfl (Zb (fo := 0) rfl Try.underlying86 rfl i_9 rfl rfl rfl) ?_
  refine Za rfl rfl rfl rfl (Zj rfl rfl (Zf 0 rfl) rfl Try.underlying9 rfl) ?_
  refine Zq (L2 := [_]) rfl rfl rfl rfl rfl rfl Try.call111 (ct_runchain _ v n e1 hu (by omega)) [] [] rfl rfl ?_
  rintro v post ⟨rfl, rfl⟩
  show G _ _ _ [_] _
  refine Za rfl rfl rfl rfl (Zc rfl rfl) ?_
  refine Za rfl rfl rfl rfl (Yd rfl rfl rfl) ?_
  refine Za rfl rfl rfl rfl (Yd rfl rfl rfl) ?_
  refine Za rfl rfl rfl rfl (Yd rfl rfl rfl) ?_
  refine Za rfl rfl rfl rfl (Zk rfl rfl) ?_
  refine Za rfl rfl rfl rfl (Zk rfl rfl) ?_
  refine Za rfl rfl rfl rfl (Zk rfl rfl) ?_
  refine Zg ?_
  refine Zh ?_
  refine Zd (l := [0, 1, 2, 3]) rfl ?_
  refine Za rfl rfl rfl rfl (Zc rfl rfl) ?_
  refine Za rfl rfl rfl rfl (Zc rfl rfl) ?_
  refine Za rfl rfl rfl rfl (Zc rfl rfl) ?_
  refine Zq (L2 := []) rfl rfl rfl rfl rfl rfl Try.call112 (rrd_took0 _ _ _ _ _ (by omega)) [0] [] rfl rfl ?_
  rintro v post ⟨rfl, rfl⟩
  show G _ _ _ [_] _
  refine Zg ?_
  refine Zh ?_
  refine Zd (l := [0, 1]) rfl ?_
  refine Za rfl rfl rfl rfl (Zc rfl rfl) ?_
  refine Za rfl rfl rfl rfl (Zk rfl rfl) ?_
  refine Zg ?_
  refine Yy (post := [_]) Try.func36 rfl (Zy (Yt rfl) Zp) [0] rfl ?_
  dsimp only [packed]
  first
    | (rw [rdNum_err l e (by omega)]; exact ⟨rfl, rfl⟩)
    | (obtain rfl : e = 0 := by omega
       rw [rdNum_bad l v n e1 hu (by omega)]; subst h2; exact ⟨rfl, rfl⟩)
    | (obtain rfl : e = 0 := by omega
       subst h0; rw [rdNum_ok l v n hu]; exact ⟨rfl, rfl⟩)

set_option maxRecDepth 100000 in
set_option maxHeartbeats 1000000 in
theorem rrd_int (b : Nat) (l : List UInt8) (e : Nat) (most : Int) (hl : l.length ≤ 140737488351232) (he : e ≤ 1000) (hm : 0 ≤ most ∧ most ≤ 4611686018427387904) :
    Ct Try.prog 40 [.pointer (some ⟨b, 0, none⟩), .int .i64 most] [] [(some b, .cells #[.string (bs l), .int .i64 ((e : Nat) : Int)] 86 (0, 0))] fun r post => r = .int .i64 (((rdInt most l e).1 : Nat) : Int) ∧ post = [(some b, .cells #[.string (bs (rdInt most l e).2.1), .int .i64 (((rdInt most l e).2.2 : Nat) : Int)] 86 (0, 0))] := by
 obtain ⟨v, n, e1, hu⟩ : ∃ v n e1, unchain l = (v, n, e1) := ⟨_, _, _, rfl⟩
 obtain ⟨hv, hb⟩ := unchain_bd hu
 obtain ⟨hm0, hm1⟩ := hm
 refine Yu Try.func40 rfl rfl (fun w0 => ?_)
 show G _ _ [(0, _), (1, _)] _ _
 refine Zh ?_
 refine Zd (l := [0]) rfl ?_
 refine Za rfl rfl rfl rfl (Zk rfl rfl) ?_
 refine Zg ?_
 refine Zh ?_
 refine Zh ?_
 refine Zd (l := [0, 1, 2, 3, 4]) rfl ?_
 refine Za rfl rfl rfl rfl (Zc rfl rfl) ?_
 first
  | refine Za rfl rfl rfl rfl (Ze rfl rfl) ?_
  | refine Za rfl rfl rfl rfl (Zz rfl rfl) ?_
 refine Za rfl rfl rfl rfl (Zb (fo := 1) rfl Try.underlying86 rfl i_3 rfl rfl rfl) ?_
 refine Za rfl rfl rfl rfl (Zj rfl rfl (Zf 0 rfl) rfl Try.underlying3 rfl) ?_
 refine Za rfl rfl rfl rfl (V_neq rfl rfl rfl) ?_
 refine Zg ?_
 refine Yk rfl (fun hc1 => ?_) (fun hc1 => ?_)
 ·
  refine Zh ?_
  refine Zd (l := [0]) rfl ?_
  refine Za rfl rfl rfl rfl (Zk rfl rfl) ?_
  refine Zg ?_
  refine Yy (post := [_]) Try.func40 rfl (Zy (Yt rfl) Zp) [0] rfl ?_
  dsimp only [packed]
  first
    | (rw [rdInt_err most l e (by omega)]; exact ⟨rfl, rfl⟩)
    | (obtain rfl : e = 0 := by omega
       rw [rdInt_bad most l v n e1 hu (by omega)]; subst h2; exact ⟨rfl, rfl⟩)
    | (obtain rfl : e = 0 := by omega
       subst h0; rw [rdInt_long most l v n hu (.inr h2)]; exact ⟨rfl, rfl⟩)
    | (obtain rfl : e = 0 := by omega
       subst h0; rw [rdInt_ok most l v n hu (by omega)]; exact ⟨rfl, rfl⟩)
 refine Zu ?_
 refine Zh ?_
 rcases (by omega : (e1 = 0 ∧ n ≤ l.length ∧ most < (v : Int)) ∨ (e1 = 0 ∧ n ≤ l.length ∧ ¬ most < (v : Int)) ∨ (0 < e1 ∧ e1 ≤ 3 ∧ v = 0)) with ⟨h0, h1, h2⟩ | ⟨h0, h1, h2⟩ | ⟨h0, h1, h2⟩
 ·
  refine Zd (l := [0, 1, 2, 3, 4, 5, 6, 7, 8, 9, 10, 11]) rfl ?_
  refine Za rfl rfl rfl rfl (Zc rfl rfl) ?_
  first
   | refine Za rfl rfl rfl rfl (Ze rfl rfl) ?_
   | refine Za rfl rfl rfl rfl (Zz rfl rfl) ?_
  refine Za rfl rfl rfl rfl (Zb (fo := 0) rfl Try.underlying86 rfl i_9 rfl rfl rfl) ?_
  refine Za rfl rfl rfl rfl (Zj rfl rfl (Zf 0 rfl) rfl Try.underlying9 rfl) ?_
  refine Zq (L2 := [_]) rfl rfl rfl rfl rfl rfl Try.call111 (ct_runchain _ v n e1 hu (by omega)) [] [] rfl rfl ?_
  rintro v post ⟨rfl, rfl⟩
  show G _ _ _ [_] _
  refine Za rfl rfl rfl rfl (Zc rfl rfl) ?_
  refine Za rfl rfl rfl rfl (Yd rfl rfl rfl) ?_
  refine Za rfl rfl rfl rfl (Yd rfl rfl rfl) ?_
  refine Za rfl rfl rfl rfl (Yd rfl rfl rfl) ?_
  refine Za rfl rfl rfl rfl (Zk rfl rfl) ?_
  refine Za rfl rfl rfl rfl (Zk rfl rfl) ?_
  refine Za rfl rfl rfl rfl (Zk rfl rfl) ?_
  refine Zg ?_
  refine Zh ?_
  refine Zh ?_
  refine Zd (l := [0, 1, 2, 3, 4, 5, 6, 7, 8, 9, 10, 11]) rfl ?_
  refine Za rfl rfl rfl rfl (Zc rfl rfl) ?_
  refine Za rfl rfl rfl rfl (V_eql rfl rfl rfl) ?_
  refine Za rfl rfl rfl rfl (Zc rfl rfl) ?_
  refine Xa 24 rfl (fun hc2 => ?_) (fun hc2 => ?_)
  rotate_left
  · (exfalso; omega)
  refine Za rfl rfl rfl rfl (Zc rfl rfl) ?_
  refine Za rfl rfl rfl rfl (Xn rfl rfl rfl) ?_
  refine Za rfl rfl rfl rfl (Zc rfl rfl) ?_
  refine Xa 27 rfl (fun hc3 => ?_) (fun hc3 => ?_)
  · (exfalso; omega)
  refine Za rfl rfl rfl rfl (Zc rfl rfl) ?_
  refine Za rfl rfl rfl rfl (Zc rfl rfl) ?_
  first
   | refine Za rfl rfl rfl rfl ((Xt rfl rfl Try.underlying3 Try.underlying23).int (Xm (by omega))) ?_
   | refine Za rfl rfl rfl rfl (Xt rfl rfl Try.underlying3 Try.underlying23) ?_
  refine Za rfl rfl rfl rfl (V_gtr rfl rfl rfl) ?_
  refine Za rfl rfl rfl rfl (Xg rfl rfl rfl) ?_
  refine Za rfl rfl rfl rfl (Yz rfl rfl rfl) ?_
  refine Zg ?_
  refine Yk rfl (fun hc4 => ?_) (fun hc4 => ?_)
  rotate_left
  · (exfalso; omega)
  refine Zh ?_
  refine Zd (l := [0]) rfl ?_
  refine Za rfl rfl rfl rfl (Zk rfl rfl) ?_
  refine Zg ?_
  refine Zd (l := [0]) rfl ?_
  refine Za rfl rfl rfl rfl (Zk rfl rfl) ?_
  refine Zg ?_
  refine Zh ?_
  refine Zd (l := [0, 1, 2, 3]) rfl ?_
  refine Za rfl rfl rfl rfl (Zc rfl rfl) ?_
  refine Za rfl rfl rfl rfl (Zc rfl rfl) ?_
  refine Za rfl rfl rfl rfl (Zc rfl rfl) ?_
  refine Zq (L2 := []) rfl rfl rfl rfl rfl rfl Try.call112 (rrd_took0 _ _ _ _ 4 (by omega)) [0] [] rfl rfl ?_
  rintro v post ⟨rfl, rfl⟩
  show G _ _ _ [_] _
  refine Zg ?_
  refine Zh ?_
  refine Zd (l := [0, 1, 2]) rfl ?_
  refine Za rfl rfl rfl rfl (Zc rfl rfl) ?_
  first
   | refine Za rfl rfl rfl rfl ((Xt rfl rfl Try.underlying23 Try.underlying3).int (Zw (by omega))) ?_
   | refine Za rfl rfl rfl rfl (Xt rfl rfl Try.underlying23 Try.underlying3) ?_
  refine Za rfl rfl rfl rfl (Zk rfl rfl) ?_
  refine Zg ?_
  refine Yy (post := [_]) Try.func40 rfl (Zy (Yt rfl) Zp) [0] rfl ?_
  dsimp only [packed]
  first
    | (rw [rdInt_err most l e (by omega)]; exact ⟨rfl, rfl⟩)
    | (obtain rfl : e = 0 := by omega
       rw [rdInt_bad most l v n e1 hu (by omega)]; subst h2; exact ⟨rfl, rfl⟩)
    | (obtain rfl : e = 0 := by omega
       subst h0; rw [rdInt_long most l v n hu (.inr h2)]; exact ⟨rfl, rfl⟩)
    | (obtain rfl : e = 0 := by omega
       subst h0; rw [rdInt_ok most l v n hu (by omega)]; exact ⟨rfl, rfl⟩)
 ·
  refine Zd (l := [0, 1, 2, 3, 4, 5, 6, 7, 8, 9, 10, 11]) rfl ?_
  refine Za rfl rfl rfl rfl (Zc rfl rfl) ?_
  first
   | refine Za rfl rfl rfl rfl (Ze rfl rfl) ?_
   | refine Za rfl rfl rfl rfl (Zz rfl rfl) ?_
  refine Za rfl rfl rfl rfl (Zb (fo := 0) rfl Try.underlying86 rfl i_9 rfl rfl rfl) ?_
  refine Za rfl rfl rfl rfl (Zj rfl rfl (Zf 0 rfl) rfl Try.underlying9 rfl) ?_
  refine Zq (L2 := [_]) rfl rfl rfl rfl rfl rfl Try.call111 (ct_runchain _ v n e1 hu (by omega)) [] [] rfl rfl ?_
  rintro v post ⟨rfl, rfl⟩
  show G _ _ _ [_] _
  refine Za rfl rfl rfl rfl (Zc rfl rfl) ?_
  refine Za rfl rfl rfl rfl (Yd rfl rfl rfl) ?_
  refine Za rfl rfl rfl rfl (Yd rfl rfl rfl) ?_
  refine Za rfl rfl rfl rfl (Yd rfl rfl rfl) ?_
  refine Za rfl rfl rfl rfl (Zk rfl rfl) ?_
  refine Za rfl rfl rfl rfl (Zk rfl rfl) ?_
  refine Za rfl rfl rfl rfl (Zk rfl rfl) ?_
  refine Zg ?_
  refine Zh ?_
  refine Zh ?_
  refine Zd (l := [0, 1, 2, 3, 4, 5, 6, 7, 8, 9, 10, 11]) rfl ?_
  refine Za rfl rfl rfl rfl (Zc rfl rfl) ?_
  refine Za rfl rfl rfl rfl (V_eql rfl rfl rfl) ?_
  refine Za rfl rfl rfl rfl (Zc rfl rfl) ?_
  refine Xa 24 rfl (fun hc2 => ?_) (fun hc2 => ?_)
  rotate_left
  · (exfalso; omega)
  refine Za rfl rfl rfl rfl (Zc rfl rfl) ?_
  refine Za rfl rfl rfl rfl (Xn rfl rfl rfl) ?_
  refine Za rfl rfl rfl rfl (Zc rfl rfl) ?_
  refine Xa 27 rfl (fun hc3 => ?_) (fun hc3 => ?_)
  · (exfalso; omega)
  refine Za rfl rfl rfl rfl (Zc rfl rfl) ?_
  refine Za rfl rfl rfl rfl (Zc rfl rfl) ?_
  first
   | refine Za rfl rfl rfl rfl ((Xt rfl rfl Try.underlying3 Try.underlying23).int (Xm (by omega))) ?_
   | refine Za rfl rfl rfl rfl (Xt rfl rfl Try.underlying3 Try.underlying23) ?_
  refine Za rfl rfl rfl rfl (V_gtr rfl rfl rfl) ?_
  refine Za rfl rfl rfl rfl (Xg rfl rfl rfl) ?_
  refine Za rfl rfl rfl rfl (Yz rfl rfl rfl) ?_
  refine Zg ?_
  refine Yk rfl (fun hc4 => ?_) (fun hc4 => ?_)
  · (exfalso; omega)
  refine Zu ?_
  refine Zh ?_
  refine Zd (l := [0, 1, 2, 3]) rfl ?_
  refine Za rfl rfl rfl rfl (Zc rfl rfl) ?_
  refine Za rfl rfl rfl rfl (Zc rfl rfl) ?_
  refine Za rfl rfl rfl rfl (Zc rfl rfl) ?_
  refine Zq (L2 := []) rfl rfl rfl rfl rfl rfl Try.call112 (rrd_took1 _ _ _ _ _ (by omega) (by omega)) [0] [] rfl rfl ?_
  rintro v post ⟨rfl, rfl⟩
  show G _ _ _ [_] _
  refine Zg ?_
  refine Zh ?_
  refine Zd (l := [0, 1, 2]) rfl ?_
  refine Za rfl rfl rfl rfl (Zc rfl rfl) ?_
  first
   | refine Za rfl rfl rfl rfl ((Xt rfl rfl Try.underlying23 Try.underlying3).int (Zw (by omega))) ?_
   | refine Za rfl rfl rfl rfl (Xt rfl rfl Try.underlying23 Try.underlying3) ?_
  refine Za rfl rfl rfl rfl (Zk rfl rfl) ?_
  refine Zg ?_
  refine Yy (post := [_]) Try.func40 rfl (Zy (Yt rfl) Zp) [0] rfl ?_
  dsimp only [packed]
  first
    | (rw [rdInt_err most l e (by omega)]; exact ⟨rfl, rfl⟩)
    | (obtain rfl : e = 0 := by omega
       rw [rdInt_bad most l v n e1 hu (by omega)]; subst h2; exact ⟨rfl, rfl⟩)
    | (obtain rfl : e = 0 := by omega
       subst h0; rw [rdInt_long most l v n hu (.inr h2)]; exact ⟨rfl, rfl⟩)
    | (obtain rfl : e = 0 := by omega
       subst h0; rw [rdInt_ok most l v n hu (by omega)]; exact ⟨rfl, rfl⟩)
 ·
  refine Zd (l := [0, 1, 2, 3, 4, 5, 6, 7, 8, 9, 10, 11]) rfl ?_
  refine Za rfl rfl rfl rfl (Zc rfl rfl) ?_
  first
   | refine Za rfl rfl rfl rfl (Ze rfl rfl) ?_
   | refine Za rfl rfl rfl rfl (Zz rfl rfl) ?_
  refine Za rfl rfl rfl rfl (Zb (fo := 0) rfl Try.underlying86 rfl i_9 rfl rfl rfl) ?_
  refine Za rfl rfl rfl rfl (Zj rfl rfl (Zf 0 rfl) rfl Try.underlying9 rfl) ?_
  refine Zq (L2 := [_]) rfl rfl rfl rfl rfl rfl Try.call111 (ct_runchain _ v n e1 hu (by omega)) [] [] rfl rfl ?_
  rintro v post ⟨rfl, rfl⟩
  show G _ _ _ [_] _
  refine Za rfl rfl rfl rfl (Zc rfl rfl) ?_
  refine Za rfl rfl rfl rfl (Yd rfl rfl rfl) ?_
  refine Za rfl rfl rfl rfl (Yd rfl rfl rfl) ?_
  refine Za rfl rfl rfl rfl (Yd rfl rfl rfl) ?_
  refine Za rfl rfl rfl rfl (Zk rfl rfl) ?_
  refine Za rfl rfl rfl rfl (Zk rfl rfl) ?_
  refine Za rfl rfl rfl rfl (Zk rfl rfl) ?_
  refine Zg ?_
  refine Zh ?_
  refine Zh ?_
  refine Zd (l := [0, 1, 2, 3, 4, 5, 6, 7, 8, 9, 10, 11]) rfl ?_
  refine Za rfl rfl rfl rfl (Zc rfl rfl) ?_
  refine Za rfl rfl rfl rfl (V_eql rfl rfl rfl) ?_
  refine Za rfl rfl rfl rfl (Zc rfl rfl) ?_
  refine Xa 24 rfl (fun hc2 => ?_) (fun hc2 => ?_)
  · (exfalso; omega)
  refine Yb rfl rfl rfl rfl ?_
  refine Yb rfl rfl rfl rfl ?_
  refine Yb rfl rfl rfl rfl ?_
  refine Yb rfl rfl rfl rfl ?_
  refine Yb rfl rfl rfl rfl ?_
  refine Yb rfl rfl rfl rfl ?_
  refine Yb rfl rfl rfl rfl ?_
  refine Yb rfl rfl rfl rfl ?_
  refine Za rfl rfl rfl rfl (Xg rfl rfl rfl) ?_
  refine Zg ?_
  refine Xu rfl ?_
  refine Zu ?_
  refine Zh ?_
  refine Zd (l := [0, 1, 2, 3]) rfl ?_
  refine Za rfl rfl rfl rfl (Zc rfl rfl) ?_
  refine Za rfl rfl rfl rfl (Zc rfl rfl) ?_
  refine Za rfl rfl rfl rfl (Zc rfl rfl) ?_
  refine Zq (L2 := []) rfl rfl rfl rfl rfl rfl Try.call112 (rrd_took0 _ _ _ _ _ (by omega)) [0] [] rfl rfl ?_
  rintro v post ⟨rfl, rfl⟩
  show G _ _ _ [_] _
  refine Zg ?_
  refine Zh ?_
  refine Zd (l := [0, 1, 2]) rfl ?_
  refine Za rfl rfl rfl rfl (Zc rfl rfl) ?_
  first
   | refine Za rfl rfl rfl rfl ((Xt rfl rfl Try.underlying23 Try.underlying3).int (Zw (by omega))) ?_
   | refine Za rfl rfl rfl rfl (Xt rfl rfl Try.underlying23 Try.underlying3) ?_
  refine Za rfl rfl rfl rfl (Zk rfl rfl) ?_
  refine Zg ?_
  refine Yy (post := [_]) Try.func40 rfl (Zy (Yt rfl) Zp) [0] rfl ?_
  dsimp only [packed]
  first
    | (rw [rdInt_err most l e (by omega)]; exact ⟨rfl, rfl⟩)
    | (obtain rfl : e = 0 := by omega
       rw [rdInt_bad most l v n e1 hu (by omega)]; subst h2; exact ⟨rfl, rfl⟩)
    | (obtain rfl : e = 0 := by omega
       subst h0; rw [rdInt_long most l v n hu (.inr h2)]; exact ⟨rfl, rfl⟩)
    | (obtain rfl : e = 0 := by omega
       subst h0; rw [rdInt_ok most l v n hu (by omega)]; exact ⟨rfl, rfl⟩)

set_option maxRecDepth 100000 in
set_option maxHeartbeats 1000000 in
theorem rrd_str (b : Nat) (l : List UInt8) (e : Nat) (most : Int) (hl : l.length ≤ 140737488351232) (he : e ≤ 1000) (hm : 0 ≤ most ∧ most ≤ 4611686018427387904) :
    Ct Try.prog 41 [.pointer (some ⟨b, 0, none⟩), .int .i64 most] [] [(some b, .cells #[.string (bs l), .int .i64 ((e : Nat) : Int)] 86 (0, 0))] fun r post => r = .string (bs (rdStr most l e).1) ∧ post = [(some b, .cells #[.string (bs (rdStr most l e).2.1), .int .i64 (((rdStr most l e).2.2 : Nat) : Int)] 86 (0, 0))] := by
 obtain ⟨s, n, e1, hu⟩ : ∃ s n e1, untext l most = (s, n, e1) := ⟨_, _, _, rfl⟩
 refine Yu Try.func41 rfl rfl (fun w0 => ?_)
 show G _ _ [(0, _), (1, _)] _ _
 refine Zh ?_
 refine Zd (l := [0]) rfl ?_
 refine Za rfl rfl rfl rfl (Zk rfl rfl) ?_
 refine Zg ?_
 refine Zh ?_
 refine Zh ?_
 refine Zd (l := [0, 1, 2, 3, 4]) rfl ?_
 refine Za rfl rfl rfl rfl (Zc rfl rfl) ?_
 first
  | refine Za rfl rfl rfl rfl (Ze rfl rfl) ?_
  | refine Za rfl rfl rfl rfl (Zz rfl rfl) ?_
 refine Za rfl rfl rfl rfl (Zb (fo := 1) rfl Try.underlying86 rfl i_3 rfl rfl rfl) ?_
 refine Za rfl rfl rfl rfl (Zj rfl rfl (Zf 0 rfl) rfl Try.underlying3 rfl) ?_
 refine Za rfl rfl rfl rfl (V_neq rfl rfl rfl) ?_
 refine Zg ?_
 refine Yk rfl (fun hc1 => ?_) (fun hc1 => ?_)
 ·
  refine Zh ?_
  refine Zd (l := [0]) rfl ?_
  refine Za rfl rfl rfl rfl (Zk rfl rfl) ?_
  refine Zg ?_
  refine Yy (post := [_]) Try.func41 rfl (Zy (Yt rfl) Zp) [0] rfl ?_
  dsimp only [packed]
  first
    | (rw [rdStr_err most l e (by omega)]; exact ⟨rfl, rfl⟩)
    | (obtain rfl : e = 0 := by omega
       rw [rdStr_bad most l s n e1 hu (by omega)]; subst h0; exact ⟨rfl, rfl⟩)
    | (obtain rfl : e = 0 := by omega
       subst h0; rw [rdStr_ok most l s n hu]; exact ⟨rfl, rfl⟩)
 refine Zu ?_
 refine Zh ?_
 rcases untext_ok l most s n e1 hu with ⟨h0, h1, h2, h3⟩ | ⟨h0, h1, h2, h3⟩
 ·
  refine Zd (l := [0, 1, 2, 3, 4, 5, 6, 7, 8, 9, 10, 11, 12]) rfl ?_
  refine Za rfl rfl rfl rfl (Zc rfl rfl) ?_
  first
   | refine Za rfl rfl rfl rfl (Ze rfl rfl) ?_
   | refine Za rfl rfl rfl rfl (Zz rfl rfl) ?_
  refine Za rfl rfl rfl rfl (Zb (fo := 0) rfl Try.underlying86 rfl i_9 rfl rfl rfl) ?_
  refine Za rfl rfl rfl rfl (Zj rfl rfl (Zf 0 rfl) rfl Try.underlying9 rfl) ?_
  refine Za rfl rfl rfl rfl (Zc rfl rfl) ?_
  refine Zq (L2 := [_]) rfl rfl rfl rfl rfl rfl Try.call113 (ct_runtext _ _ s n e1 hu (by omega) hm) [] [] rfl rfl ?_
  rintro v post ⟨rfl, rfl⟩
  show G _ _ _ [_] _
  refine Za rfl rfl rfl rfl (Zc rfl rfl) ?_
  refine Za rfl rfl rfl rfl (Yd rfl rfl rfl) ?_
  refine Za rfl rfl rfl rfl (Yd rfl rfl rfl) ?_
  refine Za rfl rfl rfl rfl (Yd rfl rfl rfl) ?_
  refine Za rfl rfl rfl rfl (Zk rfl rfl) ?_
  refine Za rfl rfl rfl rfl (Zk rfl rfl) ?_
  refine Za rfl rfl rfl rfl (Zk rfl rfl) ?_
  refine Zg ?_
  refine Zh ?_
  refine Zd (l := [0, 1, 2, 3]) rfl ?_
  refine Za rfl rfl rfl rfl (Zc rfl rfl) ?_
  refine Za rfl rfl rfl rfl (Zc rfl rfl) ?_
  refine Za rfl rfl rfl rfl (Zc rfl rfl) ?_
  refine Zq (L2 := []) rfl rfl rfl rfl rfl rfl Try.call112 (rrd_took1 _ _ _ _ _ (by omega) (by omega)) [0] [] rfl rfl ?_
  rintro v post ⟨rfl, rfl⟩
  show G _ _ _ [_] _
  refine Zg ?_
  refine Zh ?_
  refine Zd (l := [0, 1]) rfl ?_
  refine Za rfl rfl rfl rfl (Zc rfl rfl) ?_
  refine Za rfl rfl rfl rfl (Zk rfl rfl) ?_
  refine Zg ?_
  refine Yy (post := [_]) Try.func41 rfl (Zy (Yt rfl) Zp) [0] rfl ?_
  dsimp only [packed]
  first
    | (rw [rdStr_err most l e (by omega)]; exact ⟨rfl, rfl⟩)
    | (obtain rfl : e = 0 := by omega
       rw [rdStr_bad most l s n e1 hu (by omega)]; subst h0; exact ⟨rfl, rfl⟩)
    | (obtain rfl : e = 0 := by omega
       subst h0; rw [rdStr_ok most l s n hu]; exact ⟨rfl, rfl⟩)
 ·
  refine Zd (l := [0, 1, 2, 3, 4, 5, 6, 7, 8, 9, 10, 11, 12]) rfl ?_
  refine Za rfl rfl rfl rfl (Zc rfl rfl) ?_
  first
   | refine Za rfl rfl rfl rfl (Ze rfl rfl) ?_
   | refine Za rfl rfl rfl rfl (Zz rfl rfl) ?_
  refine Za rfl rfl rfl rfl (Zb (fo := 0) rfl Try.underlying86 rfl i_9 rfl rfl rfl) ?_
  refine Za rfl rfl rfl rfl (Zj rfl rfl (Zf 0 rfl) rfl Try.underlying9 rfl) ?_
  refine Za rfl rfl rfl rfl (Zc rfl rfl) ?_
  refine Zq (L2 := [_]) rfl rfl rfl rfl rfl rfl Try.call113 (ct_runtext _ _ s n e1 hu (by omega) hm) [] [] rfl rfl ?_
  rintro v post ⟨rfl, rfl⟩
  show G _ _ _ [_] _
  refine Za rfl rfl rfl rfl (Zc rfl rfl) ?_
  refine Za rfl rfl rfl rfl (Yd rfl rfl rfl) ?_
  refine Za rfl rfl rfl rfl (Yd rfl rfl rfl) ?_
  refine Za rfl rfl rfl rfl (Yd rfl rfl rfl) ?_
  refine Za rfl rfl rfl rfl (Zk rfl rfl) ?_
  refine Za rfl rfl rfl rfl (Zk rfl rfl) ?_
  refine Za rfl rfl rfl rfl (Zk rfl rfl) ?_
  refine Zg ?_
  refine Zh ?_
  refine Zd (l := [0, 1, 2, 3]) rfl ?_
  refine Za rfl rfl rfl rfl (Zc rfl rfl) ?_
  refine Za rfl rfl rfl rfl (Zc rfl rfl) ?_
  refine Za rfl rfl rfl rfl (Zc rfl rfl) ?_
  refine Zq (L2 := []) rfl rfl rfl rfl rfl rfl Try.call112 (rrd_took0 _ _ _ _ _ (by omega)) [0] [] rfl rfl ?_
  rintro v post ⟨rfl, rfl⟩
  show G _ _ _ [_] _
  refine Zg ?_
  refine Zh ?_
  refine Zd (l := [0, 1]) rfl ?_
  refine Za rfl rfl rfl rfl (Zc rfl rfl) ?_
  refine Za rfl rfl rfl rfl (Zk rfl rfl) ?_
  refine Zg ?_
  refine Yy (post := [_]) Try.func41 rfl (Zy (Yt rfl) Zp) [0] rfl ?_
  dsimp only [packed]
  first
    | (rw [rdStr_err most l e (by omega)]; exact ⟨rfl, rfl⟩)
    | (obtain rfl : e = 0 := by omega
       rw [rdStr_bad most l s n e1 hu (by omega)]; subst h0; exact ⟨rfl, rfl⟩)
    | (obtain rfl : e = 0 := by omega
       subst h0; rw [rdStr_ok most l s n hu]; exact ⟨rfl, rfl⟩)

set_option maxRecDepth 100000 in
set_option maxHeartbeats 1000000 in
theorem rrd_flag (b : Nat) (l : List UInt8) (e : Nat) (hl : l.length ≤ 140737488351232) (he : e ≤ 1000) :
    Ct Try.prog 37 [.pointer (some ⟨b, 0, none⟩)] [] [(some b, .cells #[.string (bs l), .int .i64 ((e : Nat) : Int)] 86 (0, 0))] fun r post => r = .bool (rdFlag l e).1 ∧ post = [(some b, .cells #[.string (bs (rdFlag l e).2.1), .int .i64 (((rdFlag l e).2.2 : Nat) : Int)] 86 (0, 0))] := by
 obtain ⟨v, n, e1, hu⟩ : ∃ v n e1, unchain l = (v, n, e1) := ⟨_, _, _, rfl⟩
 obtain ⟨hv, hb⟩ := unchain_bd hu
 refine Yu Try.func37 rfl rfl (fun w0 => ?_)
 show G _ _ [(0, _)] _ _
 refine Zh ?_
 refine Zd (l := [0]) rfl ?_
 refine Za rfl rfl rfl rfl (Zk rfl rfl) ?_
 refine Zg ?_
 refine Zh ?_
 refine Zh ?_
 refine Zd (l := [0, 1, 2, 3, 4]) rfl ?_
 refine Za rfl rfl rfl rfl (Zc rfl rfl) ?_
 first
  | refine Za rfl rfl rfl rfl (Ze rfl rfl) ?_
  | refine Za rfl rfl rfl rfl (Zz rfl rfl) ?_
 refine Za rfl rfl rfl rfl (Zb (fo := 1) rfl Try.underlying86 rfl i_3 rfl rfl rfl) ?_
 refine Za rfl rfl rfl rfl (Zj rfl rfl (Zf 0 rfl) rfl Try.underlying3 rfl) ?_
 refine Za rfl rfl rfl rfl (V_neq rfl rfl rfl) ?_
 refine Zg ?_
 refine Yk rfl (fun hc1 => ?_) (fun hc1 => ?_)
 ·
  refine Zh ?_
  refine Zd (l := [0]) rfl ?_
  refine Za rfl rfl rfl rfl (Zk rfl rfl) ?_
  refine Zg ?_
  refine Yy (post := [_]) Try.func37 rfl (Zy (Yt rfl) Zp) [0] rfl ?_
  dsimp only [packed]
  first
    | (rw [rdFlag_err l e (by omega)]; exact ⟨rfl, rfl⟩)
    | (obtain rfl : e = 0 := by omega
       rw [rdFlag_bad l v n e1 hu (by omega)]; exact ⟨rfl, rfl⟩)
    | (obtain rfl : e = 0 := by omega
       subst h0; rw [rdFlag_long l v n hu h2]; exact ⟨rfl, rfl⟩)
    | (obtain rfl : e = 0 := by omega
       subst h0; rw [rdFlag_ok l v n hu h2]; refine ⟨bool_eq (Bool.eq_iff_iff.2 ?_), rfl⟩; first | (simp; done) | (simp; omega) | (simp [*]; done))
 refine Zu ?_
 refine Zh ?_
 rcases (by omega : (e1 = 0 ∧ n ≤ l.length ∧ 1 < v) ∨ (e1 = 0 ∧ n ≤ l.length ∧ ¬ 1 < v) ∨ (0 < e1 ∧ e1 ≤ 3 ∧ v = 0)) with ⟨h0, h1, h2⟩ | ⟨h0, h1, h2⟩ | ⟨h0, h1, h2⟩
 ·
  refine Zd (l := [0, 1, 2, 3, 4, 5, 6, 7, 8, 9, 10, 11]) rfl ?_
  refine Za rfl rfl rfl rfl (Zc rfl rfl) ?_
  first
   | refine Za rfl rfl rfl rfl (Ze rfl rfl) ?_
   | refine Za rfl rfl rfl rfl (Zz rfl rfl) ?_
  refine Za rfl rfl rfl rfl (Zb (fo := 0) rfl Try.underlying86 rfl i_9 rfl rfl rfl) ?_
  refine Za rfl rfl rfl rfl (Zj rfl rfl (Zf 0 rfl) rfl Try.underlying9 rfl) ?_
  refine Zq (L2 := [_]) rfl rfl rfl rfl rfl rfl Try.call111 (ct_runchain _ v n e1 hu (by omega)) [] [] rfl rfl ?_
  rintro v post ⟨rfl, rfl⟩
  show G _ _ _ [_] _
  refine Za rfl rfl rfl rfl (Zc rfl rfl) ?_
  refine Za rfl rfl rfl rfl (Yd rfl rfl rfl) ?_
  refine Za rfl rfl rfl rfl (Yd rfl rfl rfl) ?_
  refine Za rfl rfl rfl rfl (Yd rfl rfl rfl) ?_
  refine Za rfl rfl rfl rfl (Zk rfl rfl) ?_
  refine Za rfl rfl rfl rfl (Zk rfl rfl) ?_
  refine Za rfl rfl rfl rfl (Zk rfl rfl) ?_
  refine Zg ?_
  refine Zh ?_
  refine Zh ?_
  refine Zd (l := [0, 1, 2, 3, 4, 5]) rfl ?_
  refine Za rfl rfl rfl rfl (Zc rfl rfl) ?_
  refine Za rfl rfl rfl rfl (V_eql rfl rfl rfl) ?_
  refine Za rfl rfl rfl rfl (Zc rfl rfl) ?_
  refine Xa 22 rfl (fun hc2 => ?_) (fun hc2 => ?_)
  rotate_left
  · (exfalso; omega)
  refine Za rfl rfl rfl rfl (Zc rfl rfl) ?_
  refine Za rfl rfl rfl rfl (V_gtr rfl rfl rfl) ?_
  refine Za rfl rfl rfl rfl (Yz rfl rfl rfl) ?_
  refine Zg ?_
  refine Yk rfl (fun hc3 => ?_) (fun hc3 => ?_)
  rotate_left
  · (exfalso; omega)
  refine Zd (l := [0]) rfl ?_
  refine Za rfl rfl rfl rfl (Zk rfl rfl) ?_
  refine Zg ?_
  refine Zh ?_
  refine Zd (l := [0, 1, 2, 3]) rfl ?_
  refine Za rfl rfl rfl rfl (Zc rfl rfl) ?_
  refine Za rfl rfl rfl rfl (Zc rfl rfl) ?_
  refine Za rfl rfl rfl rfl (Zc rfl rfl) ?_
  refine Zq (L2 := []) rfl rfl rfl rfl rfl rfl Try.call112 (rrd_took0 _ _ _ _ 3 (by omega)) [0] [] rfl rfl ?_
  rintro v post ⟨rfl, rfl⟩
  show G _ _ _ [_] _
  refine Zg ?_
  refine Zh ?_
  refine Zd (l := [0, 1, 2, 3, 4, 5, 6]) rfl ?_
  refine Za rfl rfl rfl rfl (Zc rfl rfl) ?_
  refine Za rfl rfl rfl rfl (V_eql rfl rfl rfl) ?_
  refine Za rfl rfl rfl rfl (Zc rfl rfl) ?_
  refine Xa 32 rfl (fun hc4 => ?_) (fun hc4 => ?_)
  · (exfalso; omega)
  refine Yb rfl rfl rfl rfl ?_
  refine Yb rfl rfl rfl rfl ?_
  refine Za rfl rfl rfl rfl (Xg rfl rfl rfl) ?_
  refine Za rfl rfl rfl rfl (Zk rfl rfl) ?_
  refine Zg ?_
  refine Yy (post := [_]) Try.func37 rfl (Zy (Yt rfl) Zp) [0] rfl ?_
  dsimp only [packed]
  first
    | (rw [rdFlag_err l e (by omega)]; exact ⟨rfl, rfl⟩)
    | (obtain rfl : e = 0 := by omega
       rw [rdFlag_bad l v n e1 hu (by omega)]; exact ⟨rfl, rfl⟩)
    | (obtain rfl : e = 0 := by omega
       subst h0; rw [rdFlag_long l v n hu h2]; exact ⟨rfl, rfl⟩)
    | (obtain rfl : e = 0 := by omega
       subst h0; rw [rdFlag_ok l v n hu h2]; refine ⟨bool_eq (Bool.eq_iff_iff.2 ?_), rfl⟩; first | (simp; done) | (simp; omega) | (simp [*]; done))
 ·
  refine Zd (l := [0, 1, 2, 3, 4, 5, 6, 7, 8, 9, 10, 11]) rfl ?_
  refine Za rfl rfl rfl rfl (Zc rfl rfl) ?_
  first
   | refine Za rfl rfl rfl rfl (Ze rfl rfl) ?_
   | refine Za rfl rfl rfl rfl (Zz rfl rfl) ?_
  refine Za rfl rfl rfl rfl (Zb (fo := 0) rfl Try.underlying86 rfl i_9 rfl rfl rfl) ?_
  refine Za rfl rfl rfl rfl (Zj rfl rfl (Zf 0 rfl) rfl Try.underlying9 rfl) ?_
  refine Zq (L2 := [_]) rfl rfl rfl rfl rfl rfl Try.call111 (ct_runchain _ v n e1 hu (by omega)) [] [] rfl rfl ?_
  rintro v post ⟨rfl, rfl⟩
  show G _ _ _ [_] _
  refine Za rfl rfl rfl rfl (Zc rfl rfl) ?_
  refine Za rfl rfl rfl rfl (Yd rfl rfl rfl) ?_
  refine Za rfl rfl rfl rfl (Yd rfl rfl rfl) ?_
  refine Za rfl rfl rfl rfl (Yd rfl rfl rfl) ?_
  refine Za rfl rfl rfl rfl (Zk rfl rfl) ?_
  refine Za rfl rfl rfl rfl (Zk rfl rfl) ?_
  refine Za rfl rfl rfl rfl (Zk rfl rfl) ?_
  refine Zg ?_
  refine Zh ?_
  refine Zh ?_
  refine Zd (l := [0, 1, 2, 3, 4, 5]) rfl ?_
  refine Za rfl rfl rfl rfl (Zc rfl rfl) ?_
  refine Za rfl rfl rfl rfl (V_eql rfl rfl rfl) ?_
  refine Za rfl rfl rfl rfl (Zc rfl rfl) ?_
  refine Xa 22 rfl (fun hc2 => ?_) (fun hc2 => ?_)
  rotate_left
  · (exfalso; omega)
  refine Za rfl rfl rfl rfl (Zc rfl rfl) ?_
  refine Za rfl rfl rfl rfl (V_gtr rfl rfl rfl) ?_
  refine Za rfl rfl rfl rfl (Yz rfl rfl rfl) ?_
  refine Zg ?_
  refine Yk rfl (fun hc3 => ?_) (fun hc3 => ?_)
  · (exfalso; omega)
  refine Zu ?_
  refine Zh ?_
  refine Zd (l := [0, 1, 2, 3]) rfl ?_
  refine Za rfl rfl rfl rfl (Zc rfl rfl) ?_
  refine Za rfl rfl rfl rfl (Zc rfl rfl) ?_
  refine Za rfl rfl rfl rfl (Zc rfl rfl) ?_
  refine Zq (L2 := []) rfl rfl rfl rfl rfl rfl Try.call112 (rrd_took1 _ _ _ _ _ (by omega) (by omega)) [0] [] rfl rfl ?_
  rintro v post ⟨rfl, rfl⟩
  show G _ _ _ [_] _
  refine Zg ?_
  refine Zh ?_
  refine Zd (l := [0, 1, 2, 3, 4, 5, 6]) rfl ?_
  refine Za rfl rfl rfl rfl (Zc rfl rfl) ?_
  refine Za rfl rfl rfl rfl (V_eql rfl rfl rfl) ?_
  refine Za rfl rfl rfl rfl (Zc rfl rfl) ?_
  refine Xa 32 rfl (fun hc4 => ?_) (fun hc4 => ?_)
  rotate_left
  · (exfalso; omega)
  refine Za rfl rfl rfl rfl (Zc rfl rfl) ?_
  refine Za rfl rfl rfl rfl (V_eql rfl rfl rfl) ?_
  refine Za rfl rfl rfl rfl (Yz rfl rfl rfl) ?_
  refine Za rfl rfl rfl rfl (Zk rfl rfl) ?_
  refine Zg ?_
  refine Yy (post := [_]) Try.func37 rfl (Zy (Yt rfl) Zp) [0] rfl ?_
  dsimp only [packed]
  first
    | (rw [rdFlag_err l e (by omega)]; exact ⟨rfl, rfl⟩)
    | (obtain rfl : e = 0 := by omega
       rw [rdFlag_bad l v n e1 hu (by omega)]; exact ⟨rfl, rfl⟩)
    | (obtain rfl : e = 0 := by omega
       subst h0; rw [rdFlag_long l v n hu h2]; exact ⟨rfl, rfl⟩)
    | (obtain rfl : e = 0 := by omega
       subst h0; rw [rdFlag_ok l v n hu h2]; refine ⟨bool_eq (Bool.eq_iff_iff.2 ?_), rfl⟩; first | (simp; done) | (simp; omega) | (simp [*]; done))
 ·
  refine Zd (l := [0, 1, 2, 3, 4, 5, 6, 7, 8, 9, 10, 11]) rfl ?_
  refine Za rfl rfl rfl rfl (Zc rfl rfl) ?_
  first
   | refine Za rfl rfl rfl rfl (Ze rfl rfl) ?_
   | refine Za rfl rfl rfl rfl (Zz rfl rfl) ?_
  refine Za rfl rfl rfl rfl (Zb (fo := 0) rfl Try.underlying86 rfl i_9 rfl rfl rfl) ?_
  refine Za rfl rfl rfl rfl (Zj rfl rfl (Zf 0 rfl) rfl Try.underlying9 rfl) ?_
  refine Zq (L2 := [_]) rfl rfl rfl rfl rfl rfl Try.call111 (ct_runchain _ v n e1 hu (by omega)) [] [] rfl rfl ?_
  rintro v post ⟨rfl, rfl⟩
  show G _ _ _ [_] _
  refine Za rfl rfl rfl rfl (Zc rfl rfl) ?_
  refine Za rfl rfl rfl rfl (Yd rfl rfl rfl) ?_
  refine Za rfl rfl rfl rfl (Yd rfl rfl rfl) ?_
  refine Za rfl rfl rfl rfl (Yd rfl rfl rfl) ?_
  refine Za rfl rfl rfl rfl (Zk rfl rfl) ?_
  refine Za rfl rfl rfl rfl (Zk rfl rfl) ?_
  refine Za rfl rfl rfl rfl (Zk rfl rfl) ?_
  refine Zg ?_
  refine Zh ?_
  refine Zh ?_
  refine Zd (l := [0, 1, 2, 3, 4, 5]) rfl ?_
  refine Za rfl rfl rfl rfl (Zc rfl rfl) ?_
  refine Za rfl rfl rfl rfl (V_eql rfl rfl rfl) ?_
  refine Za rfl rfl rfl rfl (Zc rfl rfl) ?_
  refine Xa 22 rfl (fun hc2 => ?_) (fun hc2 => ?_)
  · (exfalso; omega)
  refine Yb rfl rfl rfl rfl ?_
  refine Yb rfl rfl rfl rfl ?_
  refine Za rfl rfl rfl rfl (Xg rfl rfl rfl) ?_
  refine Zg ?_
  refine Xu rfl ?_
  refine Zu ?_
  refine Zh ?_
  refine Zd (l := [0, 1, 2, 3]) rfl ?_
  refine Za rfl rfl rfl rfl (Zc rfl rfl) ?_
  refine Za rfl rfl rfl rfl (Zc rfl rfl) ?_
  refine Za rfl rfl rfl rfl (Zc rfl rfl) ?_
  refine Zq (L2 := []) rfl rfl rfl rfl rfl rfl Try.call112 (rrd_took0 _ _ _ _ _ (by omega)) [0] [] rfl rfl ?_
  rintro v post ⟨rfl, rfl⟩
  show G _ _ _ [_] _
  refine Zg ?_
  refine Zh ?_
  refine Zd (l := [0, 1, 2, 3, 4, 5, 6]) rfl ?_
  refine Za rfl rfl rfl rfl (Zc rfl rfl) ?_
  refine Za rfl rfl rfl rfl (V_eql rfl rfl rfl) ?_
  refine Za rfl rfl rfl rfl (Zc rfl rfl) ?_
  refine Xa 32 rfl (fun hc3 => ?_) (fun hc3 => ?_)
  · (exfalso; omega)
  refine Yb rfl rfl rfl rfl ?_
  refine Yb rfl rfl rfl rfl ?_
  refine Za rfl rfl rfl rfl (Xg rfl rfl rfl) ?_
  refine Za rfl rfl rfl rfl (Zk rfl rfl) ?_
  refine Zg ?_
  refine Yy (post := [_]) Try.func37 rfl (Zy (Yt rfl) Zp) [0] rfl ?_
  dsimp only [packed]
  first
    | (rw [rdFlag_err l e (by omega)]; exact ⟨rfl, rfl⟩)
    | (obtain rfl : e = 0 := by omega
       rw [rdFlag_bad l v n e1 hu (by omega)]; exact ⟨rfl, rfl⟩)
    | (obtain rfl : e = 0 := by omega
       subst h0; rw [rdFlag_long l v n hu h2]; exact ⟨rfl, rfl⟩)
    | (obtain rfl : e = 0 := by omega
       subst h0; rw [rdFlag_ok l v n hu h2]; refine ⟨bool_eq (Bool.eq_iff_iff.2 ?_), rfl⟩; first | (simp; done) | (simp; omega) | (simp [*]; done))

set_option maxRecDepth 100000 in
set_option maxHeartbeats 1000000 in
theorem rrd_end (b : Nat) (l : List UInt8) (e : Nat) :
    Ct Try.prog 44 [.pointer (some ⟨b, 0, none⟩)] [(some b, .cells #[.string (bs l), .int .i64 ((e : Nat) : Int)] 86 (0, 0))] [] fun r post => r = .int .i64 ((rdEnd l e : Nat) : Int) ∧ post = [] := by
 refine Yu Try.func44 rfl rfl (fun w0 => ?_)
 show G _ _ [(0, _)] _ _
 refine Zh ?_
 refine Zd (l := [0]) rfl ?_
 refine Za rfl rfl rfl rfl (Zk rfl rfl) ?_
 refine Zg ?_
 refine Zh ?_
 refine Zh ?_
 refine Zd (l := [0, 1, 2, 3, 4]) rfl ?_
 refine Za rfl rfl rfl rfl (Zc rfl rfl) ?_
 first
  | refine Za rfl rfl rfl rfl (Ze rfl rfl) ?_
  | refine Za rfl rfl rfl rfl (Zz rfl rfl) ?_
 refine Za rfl rfl rfl rfl (Zb (fo := 1) rfl Try.underlying86 rfl i_3 rfl rfl rfl) ?_
 refine Za rfl rfl rfl rfl (Zj rfl rfl (Zf 0 rfl) rfl Try.underlying3 rfl) ?_
 refine Za rfl rfl rfl rfl (V_neq rfl rfl rfl) ?_
 refine Zg ?_
 refine Yk rfl (fun hc1 => ?_) (fun hc1 => ?_)
 ·
  refine Zh ?_
  refine Zd (l := [0, 1, 2, 3, 4]) rfl ?_
  refine Za rfl rfl rfl rfl (Zc rfl rfl) ?_
  first
   | refine Za rfl rfl rfl rfl (Ze rfl rfl) ?_
   | refine Za rfl rfl rfl rfl (Zz rfl rfl) ?_
  refine Za rfl rfl rfl rfl (Zb (fo := 1) rfl Try.underlying86 rfl i_3 rfl rfl rfl) ?_
  refine Za rfl rfl rfl rfl (Zj rfl rfl (Zf 0 rfl) rfl Try.underlying3 rfl) ?_
  refine Za rfl rfl rfl rfl (Zk rfl rfl) ?_
  refine Zg ?_
  refine Yy (post := []) Try.func44 rfl (Zy (Yt rfl) Zp) [] rfl ?_
  dsimp only [packed]
  refine ⟨?_, rfl⟩; unfold rdEnd; first | (rw [if_pos (by omega)]; done) | (rw [if_neg (by omega), if_neg (by assumption)]; rfl) | (rw [if_neg (by omega), if_pos (Classical.not_not.1 (by assumption))]; rfl) | (rw [if_neg (by omega), if_pos (by assumption)]; rfl)
 refine Zu ?_
 refine Zh ?_
 refine Zh ?_
 refine Zd (l := [0, 1, 2, 3, 4]) rfl ?_
 refine Za rfl rfl rfl rfl (Zc rfl rfl) ?_
 first
  | refine Za rfl rfl rfl rfl (Ze rfl rfl) ?_
  | refine Za rfl rfl rfl rfl (Zz rfl rfl) ?_
 refine Za rfl rfl rfl rfl (Zb (fo := 0) rfl Try.underlying86 rfl i_9 rfl rfl rfl) ?_
 refine Za rfl rfl rfl rfl (Zj rfl rfl (Zf 0 rfl) rfl Try.underlying9 rfl) ?_
 refine Za rfl rfl rfl rfl (V_sneq rfl rfl rfl) ?_
 refine Zg ?_
 refine Yk rfl (fun hc2 => ?_) (fun hc2 => ?_)
 ·
  refine Zh ?_
  refine Zd (l := [0]) rfl ?_
  refine Za rfl rfl rfl rfl (Zk rfl rfl) ?_
  refine Zg ?_
  refine Yy (post := []) Try.func44 rfl (Zy (Yt rfl) Zp) [] rfl ?_
  dsimp only [packed]
  refine ⟨?_, rfl⟩; unfold rdEnd; first | (rw [if_pos (by omega)]; done) | (rw [if_neg (by omega), if_neg (by assumption)]; rfl) | (rw [if_neg (by omega), if_pos (Classical.not_not.1 (by assumption))]; rfl) | (rw [if_neg (by omega), if_pos (by assumption)]; rfl)
 refine Zu ?_
 refine Zh ?_
 refine Zd (l := [0]) rfl ?_
 refine Za rfl rfl rfl rfl (Zk rfl rfl) ?_
 refine Zg ?_
 refine Yy (post := []) Try.func44 rfl (Zy (Yt rfl) Zp) [] rfl ?_
 dsimp only [packed]
 refine ⟨?_, rfl⟩; unfold rdEnd; first | (rw [if_pos (by omega)]; done) | (rw [if_neg (by omega), if_neg (by assumption)]; rfl) | (rw [if_neg (by omega), if_pos (Classical.not_not.1 (by assumption))]; rfl) | (rw [if_neg (by omega), if_pos (by assumption)]; rfl)

set_option maxRecDepth 100000 in
set_option maxHeartbeats 1000000 in
theorem rd_new (l : List UInt8) :
    Ct Try.prog 33 [.string (bs l)] [] [] fun r post => ∃ b, r = .pointer (some ⟨b, 0, none⟩) ∧ post = [(some b, .cells #[.string (bs l), .int .i64 ((0 : Nat) : Int)] 169 (0, 0))] := by
 refine Yu Try.func33 rfl rfl (fun w0 => ?_)
 show G _ _ [(0, _)] _ _
 refine Zh ?_
 refine Zd (l := [0]) rfl ?_
 refine Za rfl rfl rfl rfl (Zk rfl rfl) ?_
 refine Zg ?_
 refine Zh ?_
 refine Zd (l := [0, 1, 2, 3]) rfl ?_
 refine Za rfl rfl rfl rfl (Zc rfl rfl) ?_
 refine Za rfl rfl rfl rfl (Xw (cs := [_, _]) rfl Try.underlying169 i_169 rfl p_169 rfl rfl rfl) ?_
 refine Yw rfl rfl rfl rfl (N_boxA rfl rfl) (fun b5 => ?_)
 refine Za rfl rfl rfl rfl (Zk rfl rfl) ?_
 refine Zg ?_
 refine Yy (post := [_]) Try.func33 rfl (Zy (Yt rfl) Zp) [0] rfl ?_
 dsimp only [packed]
 exact ⟨_, rfl, rfl⟩

end
end Go.Proofs.Ytjnaeoelnmhjfaa

set_option linter.unusedSimpArgs false
set_option linter.unusedVariables false
namespace Go.Proofs.Ytjnaeoelnmhjfaa
open Go Go.RowKit

section



theorem rdNum_bd (l : List UInt8) (e : Nat) (he : e ≤ 1000) : (rdNum l e).1 < 18446744073709551616 ∧ (rdNum l e).2.1.length ≤ l.length ∧ (rdNum l e).2.2 ≤ 1000 := by
  obtain ⟨v, n, e1, hu⟩ : ∃ v n e1, unchain l = (v, n, e1) := ⟨_, _, _, rfl⟩
  obtain ⟨hv, hb⟩ := unchain_bd hu
  by_cases h : e = 0
  · subst h
    rcases hb with ⟨h0, h1, _, _⟩ | ⟨h0, h1, h2⟩
    · subst h0
      rw [rdNum_ok l v n hu]
      exact ⟨hv, by simp, by simp⟩
    · rw [rdNum_bad l v n e1 hu (by omega)]
      exact ⟨by simp, by simp, by simp only; omega⟩
  · rw [rdNum_err l e h]
    exact ⟨by simp, by simp, he⟩
theorem rdInt_bd (most : Int) (l : List UInt8) (e : Nat) (he : e ≤ 1000) (hm : 0 ≤ most) : (((rdInt most l e).1 : Nat) : Int) ≤ most ∧ (rdInt most l e).2.1.length ≤ l.length ∧ (rdInt most l e).2.2 ≤ 1000 := by
  obtain ⟨v, n, e1, hu⟩ : ∃ v n e1, unchain l = (v, n, e1) := ⟨_, _, _, rfl⟩
  obtain ⟨hv, hb⟩ := unchain_bd hu
  by_cases h : e = 0
  · subst h
    rcases hb with ⟨h0, h1, _, _⟩ | ⟨h0, h1, h2⟩
    · subst h0
      by_cases hl : most < (v : Int)
      · rw [rdInt_long most l v n hu (.inr hl)]
        exact ⟨by simpa using hm, by simp, by simp⟩
      · rw [rdInt_ok most l v n hu (by omega)]
        exact ⟨by simp only; omega, by simp, by simp⟩
    · rw [rdInt_bad most l v n e1 hu (by omega)]
      exact ⟨by simpa using hm, by simp, by simp only; omega⟩
  · rw [rdInt_err most l e h]
    exact ⟨by simpa using hm, by simp, he⟩
theorem rdStr_bd (most : Int) (l : List UInt8) (e : Nat) (he : e ≤ 1000) (hm : 0 ≤ most) : (((rdStr most l e).1.length : Nat) : Int) ≤ most ∧ (rdStr most l e).2.1.length ≤ l.length ∧ (rdStr most l e).2.2 ≤ 1000 := by
  obtain ⟨s, n, e1, hu⟩ : ∃ v n e1, untext l most = (v, n, e1) := ⟨_, _, _, rfl⟩
  by_cases h : e = 0
  · subst h
    rcases untext_ok l most s n e1 hu with ⟨h0, h1, h2, h3⟩ | ⟨h0, h1, h2, h3⟩
    · subst h0
      rw [rdStr_ok most l s n hu]
      exact ⟨h3, by simp, by simp⟩
    · rw [rdStr_bad most l s n e1 hu (by omega)]
      exact ⟨by simpa using hm, by simp, by simp only; omega⟩
  · rw [rdStr_err most l e h]
    exact ⟨by simpa using hm, by simp, he⟩
end
end Go.Proofs.Ytjnaeoelnmhjfaa

set_option linter.unusedSimpArgs false
set_option linter.unusedVariables false
namespace Go.Proofs.Ytjnaeoelnmhjfaa
open Go Go.RowKit

section



theorem untext_back (l : List UInt8) (most : Int) (s : List UInt8) (n : Nat) (h : untext l most = (s, n, 0)) : l = text s ++ l.drop n := by
  obtain ⟨v, k, e, hu⟩ : ∃ v n e, unchain l = (v, n, e) := ⟨_, _, _, rfl⟩
  obtain ⟨_, hb⟩ := unchain_bd hu
  by_cases he : e = 0
  · subst he
    by_cases hm : most < 0 ∨ most < (v : Int)
    · rw [untext_long l most v k hu hm] at h; simp at h
    · by_cases hs : l.length - k < v
      · rw [untext_short l most v k hu hm hs] at h; simp at h
      · rw [untext_yes l most v k hu hm hs] at h
        simp only [Prod.mk.injEq, and_true] at h
        obtain ⟨rfl, rfl⟩ := h
        have hc := chain_unchain l v k hu
        have hl : ((l.drop k).take v).length = v := by simp; omega
        unfold text
        rw [hl, hc, List.append_assoc, ← List.drop_drop, List.take_append_drop, List.take_append_drop]
  · rw [untext_err l most v k e hu he] at h
    simp only [Prod.mk.injEq] at h
    exact absurd h.2.2 he
theorem rdStr_back {most : Int} {l : List UInt8} {e : Nat} (h : (rdStr most l e).2.2 = 0) : e = 0 ∧ l = text (rdStr most l e).1 ++ (rdStr most l e).2.1 := by
  by_cases he : e = 0
  · subst he
    refine ⟨rfl, ?_⟩
    obtain ⟨s, n, e1, hu⟩ : ∃ v n e1, untext l most = (v, n, e1) := ⟨_, _, _, rfl⟩
    by_cases h1 : e1 = 0
    · subst h1
      rw [rdStr_ok most l s n hu]
      exact untext_back l most s n hu
    · rw [rdStr_bad most l s n e1 hu h1] at h; exact absurd h h1
  · rw [rdStr_err most l e he] at h; exact absurd h he
theorem rdNum_back {l : List UInt8} {e : Nat} (h : (rdNum l e).2.2 = 0) : e = 0 ∧ l = chainI ((rdNum l e).1 : Nat) ++ (rdNum l e).2.1 := by
  by_cases he : e = 0
  · subst he
    refine ⟨rfl, ?_⟩
    obtain ⟨v, n, e1, hu⟩ : ∃ v n e1, unchain l = (v, n, e1) := ⟨_, _, _, rfl⟩
    by_cases h1 : e1 = 0
    · subst h1
      rw [rdNum_ok l v n hu]
      show l = chain v ++ l.drop n
      rw [chain_unchain l v n hu, List.take_append_drop]
    · rw [rdNum_bad l v n e1 hu h1] at h; exact absurd h h1
  · rw [rdNum_err l e he] at h; exact absurd h he
theorem rdInt_back {most : Int} {l : List UInt8} {e : Nat} (h : (rdInt most l e).2.2 = 0) : e = 0 ∧ l = chainI ((rdInt most l e).1 : Nat) ++ (rdInt most l e).2.1 := by
  by_cases he : e = 0
  · subst he
    refine ⟨rfl, ?_⟩
    obtain ⟨v, n, e1, hu⟩ : ∃ v n e1, unchain l = (v, n, e1) := ⟨_, _, _, rfl⟩
    by_cases h1 : e1 = 0
    · subst h1
      by_cases hl : most < 0 ∨ most < (v : Int)
      · rw [rdInt_long most l v n hu hl] at h; simp at h
      · rw [rdInt_ok most l v n hu hl]
        show l = chain v ++ l.drop n
        rw [chain_unchain l v n hu, List.take_append_drop]
    · rw [rdInt_bad most l v n e1 hu h1] at h; exact absurd h h1
  · rw [rdInt_err most l e he] at h; exact absurd h he
theorem rdFlag_back {l : List UInt8} {e : Nat} (h : (rdFlag l e).2.2 = 0) : e = 0 ∧ l = chainI (if (rdFlag l e).1 then 1 else 0) ++ (rdFlag l e).2.1 := by
  by_cases he : e = 0
  · subst he
    refine ⟨rfl, ?_⟩
    obtain ⟨v, n, e1, hu⟩ : ∃ v n e1, unchain l = (v, n, e1) := ⟨_, _, _, rfl⟩
    by_cases h1 : e1 = 0
    · subst h1
      by_cases hl : 1 < v
      · rw [rdFlag_long l v n hu hl] at h; simp at h
      · rw [rdFlag_ok l v n hu hl]
        have hv : chainI (if (v == 1) = true then 1 else 0) = chain v := by
          rcases (by omega : v = 0 ∨ v = 1) with rfl | rfl <;> rfl
        simp only
        rw [hv, chain_unchain l v n hu, List.take_append_drop]
    · rw [rdFlag_bad l v n e1 hu h1] at h; exact absurd h h1
  · rw [rdFlag_err l e he] at h; exact absurd h he
theorem rdEnd_back {l : List UInt8} {e : Nat} (h : rdEnd l e = 0) : e = 0 ∧ l = [] := by
  unfold rdEnd at h
  by_cases he : e = 0
  · rw [if_neg (by omega)] at h
    by_cases hl : l = []
    · exact ⟨he, hl⟩
    · rw [if_neg hl] at h; omega
  · rw [if_pos he] at h; exact absurd h he
theorem rdStr_text (most : Int) (s rest : List UInt8) (h : (s.length : Int) ≤ most) (h64 : s.length < 18446744073709551616) : rdStr most (text s ++ rest) 0 = (s, rest, 0) := by
  rw [rdStr_ok most _ s (text s).length (untext_text s rest most h h64), List.drop_left]
theorem rdInt_chain (most x : Int) (rest : List UInt8) (h0 : 0 ≤ x) (h1 : x ≤ most) (h2 : x < 18446744073709551616) : rdInt most (chainI x ++ rest) 0 = (x.toNat, rest, 0) := by
  unfold chainI
  rw [rdInt_ok most _ x.toNat (chain x.toNat).length (unchain_chain x.toNat rest (by unfold U64; omega)) (by omega), List.drop_left]
theorem rdNum_chain (n : Nat) (rest : List UInt8) (h : n < 18446744073709551616) : rdNum (chainI (n : Int) ++ rest) 0 = (n, rest, 0) := by
  have e : chainI (n : Int) = chain n := rfl
  rw [e, rdNum_ok _ n (chain n).length (unchain_chain n rest h), List.drop_left]
theorem rdFlag_chain (b : Bool) (rest : List UInt8) : rdFlag (chainI (if b then 1 else 0) ++ rest) 0 = (b, rest, 0) := by
  cases b
  · have e : chainI (if false = true then 1 else 0) = chain 0 := rfl
    rw [e, rdFlag_ok _ 0 (chain 0).length (unchain_chain 0 rest (by unfold U64; omega)) (by omega), List.drop_left]; rfl
  · have e : chainI (if true = true then 1 else 0) = chain 1 := rfl
    rw [e, rdFlag_ok _ 1 (chain 1).length (unchain_chain 1 rest (by unfold U64; omega)) (by omega), List.drop_left]; rfl

end
end Go.Proofs.Ytjnaeoelnmhjfaa

set_option linter.unusedSimpArgs false
set_option linter.unusedVariables false
namespace Go.Proofs.Ytjnaeoelnmhjfaa
open Go Go.RowKit

section



def encNum (n : Nat) : List UInt8 := chainI (n : Int)
/-- Of the bytes l, behind the error e, v is told; l' is left, behind the error e'. -/
structure Rdg {α : Type} (enc : α → List UInt8) (good : α → Prop) (l : List UInt8) (e : Nat) (v : α) (l' : List UInt8) (e' : Nat) : Prop where
  back : e' = 0 → e = 0 ∧ good v ∧ l = enc v ++ l'
  forth : ∀ w r, e = 0 → good w → l = enc w ++ r → e' = 0 ∧ v = w ∧ l' = r
  len : l'.length ≤ l.length
  err : e' ≤ 1000
/-- What is told of bytes that are none's. -/
theorem Rdg.bad {α : Type} {enc : α → List UInt8} {good : α → Prop} {l l' : List UInt8} {e e' : Nat} {v : α} (h : Rdg enc good l e v l' e') (he : e' ≠ 0) (u : α) : Rdg enc good l e u l' e' :=
  ⟨fun h0 => absurd h0 he, fun w r h1 h2 h3 => absurd (h.forth w r h1 h2 h3).1 he, h.len, h.err⟩
theorem Rdg.seq {α β γ : Type} {ea : α → List UInt8} {eb : β → List UInt8} {ga : α → Prop} {gb : β → Prop} {l l1 l2 : List UInt8} {e e1 e2 : Nat} {a : α} {b : β} (h1 : Rdg ea ga l e a l1 e1) (h2 : Rdg eb gb l1 e1 b l2 e2)
    {ec : γ → List UInt8} {gc : γ → Prop} {c : γ} (pa : γ → α) (pb : γ → β) (ha : pa c = a) (hb : pb c = b) (hc : ∀ x y, gc x → gc y → pa x = pa y → pb x = pb y → x = y) (hg : ∀ x, gc x → ga (pa x) ∧ gb (pb x)) (hg' : ga a → gb b → gc c) (he : ∀ x, gc x → ec x = ea (pa x) ++ eb (pb x)) : Rdg ec gc l e c l2 e2 := by
  subst ha hb
  refine ⟨fun h0 => ?_, fun w r h0 hw hl => ?_, Nat.le_trans h2.len h1.len, h2.err⟩
  · obtain ⟨x1, x2, x3⟩ := h2.back h0
    obtain ⟨y1, y2, y3⟩ := h1.back x1
    exact ⟨y1, hg' y2 x2, by rw [y3, he _ (hg' y2 x2), List.append_assoc, ← x3]⟩
  · obtain ⟨k1, k2⟩ := hg _ hw
    rw [he _ hw, List.append_assoc] at hl
    obtain ⟨x1, x2, x3⟩ := h1.forth _ _ h0 k1 hl
    obtain ⟨y1, y2, y3⟩ := h2.forth _ _ x1 k2 x3
    have z1 := (h1.back x1).2.1
    have z2 := (h2.back y1).2.1
    exact ⟨y1, hc _ _ (hg' z1 z2) hw x2 y2, y3⟩
theorem Rdg.pair {α β : Type} {ea : α → List UInt8} {eb : β → List UInt8} {ga : α → Prop} {gb : β → Prop} {l l1 l2 : List UInt8} {e e1 e2 : Nat} {a : α} {b : β} (h1 : Rdg ea ga l e a l1 e1) (h2 : Rdg eb gb l1 e1 b l2 e2) :
    Rdg (fun p : α × β => ea p.1 ++ eb p.2) (fun p => ga p.1 ∧ gb p.2) l e (a, b) l2 e2 :=
  h1.seq h2 Prod.fst Prod.snd rfl rfl (fun _ _ _ _ x y => Prod.ext x y) (fun _ h => h) (fun x y => ⟨x, y⟩) (fun _ _ => rfl)
/-- Of a number that no element begins with. -/
theorem Rdg.none {γ : Type} {g0 : Nat → Prop} {l l1 : List UInt8} {e e1 n : Nat} (h1 : Rdg encNum g0 l e n l1 e1) {ec : γ → List UInt8} {gc : γ → Prop} (kd : γ → Nat) (tail : γ → List UInt8) (he : ∀ x, gc x → ec x = encNum (kd x) ++ tail x) (hk : ∀ x, gc x → g0 (kd x)) (hn : ∀ x, gc x → kd x ≠ n) :
    ∀ w r, e = 0 → gc w → l ≠ ec w ++ r := by
  intro w r h0 hw hl
  rw [he _ hw, List.append_assoc] at hl
  exact hn _ hw (h1.forth _ _ h0 (hk _ hw) hl).2.1.symm
/-- The same, under another name of what is told. -/
theorem Rdg.to {α β : Type} {ea : α → List UInt8} {ga : α → Prop} {l l1 : List UInt8} {e e1 : Nat} {a : α} (h : Rdg ea ga l e a l1 e1) {eb : β → List UInt8} {gb : β → Prop} {b : β} (f : α → β) (g : β → α) (hfg : ∀ b, gb b → f (g b) = b) (hgf : ga a → g (f a) = a) (hb : e1 = 0 → b = f a) (hbad : e1 ≠ 0 ∨ e1 = 0) (hg : ∀ x, gb x → ga (g x)) (hg' : ga a → gb (f a)) (he : ∀ x, gb x → eb x = ea (g x)) : Rdg eb gb l e b l1 e1 := by
  refine ⟨fun h0 => ?_, fun w r h0 hw hl => ?_, h.len, h.err⟩
  · obtain ⟨x1, x2, x3⟩ := h.back h0
    rw [hb h0]
    exact ⟨x1, hg' x2, by rw [he _ (hg' x2), hgf x2]; exact x3⟩
  · rw [he w hw] at hl
    obtain ⟨x1, x2, x3⟩ := h.forth _ _ h0 (hg w hw) hl
    exact ⟨x1, by rw [hb x1, x2, hfg w hw], x3⟩
def goodNum (n : Nat) : Prop := n < 18446744073709551616
def goodInt (most : Int) (n : Nat) : Prop := (n : Int) ≤ most
def goodStr (most : Int) (s : List UInt8) : Prop := (s.length : Int) ≤ most
def encFlag (b : Bool) : List UInt8 := chainI (if b then 1 else 0)
theorem rdg_num (l : List UInt8) (e : Nat) (he : e ≤ 1000) : Rdg encNum goodNum l e (rdNum l e).1 (rdNum l e).2.1 (rdNum l e).2.2 := by
  obtain ⟨b1, b2, b3⟩ := rdNum_bd l e he
  refine ⟨fun h0 => ?_, fun w r h0 hw hl => ?_, b2, b3⟩
  · obtain ⟨x1, x2⟩ := rdNum_back h0
    exact ⟨x1, b1, x2⟩
  · subst h0 hl
    rw [show rdNum (encNum w ++ r) 0 = (w, r, 0) from rdNum_chain w r hw]
    exact ⟨rfl, rfl, rfl⟩
theorem rdg_int (most : Int) (l : List UInt8) (e : Nat) (he : e ≤ 1000) (hm : 0 ≤ most ∧ most < 18446744073709551616) : Rdg encNum (goodInt most) l e (rdInt most l e).1 (rdInt most l e).2.1 (rdInt most l e).2.2 := by
  obtain ⟨b1, b2, b3⟩ := rdInt_bd most l e he hm.1
  refine ⟨fun h0 => ?_, fun w r h0 hw hl => ?_, b2, b3⟩
  · obtain ⟨x1, x2⟩ := rdInt_back h0
    exact ⟨x1, b1, x2⟩
  · subst h0 hl
    unfold goodInt at hw
    rw [show rdInt most (encNum w ++ r) 0 = ((w : Int).toNat, r, 0) from rdInt_chain most w r (by omega) hw (by omega)]
    exact ⟨rfl, by simp, rfl⟩
theorem rdg_str (most : Int) (l : List UInt8) (e : Nat) (he : e ≤ 1000) (hm : 0 ≤ most ∧ most < 18446744073709551616) : Rdg text (goodStr most) l e (rdStr most l e).1 (rdStr most l e).2.1 (rdStr most l e).2.2 := by
  obtain ⟨b1, b2, b3⟩ := rdStr_bd most l e he hm.1
  refine ⟨fun h0 => ?_, fun w r h0 hw hl => ?_, b2, b3⟩
  · obtain ⟨x1, x2⟩ := rdStr_back h0
    exact ⟨x1, b1, x2⟩
  · subst h0 hl
    unfold goodStr at hw
    rw [show rdStr most (text w ++ r) 0 = (w, r, 0) from rdStr_text most w r hw (by omega)]
    exact ⟨rfl, rfl, rfl⟩
theorem rdgFlag_bd (l : List UInt8) (e : Nat) (he : e ≤ 1000) : (rdFlag l e).2.1.length ≤ l.length ∧ (rdFlag l e).2.2 ≤ 1000 := by
  obtain ⟨v, n, e1, hu⟩ : ∃ v n e1, unchain l = (v, n, e1) := ⟨_, _, _, rfl⟩
  obtain ⟨hv, hb⟩ := unchain_bd hu
  by_cases h : e = 0
  · subst h
    rcases hb with ⟨h0, h1, _, _⟩ | ⟨h0, h1, h2⟩
    · subst h0
      by_cases hl : 1 < v
      · rw [rdFlag_long l v n hu hl]
        exact ⟨by simp, by simp⟩
      · rw [rdFlag_ok l v n hu hl]
        exact ⟨by simp, by simp⟩
    · rw [rdFlag_bad l v n e1 hu (by omega)]
      exact ⟨by simp, by simp only; omega⟩
  · rw [rdFlag_err l e h]
    exact ⟨by simp, he⟩
theorem rdg_flag (l : List UInt8) (e : Nat) (he : e ≤ 1000) : Rdg encFlag (fun _ => True) l e (rdFlag l e).1 (rdFlag l e).2.1 (rdFlag l e).2.2 := by
  obtain ⟨b2, b3⟩ := rdgFlag_bd l e he
  refine ⟨fun h0 => ?_, fun w r h0 hw hl => ?_, b2, b3⟩
  · obtain ⟨x1, x2⟩ := rdFlag_back h0
    exact ⟨x1, trivial, x2⟩
  · subst h0 hl
    rw [show rdFlag (encFlag w ++ r) 0 = (w, r, 0) from rdFlag_chain w r]
    exact ⟨rfl, rfl, rfl⟩
/-- The first ones of so many elements. -/
structure RdgL {α : Type} (enc : α → List UInt8) (good : α → Prop) (n : Nat) (l : List UInt8) (e : Nat) (i : Nat) (vs : List α) (l' : List UInt8) (e' : Nat) : Prop where
  num : vs.length = i
  back : e' = 0 → e = 0 ∧ (∀ v ∈ vs, good v) ∧ l = vs.flatMap enc ++ l'
  forth : ∀ (ws : List α) (r : List UInt8), e = 0 → ws.length = n → (∀ w ∈ ws, good w) → l = ws.flatMap enc ++ r → e' = 0 ∧ vs = ws.take i ∧ l' = (ws.drop i).flatMap enc ++ r
  len : l'.length ≤ l.length
  err : e' ≤ 1000
theorem RdgL.zero {α : Type} {enc : α → List UInt8} {good : α → Prop} {n : Nat} {l : List UInt8} {e : Nat} (he : e ≤ 1000) : RdgL enc good n l e 0 [] l e :=
  ⟨rfl, fun h => ⟨h, by simp, by simp⟩, fun ws r h0 _ _ hl => ⟨h0, by simp, by simpa using hl⟩, Nat.le_refl _, he⟩
theorem RdgL.next {α : Type} {enc : α → List UInt8} {good : α → Prop} {n i : Nat} {l l1 l2 : List UInt8} {e e1 e2 : Nat} {vs : List α} {v : α} (h : RdgL enc good n l e i vs l1 e1) (h1 : Rdg enc good l1 e1 v l2 e2) (hi : i < n) : RdgL enc good n l e (i + 1) (vs ++ [v]) l2 e2 := by
  refine ⟨by simp [h.num], fun h0 => ?_, fun ws r h0 hn hg hl => ?_, Nat.le_trans h1.len h.len, h1.err⟩
  · obtain ⟨x1, x2, x3⟩ := h1.back h0
    obtain ⟨y1, y2, y3⟩ := h.back x1
    refine ⟨y1, fun u hu => ?_, by rw [y3, x3]; simp⟩
    rcases List.mem_append.1 hu with hu | hu
    · exact y2 u hu
    · rw [List.mem_singleton.1 hu]; exact x2
  · obtain ⟨x1, x2, x3⟩ := h.forth ws r h0 hn hg hl
    have hd : ws.drop i = ws[i]'(by omega) :: ws.drop (i + 1) := List.drop_eq_getElem_cons (by omega)
    rw [hd, List.flatMap_cons, List.append_assoc] at x3
    obtain ⟨y1, y2, y3⟩ := h1.forth _ _ x1 (hg _ (List.getElem_mem (by omega))) x3
    refine ⟨y1, ?_, y3⟩
    rw [x2, y2, List.take_succ_eq_append_getElem (by omega)]
theorem RdgL.done {α : Type} {enc : α → List UInt8} {good : α → Prop} {n : Nat} {l l1 : List UInt8} {e e1 : Nat} {vs : List α} (h : RdgL enc good n l e n vs l1 e1) : Rdg (fun vs => vs.flatMap enc) (fun vs => vs.length = n ∧ ∀ v ∈ vs, good v) l e vs l1 e1 := by
  refine ⟨fun h0 => ?_, fun ws r h0 hw hl => ?_, h.len, h.err⟩
  · obtain ⟨x1, x2, x3⟩ := h.back h0
    exact ⟨x1, ⟨h.num, x2⟩, x3⟩
  · obtain ⟨x1, x2, x3⟩ := h.forth ws r h0 hw.1 hw.2 hl
    exact ⟨x1, by rw [x2, List.take_of_length_le (by omega)], by rw [x3, List.drop_eq_nil_of_le (by omega)]; rfl⟩
theorem RdgL.bad {α : Type} {enc : α → List UInt8} {good : α → Prop} {n i : Nat} {l l1 : List UInt8} {e e1 : Nat} {vs us : List α} (h : RdgL enc good n l e i vs l1 e1) (he : e1 ≠ 0) : Rdg (fun vs => vs.flatMap enc) (fun vs => vs.length = n ∧ ∀ v ∈ vs, good v) l e us l1 e1 :=
  ⟨fun h0 => absurd h0 he, fun w r h0 h2 h3 => absurd (h.forth w r h0 h2.1 h2.2 h3).1 he, h.len, h.err⟩
/-- A list with its length ahead. -/
def encList {α : Type} (enc : α → List UInt8) (vs : List α) : List UInt8 := chainI (vs.length : Int) ++ vs.flatMap enc
theorem rdg_list {α : Type} {enc : α → List UInt8} {good : α → Prop} {most : Int} {l l1 l2 : List UInt8} {e e1 e2 n : Nat} {vs : List α} (h0 : Rdg encNum (goodInt most) l e n l1 e1)
    (h : Rdg (fun vs => vs.flatMap enc) (fun vs => vs.length = n ∧ ∀ v ∈ vs, good v) l1 e1 vs l2 e2) : Rdg (encList enc) (fun vs => (vs.length : Int) ≤ most ∧ ∀ v ∈ vs, good v) l e vs l2 e2 := by
  refine ⟨fun hz => ?_, fun ws r hz hw hl => ?_, Nat.le_trans h.len h0.len, h.err⟩
  · obtain ⟨x1, ⟨x2, x3⟩, x4⟩ := h.back hz
    obtain ⟨y1, y2, y3⟩ := h0.back x1
    refine ⟨y1, ⟨by rw [x2]; exact y2, x3⟩, ?_⟩
    rw [y3, x4, ← x2]
    simp [encList, encNum]
  · have hl' : l = encNum ws.length ++ (ws.flatMap enc ++ r) := by rw [hl]; simp [encList, encNum]
    obtain ⟨x1, x2, x3⟩ := h0.forth _ _ hz hw.1 hl'
    subst x2
    exact h.forth ws r x1 ⟨rfl, hw.2⟩ x3
/-- All of the bytes. -/
structure Whole {α : Type} (enc : α → List UInt8) (good : α → Prop) (l : List UInt8) (v : α) (ok : Prop) : Prop where
  back : ok → good v ∧ enc v = l
  forth : ∀ w, good w → enc w = l → ok ∧ v = w
theorem Rdg.whole {α : Type} {enc : α → List UInt8} {good : α → Prop} {l l' : List UInt8} {e' : Nat} {v : α} (h : Rdg enc good l 0 v l' e') : Whole enc good l v (rdEnd l' e' = 0) := by
  refine ⟨fun h0 => ?_, fun w hw hl => ?_⟩
  · obtain ⟨x1, x2⟩ := rdEnd_back h0
    obtain ⟨y1, y2, y3⟩ := h.back x1
    exact ⟨y2, by rw [y3, x2, List.append_nil]⟩
  · obtain ⟨x1, x2, x3⟩ := h.forth w [] rfl hw (by rw [hl, List.append_nil])
    subst x1 x3
    exact ⟨rfl, x2⟩

end
end Go.Proofs.Ytjnaeoelnmhjfaa
