/- What the law DumpDecodes needs, part 2.  -/
import Derived.Test.YtjnaeoelnmhjfaaPkDumpDecodes1


set_option linter.unusedSimpArgs false
set_option linter.unusedVariables false
namespace Go.Proofs.Ytjnaeoelnmhjfaa
open Go Go.RowKit

section
theorem i_4 : Try.prog.info? 4 = some Try.t4 := by kernel_rfl
theorem i_74 : Try.prog.info? 74 = some Try.t74 := by kernel_rfl
theorem i_176 : Try.prog.info? 176 = some Try.t176 := by kernel_rfl
theorem i_244 : Try.prog.info? 244 = some Try.t244 := by kernel_rfl


/-- Any number as a chain: a negative one as the program turns it. -/
def encI (x : Int) : List UInt8 := chainI (IntKind.u64.wrap x)
theorem wrap_bd (x : Int) : 0 ≤ IntKind.u64.wrap x ∧ IntKind.u64.wrap x < 18446744073709551616 := by
  unfold IntKind.wrap; simp [IntKind.signed, IntKind.bits]; omega
theorem encI_of {x : Int} (h0 : 0 ≤ x) (h1 : x < 18446744073709551616) : encI x = chainI x := by unfold encI; rw [Xm ⟨h0, by omega⟩]
def encIs (l : List Int) : List UInt8 := l.flatMap encI
def encTs (l : List (List UInt8)) : List UInt8 := l.flatMap text
def encB (b : Bool) : List UInt8 := chainI (if b then 1 else 0)
def badI (x : Int) : Bool := decide (x < 0 ∨ 1099511627776 < x)
def badT (s : List UInt8) : Bool := decide (200 < (s.length : Int))
theorem encIs_next {l : List (Nat × Int)} {i : Nat} {y : Nat × Int} (h : l[i]? = some y) : encIs ((l.take i).map Prod.snd) ++ encI y.2 = encIs ((l.take (i + 1)).map Prod.snd) := by
  obtain ⟨hi, rfl⟩ := List.getElem?_eq_some_iff.1 h
  rw [List.take_succ_eq_append_getElem hi, List.map_append]; unfold encIs; rw [List.flatMap_append]; exact congrArg _ (by simp)
theorem encTs_next {l : List (Nat × List UInt8)} {i : Nat} {y : Nat × List UInt8} (h : l[i]? = some y) : encTs ((l.take i).map Prod.snd) ++ text y.2 = encTs ((l.take (i + 1)).map Prod.snd) := by
  obtain ⟨hi, rfl⟩ := List.getElem?_eq_some_iff.1 h
  rw [List.take_succ_eq_append_getElem hi, List.map_append]; unfold encTs; rw [List.flatMap_append]; exact congrArg _ (by simp)
theorem encIs_part {l : List (Nat × Int)} (i : Nat) : (encIs ((l.take i).map Prod.snd)).length ≤ (encIs (l.map Prod.snd)).length := by
  have : l.map Prod.snd = (l.take i).map Prod.snd ++ (l.drop i).map Prod.snd := by rw [← List.map_append, List.take_append_drop]
  rw [this]; unfold encIs; rw [List.flatMap_append, List.length_append]; omega
theorem encTs_part {l : List (Nat × List UInt8)} (i : Nat) : (encTs ((l.take i).map Prod.snd)).length ≤ (encTs (l.map Prod.snd)).length := by
  have : l.map Prod.snd = (l.take i).map Prod.snd ++ (l.drop i).map Prod.snd := by rw [← List.map_append, List.take_append_drop]
  rw [this]; unfold encTs; rw [List.flatMap_append, List.length_append]; omega
set_option maxRecDepth 100000 in
set_option maxHeartbeats 1000000 in
theorem cw_num (b : Nat) (p : Value) (u : Sl) (tx : List UInt8) (w : Bool) (hp : UsedOr b p) (hu : Txt u tx) (bx k : Nat) (cs : Array Value) (T : TypeId) (fz : Nat × Nat) (n : Nat) (hn : n < 18446744073709551616) (hk : cs[k]? = some (.int .u64 (n : Int))) (hl : tx.length + (chainI (n : Int)).length ≤ 140737488355328) :
    Ct Try.prog 94 [.pointer (some ⟨b, 0, none⟩), .pointer (some ⟨bx, k, none⟩)] [(some bx, .cells cs T fz)] [(some b, .cells #[p, u.v (tx).length, .pointer none, .bool w] 80 (0, 0)), (u.ob, .cells u.cs 5 u.fz)] fun v post => v = .tuple #[] ∧ ∃ p1 u1, UsedOr b p1 ∧ Txt u1 (tx ++ chainI (n : Int)) ∧ post = [(some b, .cells #[p1, u1.v (tx ++ chainI (n : Int)).length, .pointer none, .bool w] 80 (0, 0)), (u1.ob, .cells u1.cs 5 u1.fz)] := by
 refine Yu Try.func94 rfl rfl (fun w0 => ?_)
 show G _ _ [(0, _), (1, _)] _ _
 refine Zh ?_
 refine Zh ?_
 refine Zd (l := [0, 1, 2, 3, 4]) rfl ?_
 refine Za rfl rfl rfl rfl (Zc rfl rfl) ?_
 refine Za rfl rfl rfl rfl (Ze rfl rfl) ?_
 refine Za rfl rfl rfl rfl (Zb (fo := 2) rfl Try.underlying80 rfl i_74 rfl rfl rfl) ?_
 refine Za rfl rfl rfl rfl (Zj rfl rfl (Zf 1 rfl) rfl Try.underlying74 rfl) ?_
 refine Za rfl rfl rfl rfl (V_pneqN rfl Try.underlying74 rfl rfl) ?_
 refine Zg ?_
 refine Xu rfl ?_
 refine Zu ?_
 refine Yf (Lq := []) (isq := []) (m := 8) Yo rfl rfl ?_
 refine Zi 0 rfl rfl rfl rfl (by kernel_rfl) (fun _ _ => Zc rfl rfl) ?_
 refine Zi 1 rfl rfl rfl rfl (by kernel_rfl) (fun _ _ => Ze rfl rfl) ?_
 refine Zi 2 rfl rfl rfl rfl (by kernel_rfl) (fun _ _ => Zb (fo := 0) rfl Try.underlying80 rfl i_78 rfl rfl rfl) ?_
 refine Zi 3 rfl rfl rfl rfl (by kernel_rfl) (fun _ _ => Zc rfl rfl) ?_
 refine Zi 4 rfl rfl rfl rfl (by kernel_rfl) (fun _ _ => Ze rfl rfl) ?_
 refine Zi 5 rfl rfl rfl rfl (by kernel_rfl) (fun _ _ => Zj rfl rfl (Zf 0 rfl) (Zt hk) Try.underlying23 rfl) ?_
 refine GH_all [6] (by kernel_rfl) (by decide) ?_
 refine (And.intro ?_ trivial)
 ·
  refine Ye (L2 := [_, _]) rfl rfl rfl rfl rfl rfl Try.call80 (Xv _ (by omega) (by omega)) [] [] rfl rfl [] (by rintro v post ⟨rfl, rfl⟩; exact ⟨_, rfl⟩) ?_
  rintro v post ⟨rfl, rfl⟩
  show GH _ _ _ _ _ _ _ [_, _] _
  refine GH_all [7] (by kernel_rfl) (by decide) ?_
  refine (And.intro ?_ trivial)
  ·
   refine Ye (L2 := []) rfl rfl rfl rfl rfl rfl Try.call79 (Xl _ _ _ _ _ _ _ hp hu (by omega)) [0, 0] [] rfl rfl [] (by rintro v post ⟨rfl, u1, hu1, rfl⟩; exact ⟨_, rfl⟩) ?_
   rintro v post ⟨rfl, u1, hu1, rfl⟩
   show GH _ _ _ _ _ _ _ [_, _] _
   refine Ya (by kernel_rfl) ?_
   refine G_end (post := [_, _]) Try.func94 rfl Zp [0, 0] rfl ?_
   dsimp only [packed]
   exact ⟨rfl, _, u1, .inr rfl, hu1, rfl⟩

set_option maxRecDepth 100000 in
set_option maxHeartbeats 1000000 in
theorem cw_flag (b : Nat) (p : Value) (u : Sl) (tx : List UInt8) (w : Bool) (hp : UsedOr b p) (hu : Txt u tx) (bx k : Nat) (cs : Array Value) (T : TypeId) (fz : Nat × Nat) (n : Bool) (hk : cs[k]? = some (.bool n)) (hl : tx.length + 10 ≤ 140737488355328) :
    Ct Try.prog 95 [.pointer (some ⟨b, 0, none⟩), .pointer (some ⟨bx, k, none⟩)] [(some bx, .cells cs T fz)] [(some b, .cells #[p, u.v (tx).length, .pointer none, .bool w] 80 (0, 0)), (u.ob, .cells u.cs 5 u.fz)] fun v post => v = .tuple #[] ∧ ∃ p1 u1, UsedOr b p1 ∧ Txt u1 (tx ++ encB n) ∧ post = [(some b, .cells #[p1, u1.v (tx ++ encB n).length, .pointer none, .bool w] 80 (0, 0)), (u1.ob, .cells u1.cs 5 u1.fz)] := by
 have hc0 := chainI_len 0 (by omega) (by omega)
 have hc1 := chainI_len 1 (by omega) (by omega)
 refine Yu Try.func95 rfl rfl (fun w0 => ?_)
 show G _ _ [(0, _), (1, _)] _ _
 refine Zs ?_
 refine Zh ?_
 refine Zd (l := [0, 1, 2, 3, 4, 5]) rfl ?_
 refine Za rfl rfl rfl rfl (Zc rfl rfl) ?_
 refine Za rfl rfl rfl rfl (Ze rfl rfl) ?_
 refine Za rfl rfl rfl rfl (Zb (fo := 2) rfl Try.underlying80 rfl i_74 rfl rfl rfl) ?_
 refine Za rfl rfl rfl rfl (Zj rfl rfl (Zf 1 rfl) rfl Try.underlying74 rfl) ?_
 refine Za rfl rfl rfl rfl (V_pneqN rfl Try.underlying74 rfl rfl) ?_
 refine Za rfl rfl rfl rfl (Zk rfl rfl) ?_
 refine Zg ?_
 refine Xu rfl ?_
 refine Zh ?_
 refine Zd (l := [0, 1, 2, 3]) rfl ?_
 refine Za rfl rfl rfl rfl (Zc rfl rfl) ?_
 refine Za rfl rfl rfl rfl (Ze rfl rfl) ?_
 refine Za rfl rfl rfl rfl (Zj rfl rfl (Zf 0 rfl) (Zt hk) Try.underlying4 rfl) ?_
 refine Za rfl rfl rfl rfl (Zk rfl rfl) ?_
 refine Zg ?_
 refine G_if rfl (fun hc1 => ?_) (fun hc1 => ?_)
 ·
  refine Yf (Lq := []) (isq := []) (m := 5) Yo rfl rfl ?_
  refine Zi 0 rfl rfl rfl rfl (by kernel_rfl) (fun _ _ => Zc rfl rfl) ?_
  refine Zi 1 rfl rfl rfl rfl (by kernel_rfl) (fun _ _ => Ze rfl rfl) ?_
  refine Zi 2 rfl rfl rfl rfl (by kernel_rfl) (fun _ _ => Zb (fo := 0) rfl Try.underlying80 rfl i_78 rfl rfl rfl) ?_
  refine GH_all [3] (by kernel_rfl) (by decide) ?_
  refine (And.intro ?_ trivial)
  ·
   refine Ye (L2 := [_, _]) rfl rfl rfl rfl rfl rfl Try.call80 (Xv _ (by omega) (by omega)) [] [] rfl rfl [] (by rintro v post ⟨rfl, rfl⟩; exact ⟨_, rfl⟩) ?_
   rintro v post ⟨rfl, rfl⟩
   show GH _ _ _ _ _ _ _ [_, _] _
   refine GH_all [4] (by kernel_rfl) (by decide) ?_
   refine (And.intro ?_ trivial)
   ·
    refine Ye (L2 := []) rfl rfl rfl rfl rfl rfl Try.call79 (Xl _ _ _ _ _ _ _ hp hu (by omega)) [0, 0] [] rfl rfl [] (by rintro v post ⟨rfl, u1, hu1, rfl⟩; exact ⟨_, rfl⟩) ?_
    rintro v post ⟨rfl, u1, hu1, rfl⟩
    show GH _ _ _ _ _ _ _ [_, _] _
    refine Ya (by kernel_rfl) ?_
    refine Zv ?_
    refine G_end (post := [_, _]) Try.func95 rfl Zp [0, 0] rfl ?_
    dsimp only [packed]
    first
      | exact ⟨rfl, _, u1, .inr rfl, hu1, rfl⟩
      | (subst n
         exact ⟨rfl, _, u1, .inr rfl, hu1, rfl⟩)
 refine Yf (Lq := []) (isq := []) (m := 5) Yo rfl rfl ?_
 refine Zi 0 rfl rfl rfl rfl (by kernel_rfl) (fun _ _ => Zc rfl rfl) ?_
 refine Zi 1 rfl rfl rfl rfl (by kernel_rfl) (fun _ _ => Ze rfl rfl) ?_
 refine Zi 2 rfl rfl rfl rfl (by kernel_rfl) (fun _ _ => Zb (fo := 0) rfl Try.underlying80 rfl i_78 rfl rfl rfl) ?_
 refine GH_all [3] (by kernel_rfl) (by decide) ?_
 refine (And.intro ?_ trivial)
 ·
  refine Ye (L2 := [_, _]) rfl rfl rfl rfl rfl rfl Try.call80 (Xv _ (by omega) (by omega)) [] [] rfl rfl [] (by rintro v post ⟨rfl, rfl⟩; exact ⟨_, rfl⟩) ?_
  rintro v post ⟨rfl, rfl⟩
  show GH _ _ _ _ _ _ _ [_, _] _
  refine GH_all [4] (by kernel_rfl) (by decide) ?_
  refine (And.intro ?_ trivial)
  ·
   refine Ye (L2 := []) rfl rfl rfl rfl rfl rfl Try.call79 (Xl _ _ _ _ _ _ _ hp hu (by omega)) [0, 0] [] rfl rfl [] (by rintro v post ⟨rfl, u1, hu1, rfl⟩; exact ⟨_, rfl⟩) ?_
   rintro v post ⟨rfl, u1, hu1, rfl⟩
   show GH _ _ _ _ _ _ _ [_, _] _
   refine Ya (by kernel_rfl) ?_
   refine Zv ?_
   refine G_end (post := [_, _]) Try.func95 rfl Zp [0, 0] rfl ?_
   dsimp only [packed]
   first
     | exact ⟨rfl, _, u1, .inr rfl, hu1, rfl⟩
     | (subst n
        exact ⟨rfl, _, u1, .inr rfl, hu1, rfl⟩)


theorem ptr_at {β : Type} {f : β → Value} {ks : List β} {o : Option Nat} {p q n : Nat} {c : Array Value} (h : Sees 1 o p q c (ks.map f) n) {i : Nat} {y : β} (hy : ks[i]? = some y) : c[p + i * 1]? = some (f y) := by
  rw [Nat.mul_one]; exact h.at (by rw [List.getElem?_map, hy]; rfl)
theorem any_map_next {α : Type} {f : α → Bool} {l : List (Nat × α)} {i : Nat} {y : Nat × α} (h : l[i]? = some y) {w v v' : Bool} (hv : v = (w || ((l.take i).map Prod.snd).any f)) (hn : v' = (v || f y.2)) : v' = (w || ((l.take (i + 1)).map Prod.snd).any f) := by
  obtain ⟨hi, rfl⟩ := List.getElem?_eq_some_iff.1 h
  rw [hn, hv, List.take_succ_eq_append_getElem hi, List.map_append, List.any_append, Bool.or_assoc]
  exact congrArg _ (congrArg _ (by simp))

set_option maxRecDepth 100000 in
set_option maxHeartbeats 1000000 in
theorem cw_ints (b : Nat) (p : Value) (u : Sl) (tx : List UInt8) (w : Bool) (hp : UsedOr b p) (hu : Txt u tx) (o1 : Option Nat) (p1 q1 : Nat) (c1 : Array Value) (T1 : TypeId) (f1 : Nat × Nat) (bx : Nat) (cs : Array Value) (T : TypeId) (fz : Nat × Nat) (ks : List (Nat × Int)) (hs : Sees 1 o1 p1 q1 c1 (ks.map fun y => .pointer (some ⟨bx, y.1, none⟩)) ks.length) (hk : ∀ y ∈ ks, cs[y.1]? = some (.int .i64 y.2)) (hl : tx.length + (encIs (ks.map Prod.snd)).length ≤ 140737488350000) :
    Ct Try.prog 96 [.pointer (some ⟨b, 0, none⟩), sv o1 p1 ks.length q1] [(o1, .cells c1 T1 f1), (some bx, .cells cs T fz)] [(some b, .cells #[p, u.v (tx).length, .pointer none, .bool w] 80 (0, 0)), (u.ob, .cells u.cs 5 u.fz)] fun v post => v = .tuple #[] ∧ ∃ p1 u1, UsedOr b p1 ∧ Txt u1 (tx ++ encIs (ks.map Prod.snd)) ∧ post = [(some b, .cells #[p1, u1.v (tx ++ encIs (ks.map Prod.snd)).length, .pointer none, .bool (w || (ks.map Prod.snd).any badI)] 80 (0, 0)), (u1.ob, .cells u1.cs 5 u1.fz)] := by
 have hl1 := hs.le
 have hl2 := hs.max
 refine Yu Try.func96 rfl rfl (fun w0 => ?_)
 show G _ _ [(0, _), (1, _)] _ _
 refine Zh ?_
 refine Zd (l := [0, 1, 2]) rfl ?_
 refine Za rfl rfl rfl rfl (Zc rfl rfl) ?_
 refine Za rfl rfl rfl rfl (Yp rfl rfl Try.underlying241 rfl) ?_
 refine Za rfl rfl rfl rfl (Zc rfl rfl) ?_
 refine Zg ?_
 refine Zs ?_
 refine Yi ?he1 [0, 0] ?hl1 (Xb (X := Nat × Value × Sl × List UInt8 × Bool) (fun x_ => match x_ with | ⟨i, p, u, t, v⟩ => i ≤ ks.length ∧ UsedOr b p ∧ Txt u t ∧ t = tx ++ encIs ((ks.take i).map Prod.snd) ∧ v = (w || ((ks.take i).map Prod.snd).any badI)) (fun x_ => match x_ with | ⟨i, p, u, t, v⟩ => ks.length - i) (fun x_ => match x_ with | ⟨i, p, u, t, v⟩ => [(0, .pointer (some ⟨b, 0, none⟩)), (6, sv o1 p1 ks.length q1), (7, .int .i64 (ks.length : Int)), (8, .int .i64 (i : Int))]) (fun x_ => match x_ with | ⟨i, p, u, t, v⟩ => [(some b, .cells #[p, u.v (t).length, .pointer none, .bool v] 80 (0, 0)), (u.ob, .cells u.cs 5 u.fz)]) ?round1 (0, p, u, tx, w) ?h01)
 case he1 => exact (And.intro rfl (And.intro rfl (And.intro rfl (And.intro rfl trivial))))
 case hl1 => exact ⟨_, rfl⟩
 case h01 => exact ⟨Nat.zero_le _, hp, hu, by simp [encIs], by simp⟩
 case round1 =>
  intro x_ hJ ih
  try dsimp only at hJ ih
  obtain ⟨i, p, u, t, v⟩ := x_
  try dsimp only at hJ ih
  obtain ⟨hi, hp, hu, ht, hv⟩ := hJ
  show G _ _ [(0, .pointer (some ⟨b, 0, none⟩)), (6, sv o1 p1 ks.length q1), (7, .int .i64 (ks.length : Int)), (8, .int .i64 (i : Int))] [(some b, .cells #[p, u.v (t).length, .pointer none, .bool v] 80 (0, 0)), (u.ob, .cells u.cs 5 u.fz)] _
  refine Zh ?_
  refine Zd (l := [0]) rfl ?_
  refine Za rfl rfl rfl rfl (Xn rfl rfl rfl) ?_
  refine Zg ?_
  refine Zh ?_
  refine Yk rfl (fun hc1 => ?_) (fun hc1 => ?_)
  ·
   try (first | contradiction | (exact absurd rfl hc1) | (exfalso; omega) | (simp at hc1; done) | (exact absurd hc1 (by decide)) | (exact absurd (by decide) hc1))
   all_goals
    trace "@@cw_ints#0"
    refine Zu ?_
    refine Zh ?_
    refine Zs ?_
    refine Zh ?_
    obtain ⟨y, hy⟩ := getI (show i < ks.length by omega)
    obtain ⟨bo1, rfl⟩ := hs.isSome (by omega)
    have hym := List.mem_of_getElem? hy
    have hyk := hk y hym
    have hpl := encIs_part (l := ks) (i + 1)
    rw [← encIs_next hy, List.length_append] at hpl
    have htl := congrArg List.length ht
    rw [List.length_append] at htl
    have hce : (chainI (IntKind.u64.wrap y.2)).length = (encI y.2).length := rfl
    refine Zd (l := [0, 1, 2]) rfl ?_
    first
     | refine Za rfl rfl rfl rfl (Zo (s := 1) rfl Try.underlying241 i_176 rfl rfl rfl rfl (by omega)) ?_
     | refine Za rfl rfl rfl rfl (V_indexAddr (s := 1) rfl Try.underlying241 i_176 rfl rfl rfl (by omega) (by first | omega | (simp; done) | (simp; omega) | (simp at *; omega))) ?_
    refine Za rfl rfl rfl rfl (Zj rfl rfl (Zf 0 rfl) (Zt (ptr_at hs hy)) Try.underlying176 rfl) ?_
    refine Za rfl rfl rfl rfl (Zk rfl rfl) ?_
    refine Zg ?_
    refine Zh ?_
    refine Zh ?_
    refine Zd (l := [0, 1, 2, 3, 4]) rfl ?_
    refine Za rfl rfl rfl rfl (Zc rfl rfl) ?_
    first
     | refine Za rfl rfl rfl rfl (Ze rfl rfl) ?_
     | refine Za rfl rfl rfl rfl (Zz rfl rfl) ?_
    refine Za rfl rfl rfl rfl (Zb (fo := 2) rfl Try.underlying80 rfl i_74 rfl rfl rfl) ?_
    refine Za rfl rfl rfl rfl (Zj rfl rfl (Zf 2 rfl) rfl Try.underlying74 rfl) ?_
    refine Za rfl rfl rfl rfl (V_pneqN rfl Try.underlying74 rfl rfl) ?_
    refine Zg ?_
    refine Xu rfl ?_
    refine Zu ?_
    refine Zh ?_
    refine Zd (l := [0, 1, 2, 3, 4, 5, 6, 7, 8, 9, 10, 11, 12, 13, 14, 15, 16, 17, 18, 19]) rfl ?_
    refine Za rfl rfl rfl rfl (Zc rfl rfl) ?_
    refine Za rfl rfl rfl rfl (Zc rfl rfl) ?_
    first
     | refine Za rfl rfl rfl rfl (Ze rfl rfl) ?_
     | refine Za rfl rfl rfl rfl (Zz rfl rfl) ?_
    refine Za rfl rfl rfl rfl (Zb (fo := 3) rfl Try.underlying80 rfl i_4 rfl rfl rfl) ?_
    refine Za rfl rfl rfl rfl (Zj rfl rfl (Zf 2 rfl) rfl Try.underlying4 rfl) ?_
    refine Za rfl rfl rfl rfl (Zc rfl rfl) ?_
    refine G_split 29 rfl (fun hc2 => ?_) (fun hc2 => ?_)
    ·
     try (first | contradiction | (exact absurd rfl hc2) | (exfalso; omega) | (simp at hc2; done) | (exact absurd hc2 (by decide)) | (exact absurd (by decide) hc2))
     all_goals
      trace "@@cw_ints#2"
      refine Yb rfl rfl rfl rfl ?_
      refine Yb rfl rfl rfl rfl ?_
      refine Yb rfl rfl rfl rfl ?_
      refine Yb rfl rfl rfl rfl ?_
      refine Za rfl rfl rfl rfl (Yz rfl rfl rfl) ?_
      refine Za rfl rfl rfl rfl (Zc rfl rfl) ?_
      refine Yb rfl rfl rfl rfl ?_
      refine Yb rfl rfl rfl rfl ?_
      refine Yb rfl rfl rfl rfl ?_
      refine Yb rfl rfl rfl rfl ?_
      refine Za rfl rfl rfl rfl (Yz rfl rfl rfl) ?_
      first
       | refine Za rfl rfl rfl rfl (Ze rfl rfl) ?_
       | refine Za rfl rfl rfl rfl (Zz rfl rfl) ?_
      refine Za rfl rfl rfl rfl (Zb (fo := 3) rfl Try.underlying80 rfl i_4 rfl rfl rfl) ?_
      refine Yj (l1 := []) (L' := [_, _]) rfl rfl rfl rfl (Zm rfl rfl rfl (Zf 0 rfl) (by first | exact of_decide_eq_true rfl | omega | (simp; done) | (simp; omega) | (simp at *; omega)) i_4 rfl rfl) rfl ?_
      refine Zg ?_
      refine Yf (Lq := []) (isq := []) (m := 9) Yo rfl rfl ?_
      refine Zi 0 rfl rfl rfl rfl (by kernel_rfl) (fun _ _ => Zc rfl rfl) ?_
      first
       | refine Zi 1 rfl rfl rfl rfl (by kernel_rfl) (fun _ _ => Ze rfl rfl) ?_
       | refine Zi 1 rfl rfl rfl rfl (by kernel_rfl) (fun _ _ => Zz rfl rfl) ?_
      refine Zi 2 rfl rfl rfl rfl (by kernel_rfl) (fun _ _ => Zb (fo := 0) rfl Try.underlying80 rfl i_78 rfl rfl rfl) ?_
      refine Zi 3 rfl rfl rfl rfl (by kernel_rfl) (fun _ _ => Zc rfl rfl) ?_
      first
       | refine Zi 4 rfl rfl rfl rfl (by kernel_rfl) (fun _ _ => Ze rfl rfl) ?_
       | refine Zi 4 rfl rfl rfl rfl (by kernel_rfl) (fun _ _ => Zz rfl rfl) ?_
      refine Zi 5 rfl rfl rfl rfl (by kernel_rfl) (fun _ _ => Zj rfl rfl (Zf 1 rfl) (Zt hyk) Try.underlying3 rfl) ?_
      first
       | refine Zi 6 rfl rfl rfl rfl (by kernel_rfl) (fun _ _ => (Xt rfl rfl Try.underlying3 Try.underlying23).int (Xm (by omega))) ?_
       | refine Zi 6 rfl rfl rfl rfl (by kernel_rfl) (fun _ _ => Xt rfl rfl Try.underlying3 Try.underlying23) ?_
      refine GH_all [7] (by kernel_rfl) (by decide) ?_
      refine (And.intro ?_ trivial)
      ·
       refine Ye (L2 := [_, _]) rfl rfl rfl rfl rfl rfl Try.call80 (Xv _ (wrap_bd y.2).1 (wrap_bd y.2).2) [] [] rfl rfl [] (by rintro v post ⟨rfl, rfl⟩; exact ⟨_, rfl⟩) ?_
       rintro v post ⟨rfl, rfl⟩
       show GH _ _ _ _ _ _ _ [_, _] _
       refine GH_all [8] (by kernel_rfl) (by decide) ?_
       refine (And.intro ?_ trivial)
       ·
        refine Ye (L2 := []) rfl rfl rfl rfl rfl rfl Try.call79 (Xl _ _ _ _ _ _ _ hp hu (by omega)) [0, 0] [] rfl rfl [] (by rintro v post ⟨rfl, u1, hu1, rfl⟩; exact ⟨_, rfl⟩) ?_
        rintro v post ⟨rfl, u1, hu1, rfl⟩
        show GH _ _ _ _ _ _ _ [_, _] _
        refine Ya (by kernel_rfl) ?_
        refine Zv ?_
        refine Zd (l := [0, 1]) rfl ?_
        first
         | refine Za rfl rfl rfl rfl ((Xe rfl rfl rfl).int (Zw (by omega))) ?_
         | refine Za rfl rfl rfl rfl (Xe rfl rfl rfl) ?_
        refine Za rfl rfl rfl rfl (Zc rfl rfl) ?_
        refine Zg ?_
        refine Yi ?_ [0, 0] ?_ (ih (i + 1, .pointer (some ⟨b, 0, none⟩), u1, t ++ encI y.2, true) ?_ ?_)
        · (refine (And.intro ?_ (And.intro ?_ (And.intro ?_ (And.intro ?_ trivial)))) <;> first | rfl | exact Zl (by omega) | exact Zl (by simp))
        · exact ⟨_, rfl⟩
        · exact ⟨by omega, .inr rfl, hu1, by rw [← encIs_next hy, ← List.append_assoc, ← ht], any_map_next hy hv (by clear hv ht htl; simp [badI, *])⟩
        · (first | omega | (dsimp only; omega))
    ·
     try (first | contradiction | (exact absurd rfl hc2) | (exfalso; omega) | (simp at hc2; done) | (exact absurd hc2 (by decide)) | (exact absurd (by decide) hc2))
     all_goals
      trace "@@cw_ints#3"
      refine Za rfl rfl rfl rfl (Zc rfl rfl) ?_
      first
       | refine Za rfl rfl rfl rfl (Ze rfl rfl) ?_
       | refine Za rfl rfl rfl rfl (Zz rfl rfl) ?_
      refine Za rfl rfl rfl rfl (Zj rfl rfl (Zf 1 rfl) (Zt hyk) Try.underlying3 rfl) ?_
      refine Za rfl rfl rfl rfl (Xn rfl rfl rfl) ?_
      refine Za rfl rfl rfl rfl (Xg rfl rfl rfl) ?_
      refine Za rfl rfl rfl rfl (Zc rfl rfl) ?_
      refine Xa 35 rfl (fun hc3 => ?_) (fun hc3 => ?_)
      ·
       try (first | contradiction | (exact absurd rfl hc3) | (exfalso; omega) | (simp at hc3; done) | (exact absurd hc3 (by decide)) | (exact absurd (by decide) hc3))
       all_goals
        trace "@@cw_ints#4"
        refine Yb rfl rfl rfl rfl ?_
        refine Yb rfl rfl rfl rfl ?_
        refine Yb rfl rfl rfl rfl ?_
        refine Yb rfl rfl rfl rfl ?_
        refine Za rfl rfl rfl rfl (Yz rfl rfl rfl) ?_
        first
         | refine Za rfl rfl rfl rfl (Ze rfl rfl) ?_
         | refine Za rfl rfl rfl rfl (Zz rfl rfl) ?_
        refine Za rfl rfl rfl rfl (Zb (fo := 3) rfl Try.underlying80 rfl i_4 rfl rfl rfl) ?_
        refine Yj (l1 := []) (L' := [_, _]) rfl rfl rfl rfl (Zm rfl rfl rfl (Zf 0 rfl) (by first | exact of_decide_eq_true rfl | omega | (simp; done) | (simp; omega) | (simp at *; omega)) i_4 rfl rfl) rfl ?_
        refine Zg ?_
        refine Yf (Lq := []) (isq := []) (m := 9) Yo rfl rfl ?_
        refine Zi 0 rfl rfl rfl rfl (by kernel_rfl) (fun _ _ => Zc rfl rfl) ?_
        first
         | refine Zi 1 rfl rfl rfl rfl (by kernel_rfl) (fun _ _ => Ze rfl rfl) ?_
         | refine Zi 1 rfl rfl rfl rfl (by kernel_rfl) (fun _ _ => Zz rfl rfl) ?_
        refine Zi 2 rfl rfl rfl rfl (by kernel_rfl) (fun _ _ => Zb (fo := 0) rfl Try.underlying80 rfl i_78 rfl rfl rfl) ?_
        refine Zi 3 rfl rfl rfl rfl (by kernel_rfl) (fun _ _ => Zc rfl rfl) ?_
        first
         | refine Zi 4 rfl rfl rfl rfl (by kernel_rfl) (fun _ _ => Ze rfl rfl) ?_
         | refine Zi 4 rfl rfl rfl rfl (by kernel_rfl) (fun _ _ => Zz rfl rfl) ?_
        refine Zi 5 rfl rfl rfl rfl (by kernel_rfl) (fun _ _ => Zj rfl rfl (Zf 1 rfl) (Zt hyk) Try.underlying3 rfl) ?_
        first
         | refine Zi 6 rfl rfl rfl rfl (by kernel_rfl) (fun _ _ => (Xt rfl rfl Try.underlying3 Try.underlying23).int (Xm (by omega))) ?_
         | refine Zi 6 rfl rfl rfl rfl (by kernel_rfl) (fun _ _ => Xt rfl rfl Try.underlying3 Try.underlying23) ?_
        refine GH_all [7] (by kernel_rfl) (by decide) ?_
        refine (And.intro ?_ trivial)
        ·
         refine Ye (L2 := [_, _]) rfl rfl rfl rfl rfl rfl Try.call80 (Xv _ (wrap_bd y.2).1 (wrap_bd y.2).2) [] [] rfl rfl [] (by rintro v post ⟨rfl, rfl⟩; exact ⟨_, rfl⟩) ?_
         rintro v post ⟨rfl, rfl⟩
         show GH _ _ _ _ _ _ _ [_, _] _
         refine GH_all [8] (by kernel_rfl) (by decide) ?_
         refine (And.intro ?_ trivial)
         ·
          refine Ye (L2 := []) rfl rfl rfl rfl rfl rfl Try.call79 (Xl _ _ _ _ _ _ _ hp hu (by omega)) [0, 0] [] rfl rfl [] (by rintro v post ⟨rfl, u1, hu1, rfl⟩; exact ⟨_, rfl⟩) ?_
          rintro v post ⟨rfl, u1, hu1, rfl⟩
          show GH _ _ _ _ _ _ _ [_, _] _
          refine Ya (by kernel_rfl) ?_
          refine Zv ?_
          refine Zd (l := [0, 1]) rfl ?_
          first
           | refine Za rfl rfl rfl rfl ((Xe rfl rfl rfl).int (Zw (by omega))) ?_
           | refine Za rfl rfl rfl rfl (Xe rfl rfl rfl) ?_
          refine Za rfl rfl rfl rfl (Zc rfl rfl) ?_
          refine Zg ?_
          refine Yi ?_ [0, 0] ?_ (ih (i + 1, .pointer (some ⟨b, 0, none⟩), u1, t ++ encI y.2, true) ?_ ?_)
          · (refine (And.intro ?_ (And.intro ?_ (And.intro ?_ (And.intro ?_ trivial)))) <;> first | rfl | exact Zl (by omega) | exact Zl (by simp))
          · exact ⟨_, rfl⟩
          · exact ⟨by omega, .inr rfl, hu1, by rw [← encIs_next hy, ← List.append_assoc, ← ht], any_map_next hy hv (by clear hv ht htl; simp [badI, *])⟩
          · (first | omega | (dsimp only; omega))
      ·
       try (first | contradiction | (exact absurd rfl hc3) | (exfalso; omega) | (simp at hc3; done) | (exact absurd hc3 (by decide)) | (exact absurd (by decide) hc3))
       all_goals
        trace "@@cw_ints#5"
        refine Za rfl rfl rfl rfl (Zc rfl rfl) ?_
        first
         | refine Za rfl rfl rfl rfl (Ze rfl rfl) ?_
         | refine Za rfl rfl rfl rfl (Zz rfl rfl) ?_
        refine Za rfl rfl rfl rfl (Zj rfl rfl (Zf 1 rfl) (Zt hyk) Try.underlying3 rfl) ?_
        refine Za rfl rfl rfl rfl (V_gtr rfl rfl rfl) ?_
        refine Za rfl rfl rfl rfl (Xg rfl rfl rfl) ?_
        first
         | refine Za rfl rfl rfl rfl (Ze rfl rfl) ?_
         | refine Za rfl rfl rfl rfl (Zz rfl rfl) ?_
        refine Za rfl rfl rfl rfl (Zb (fo := 3) rfl Try.underlying80 rfl i_4 rfl rfl rfl) ?_
        refine Yj (l1 := []) (L' := [_, _]) rfl rfl rfl rfl (Zm rfl rfl rfl (Zf 0 rfl) (by first | exact of_decide_eq_true rfl | omega | (simp; done) | (simp; omega) | (simp at *; omega)) i_4 rfl rfl) rfl ?_
        refine Zg ?_
        refine Yf (Lq := []) (isq := []) (m := 9) Yo rfl rfl ?_
        refine Zi 0 rfl rfl rfl rfl (by kernel_rfl) (fun _ _ => Zc rfl rfl) ?_
        first
         | refine Zi 1 rfl rfl rfl rfl (by kernel_rfl) (fun _ _ => Ze rfl rfl) ?_
         | refine Zi 1 rfl rfl rfl rfl (by kernel_rfl) (fun _ _ => Zz rfl rfl) ?_
        refine Zi 2 rfl rfl rfl rfl (by kernel_rfl) (fun _ _ => Zb (fo := 0) rfl Try.underlying80 rfl i_78 rfl rfl rfl) ?_
        refine Zi 3 rfl rfl rfl rfl (by kernel_rfl) (fun _ _ => Zc rfl rfl) ?_
        first
         | refine Zi 4 rfl rfl rfl rfl (by kernel_rfl) (fun _ _ => Ze rfl rfl) ?_
         | refine Zi 4 rfl rfl rfl rfl (by kernel_rfl) (fun _ _ => Zz rfl rfl) ?_
        refine Zi 5 rfl rfl rfl rfl (by kernel_rfl) (fun _ _ => Zj rfl rfl (Zf 1 rfl) (Zt hyk) Try.underlying3 rfl) ?_
        first
         | refine Zi 6 rfl rfl rfl rfl (by kernel_rfl) (fun _ _ => (Xt rfl rfl Try.underlying3 Try.underlying23).int (Xm (by omega))) ?_
         | refine Zi 6 rfl rfl rfl rfl (by kernel_rfl) (fun _ _ => Xt rfl rfl Try.underlying3 Try.underlying23) ?_
        refine GH_all [7] (by kernel_rfl) (by decide) ?_
        refine (And.intro ?_ trivial)
        ·
         refine Ye (L2 := [_, _]) rfl rfl rfl rfl rfl rfl Try.call80 (Xv _ (wrap_bd y.2).1 (wrap_bd y.2).2) [] [] rfl rfl [] (by rintro v post ⟨rfl, rfl⟩; exact ⟨_, rfl⟩) ?_
         rintro v post ⟨rfl, rfl⟩
         show GH _ _ _ _ _ _ _ [_, _] _
         refine GH_all [8] (by kernel_rfl) (by decide) ?_
         refine (And.intro ?_ trivial)
         ·
          refine Ye (L2 := []) rfl rfl rfl rfl rfl rfl Try.call79 (Xl _ _ _ _ _ _ _ hp hu (by omega)) [0, 0] [] rfl rfl [] (by rintro v post ⟨rfl, u1, hu1, rfl⟩; exact ⟨_, rfl⟩) ?_
          rintro v post ⟨rfl, u1, hu1, rfl⟩
          show GH _ _ _ _ _ _ _ [_, _] _
          refine Ya (by kernel_rfl) ?_
          refine Zv ?_
          refine Zd (l := [0, 1]) rfl ?_
          first
           | refine Za rfl rfl rfl rfl ((Xe rfl rfl rfl).int (Zw (by omega))) ?_
           | refine Za rfl rfl rfl rfl (Xe rfl rfl rfl) ?_
          refine Za rfl rfl rfl rfl (Zc rfl rfl) ?_
          refine Zg ?_
          refine Yi ?_ [0, 0] ?_ (ih (i + 1, .pointer (some ⟨b, 0, none⟩), u1, t ++ encI y.2, (decide (1099511627776 < y.2))) ?_ ?_)
          · (refine (And.intro ?_ (And.intro ?_ (And.intro ?_ (And.intro ?_ trivial)))) <;> first | rfl | exact Zl (by omega) | exact Zl (by simp))
          · exact ⟨_, rfl⟩
          · exact ⟨by omega, .inr rfl, hu1, by rw [← encIs_next hy, ← List.append_assoc, ← ht], any_map_next hy hv (by clear hv ht htl; simp [badI, *])⟩
          · (first | omega | (dsimp only; omega))
  ·
   try (first | contradiction | (exact absurd rfl hc1) | (exfalso; omega) | (simp at hc1; done) | (exact absurd hc1 (by decide)) | (exact absurd (by decide) hc1))
   all_goals
    trace "@@cw_ints#1"
    refine Yr rfl ?_
    refine G_end (post := [_, _]) Try.func96 rfl Zp [0, 0] rfl ?_
    dsimp only [packed]
    have e : ks.take i = ks := List.take_of_length_le (by omega)
    rw [e] at ht hv
    subst ht hv
    exact ⟨rfl, p, u, hp, hu, rfl⟩


theorem chain_part (s : List UInt8) : s.length ≤ (text s).length := by unfold text; rw [List.length_append]; omega

set_option maxRecDepth 100000 in
set_option maxHeartbeats 1000000 in
theorem cw_texts (b : Nat) (p : Value) (u : Sl) (tx : List UInt8) (w : Bool) (hp : UsedOr b p) (hu : Txt u tx) (o1 : Option Nat) (p1 q1 : Nat) (c1 : Array Value) (T1 : TypeId) (f1 : Nat × Nat) (bx : Nat) (cs : Array Value) (T : TypeId) (fz : Nat × Nat) (ks : List (Nat × List UInt8)) (hs : Sees 1 o1 p1 q1 c1 (ks.map fun y => .pointer (some ⟨bx, y.1, none⟩)) ks.length) (hk : ∀ y ∈ ks, cs[y.1]? = some (.string (bs y.2))) (hl : tx.length + (encTs (ks.map Prod.snd)).length ≤ 140737488350000) :
    Ct Try.prog 142 [.pointer (some ⟨b, 0, none⟩), sv o1 p1 ks.length q1] [(o1, .cells c1 T1 f1), (some bx, .cells cs T fz)] [(some b, .cells #[p, u.v (tx).length, .pointer none, .bool w] 80 (0, 0)), (u.ob, .cells u.cs 5 u.fz)] fun v post => v = .tuple #[] ∧ ∃ p1 u1, UsedOr b p1 ∧ Txt u1 (tx ++ encTs (ks.map Prod.snd)) ∧ post = [(some b, .cells #[p1, u1.v (tx ++ encTs (ks.map Prod.snd)).length, .pointer none, .bool (w || (ks.map Prod.snd).any badT)] 80 (0, 0)), (u1.ob, .cells u1.cs 5 u1.fz)] := by
 have hl1 := hs.le
 have hl2 := hs.max
 refine Yu Try.func142 rfl rfl (fun w0 => ?_)
 show G _ _ [(0, _), (1, _)] _ _
 refine Zh ?_
 refine Zd (l := [0, 1, 2]) rfl ?_
 refine Za rfl rfl rfl rfl (Zc rfl rfl) ?_
 refine Za rfl rfl rfl rfl (Yp rfl rfl Try.underlying278 rfl) ?_
 refine Za rfl rfl rfl rfl (Zc rfl rfl) ?_
 refine Zg ?_
 refine Zs ?_
 refine Yi ?he1 [0, 0] ?hl1 (Xb (X := Nat × Value × Sl × List UInt8 × Bool) (fun x_ => match x_ with | ⟨i, p, u, t, v⟩ => i ≤ ks.length ∧ UsedOr b p ∧ Txt u t ∧ t = tx ++ encTs ((ks.take i).map Prod.snd) ∧ v = (w || ((ks.take i).map Prod.snd).any badT)) (fun x_ => match x_ with | ⟨i, p, u, t, v⟩ => ks.length - i) (fun x_ => match x_ with | ⟨i, p, u, t, v⟩ => [(0, .pointer (some ⟨b, 0, none⟩)), (6, sv o1 p1 ks.length q1), (7, .int .i64 (ks.length : Int)), (8, .int .i64 (i : Int))]) (fun x_ => match x_ with | ⟨i, p, u, t, v⟩ => [(some b, .cells #[p, u.v (t).length, .pointer none, .bool v] 80 (0, 0)), (u.ob, .cells u.cs 5 u.fz)]) ?round1 (0, p, u, tx, w) ?h01)
 case he1 => exact (And.intro rfl (And.intro rfl (And.intro rfl (And.intro rfl trivial))))
 case hl1 => exact ⟨_, rfl⟩
 case h01 => exact ⟨Nat.zero_le _, hp, hu, by simp [encTs], by simp⟩
 case round1 =>
  intro x_ hJ ih
  try dsimp only at hJ ih
  obtain ⟨i, p, u, t, v⟩ := x_
  try dsimp only at hJ ih
  obtain ⟨hi, hp, hu, ht, hv⟩ := hJ
  show G _ _ [(0, .pointer (some ⟨b, 0, none⟩)), (6, sv o1 p1 ks.length q1), (7, .int .i64 (ks.length : Int)), (8, .int .i64 (i : Int))] [(some b, .cells #[p, u.v (t).length, .pointer none, .bool v] 80 (0, 0)), (u.ob, .cells u.cs 5 u.fz)] _
  refine Zh ?_
  refine Zd (l := [0]) rfl ?_
  refine Za rfl rfl rfl rfl (Xn rfl rfl rfl) ?_
  refine Zg ?_
  refine Zh ?_
  refine Yk rfl (fun hc1 => ?_) (fun hc1 => ?_)
  ·
   try (first | contradiction | (exact absurd rfl hc1) | (exfalso; omega) | (simp at hc1; done) | (exact absurd hc1 (by decide)) | (exact absurd (by decide) hc1))
   all_goals
    trace "@@cw_texts#0"
    refine Zu ?_
    refine Zh ?_
    refine Zs ?_
    refine Zh ?_
    obtain ⟨y, hy⟩ := getI (show i < ks.length by omega)
    obtain ⟨bo1, rfl⟩ := hs.isSome (by omega)
    have hym := List.mem_of_getElem? hy
    have hyk := hk y hym
    have hpl := encTs_part (l := ks) (i + 1)
    rw [← encTs_next hy, List.length_append] at hpl
    have htl := congrArg List.length ht
    rw [List.length_append] at htl
    have hce := chain_part y.2
    refine Zd (l := [0, 1, 2]) rfl ?_
    first
     | refine Za rfl rfl rfl rfl (Zo (s := 1) rfl Try.underlying278 i_244 rfl rfl rfl rfl (by omega)) ?_
     | refine Za rfl rfl rfl rfl (V_indexAddr (s := 1) rfl Try.underlying278 i_244 rfl rfl rfl (by omega) (by first | omega | (simp; done) | (simp; omega) | (simp at *; omega))) ?_
    refine Za rfl rfl rfl rfl (Zj rfl rfl (Zf 0 rfl) (Zt (ptr_at hs hy)) Try.underlying244 rfl) ?_
    refine Za rfl rfl rfl rfl (Zk rfl rfl) ?_
    refine Zg ?_
    refine Zh ?_
    refine Zh ?_
    refine Zd (l := [0, 1, 2, 3, 4]) rfl ?_
    refine Za rfl rfl rfl rfl (Zc rfl rfl) ?_
    first
     | refine Za rfl rfl rfl rfl (Ze rfl rfl) ?_
     | refine Za rfl rfl rfl rfl (Zz rfl rfl) ?_
    refine Za rfl rfl rfl rfl (Zb (fo := 2) rfl Try.underlying80 rfl i_74 rfl rfl rfl) ?_
    refine Za rfl rfl rfl rfl (Zj rfl rfl (Zf 2 rfl) rfl Try.underlying74 rfl) ?_
    refine Za rfl rfl rfl rfl (V_pneqN rfl Try.underlying74 rfl rfl) ?_
    refine Zg ?_
    refine Xu rfl ?_
    refine Zu ?_
    refine Zh ?_
    refine Zd (l := [0, 1, 2, 3, 4, 5, 6, 7, 8, 9, 10, 11, 12, 13, 14]) rfl ?_
    refine Za rfl rfl rfl rfl (Zc rfl rfl) ?_
    refine Za rfl rfl rfl rfl (Zc rfl rfl) ?_
    first
     | refine Za rfl rfl rfl rfl (Ze rfl rfl) ?_
     | refine Za rfl rfl rfl rfl (Zz rfl rfl) ?_
    refine Za rfl rfl rfl rfl (Zb (fo := 3) rfl Try.underlying80 rfl i_4 rfl rfl rfl) ?_
    refine Za rfl rfl rfl rfl (Zj rfl rfl (Zf 2 rfl) rfl Try.underlying4 rfl) ?_
    refine Za rfl rfl rfl rfl (Zc rfl rfl) ?_
    refine G_split 29 rfl (fun hc2 => ?_) (fun hc2 => ?_)
    ·
     try (first | contradiction | (exact absurd rfl hc2) | (exfalso; omega) | (simp at hc2; done) | (exact absurd hc2 (by decide)) | (exact absurd (by decide) hc2))
     all_goals
      trace "@@cw_texts#2"
      refine Yb rfl rfl rfl rfl ?_
      refine Yb rfl rfl rfl rfl ?_
      refine Yb rfl rfl rfl rfl ?_
      refine Yb rfl rfl rfl rfl ?_
      refine Yb rfl rfl rfl rfl ?_
      refine Za rfl rfl rfl rfl (Yz rfl rfl rfl) ?_
      first
       | refine Za rfl rfl rfl rfl (Ze rfl rfl) ?_
       | refine Za rfl rfl rfl rfl (Zz rfl rfl) ?_
      refine Za rfl rfl rfl rfl (Zb (fo := 3) rfl Try.underlying80 rfl i_4 rfl rfl rfl) ?_
      refine Yj (l1 := []) (L' := [_, _]) rfl rfl rfl rfl (Zm rfl rfl rfl (Zf 0 rfl) (by first | exact of_decide_eq_true rfl | omega | (simp; done) | (simp; omega) | (simp at *; omega)) i_4 rfl rfl) rfl ?_
      refine Zg ?_
      refine Yf (Lq := []) (isq := []) (m := 8) Yo rfl rfl ?_
      refine Zi 0 rfl rfl rfl rfl (by kernel_rfl) (fun _ _ => Zc rfl rfl) ?_
      first
       | refine Zi 1 rfl rfl rfl rfl (by kernel_rfl) (fun _ _ => Ze rfl rfl) ?_
       | refine Zi 1 rfl rfl rfl rfl (by kernel_rfl) (fun _ _ => Zz rfl rfl) ?_
      refine Zi 2 rfl rfl rfl rfl (by kernel_rfl) (fun _ _ => Zb (fo := 0) rfl Try.underlying80 rfl i_78 rfl rfl rfl) ?_
      refine Zi 3 rfl rfl rfl rfl (by kernel_rfl) (fun _ _ => Zc rfl rfl) ?_
      first
       | refine Zi 4 rfl rfl rfl rfl (by kernel_rfl) (fun _ _ => Ze rfl rfl) ?_
       | refine Zi 4 rfl rfl rfl rfl (by kernel_rfl) (fun _ _ => Zz rfl rfl) ?_
      refine Zi 5 rfl rfl rfl rfl (by kernel_rfl) (fun _ _ => Zj rfl rfl (Zf 1 rfl) (Zt hyk) Try.underlying9 rfl) ?_
      refine GH_all [6] (by kernel_rfl) (by decide) ?_
      refine (And.intro ?_ trivial)
      ·
       refine Ye (L2 := [_, _]) rfl rfl rfl rfl rfl rfl Try.call81 (ct_text _ (by omega)) [] [] rfl rfl [] (by rintro v post ⟨rfl, rfl⟩; exact ⟨_, rfl⟩) ?_
       rintro v post ⟨rfl, rfl⟩
       show GH _ _ _ _ _ _ _ [_, _] _
       refine GH_all [7] (by kernel_rfl) (by decide) ?_
       refine (And.intro ?_ trivial)
       ·
        refine Ye (L2 := []) rfl rfl rfl rfl rfl rfl Try.call79 (Xl _ _ _ _ _ _ _ hp hu (by omega)) [0, 0] [] rfl rfl [] (by rintro v post ⟨rfl, u1, hu1, rfl⟩; exact ⟨_, rfl⟩) ?_
        rintro v post ⟨rfl, u1, hu1, rfl⟩
        show GH _ _ _ _ _ _ _ [_, _] _
        refine Ya (by kernel_rfl) ?_
        refine Zv ?_
        refine Zd (l := [0, 1]) rfl ?_
        first
         | refine Za rfl rfl rfl rfl ((Xe rfl rfl rfl).int (Zw (by omega))) ?_
         | refine Za rfl rfl rfl rfl (Xe rfl rfl rfl) ?_
        refine Za rfl rfl rfl rfl (Zc rfl rfl) ?_
        refine Zg ?_
        refine Yi ?_ [0, 0] ?_ (ih (i + 1, .pointer (some ⟨b, 0, none⟩), u1, t ++ text y.2, true) ?_ ?_)
        · (refine (And.intro ?_ (And.intro ?_ (And.intro ?_ (And.intro ?_ trivial)))) <;> first | rfl | exact Zl (by omega) | exact Zl (by simp))
        · exact ⟨_, rfl⟩
        · exact ⟨by omega, .inr rfl, hu1, by rw [← encTs_next hy, ← List.append_assoc, ← ht], any_map_next hy hv (by clear hv ht htl; simp [badT, *])⟩
        · (first | omega | (dsimp only; omega))
    ·
     try (first | contradiction | (exact absurd rfl hc2) | (exfalso; omega) | (simp at hc2; done) | (exact absurd hc2 (by decide)) | (exact absurd (by decide) hc2))
     all_goals
      trace "@@cw_texts#3"
      refine Za rfl rfl rfl rfl (Zc rfl rfl) ?_
      first
       | refine Za rfl rfl rfl rfl (Ze rfl rfl) ?_
       | refine Za rfl rfl rfl rfl (Zz rfl rfl) ?_
      refine Za rfl rfl rfl rfl (Zj rfl rfl (Zf 1 rfl) (Zt hyk) Try.underlying9 rfl) ?_
      refine Za rfl rfl rfl rfl (V_slen rfl rfl Try.underlying9 rfl) ?_
      refine Za rfl rfl rfl rfl (V_gtr rfl rfl rfl) ?_
      refine Za rfl rfl rfl rfl (Xg rfl rfl rfl) ?_
      first
       | refine Za rfl rfl rfl rfl (Ze rfl rfl) ?_
       | refine Za rfl rfl rfl rfl (Zz rfl rfl) ?_
      refine Za rfl rfl rfl rfl (Zb (fo := 3) rfl Try.underlying80 rfl i_4 rfl rfl rfl) ?_
      refine Yj (l1 := []) (L' := [_, _]) rfl rfl rfl rfl (Zm rfl rfl rfl (Zf 0 rfl) (by first | exact of_decide_eq_true rfl | omega | (simp; done) | (simp; omega) | (simp at *; omega)) i_4 rfl rfl) rfl ?_
      refine Zg ?_
      refine Yf (Lq := []) (isq := []) (m := 8) Yo rfl rfl ?_
      refine Zi 0 rfl rfl rfl rfl (by kernel_rfl) (fun _ _ => Zc rfl rfl) ?_
      first
       | refine Zi 1 rfl rfl rfl rfl (by kernel_rfl) (fun _ _ => Ze rfl rfl) ?_
       | refine Zi 1 rfl rfl rfl rfl (by kernel_rfl) (fun _ _ => Zz rfl rfl) ?_
      refine Zi 2 rfl rfl rfl rfl (by kernel_rfl) (fun _ _ => Zb (fo := 0) rfl Try.underlying80 rfl i_78 rfl rfl rfl) ?_
      refine Zi 3 rfl rfl rfl rfl (by kernel_rfl) (fun _ _ => Zc rfl rfl) ?_
      first
       | refine Zi 4 rfl rfl rfl rfl (by kernel_rfl) (fun _ _ => Ze rfl rfl) ?_
       | refine Zi 4 rfl rfl rfl rfl (by kernel_rfl) (fun _ _ => Zz rfl rfl) ?_
      refine Zi 5 rfl rfl rfl rfl (by kernel_rfl) (fun _ _ => Zj rfl rfl (Zf 1 rfl) (Zt hyk) Try.underlying9 rfl) ?_
      refine GH_all [6] (by kernel_rfl) (by decide) ?_
      refine (And.intro ?_ trivial)
      ·
       refine Ye (L2 := [_, _]) rfl rfl rfl rfl rfl rfl Try.call81 (ct_text _ (by omega)) [] [] rfl rfl [] (by rintro v post ⟨rfl, rfl⟩; exact ⟨_, rfl⟩) ?_
       rintro v post ⟨rfl, rfl⟩
       show GH _ _ _ _ _ _ _ [_, _] _
       refine GH_all [7] (by kernel_rfl) (by decide) ?_
       refine (And.intro ?_ trivial)
       ·
        refine Ye (L2 := []) rfl rfl rfl rfl rfl rfl Try.call79 (Xl _ _ _ _ _ _ _ hp hu (by omega)) [0, 0] [] rfl rfl [] (by rintro v post ⟨rfl, u1, hu1, rfl⟩; exact ⟨_, rfl⟩) ?_
        rintro v post ⟨rfl, u1, hu1, rfl⟩
        show GH _ _ _ _ _ _ _ [_, _] _
        refine Ya (by kernel_rfl) ?_
        refine Zv ?_
        refine Zd (l := [0, 1]) rfl ?_
        first
         | refine Za rfl rfl rfl rfl ((Xe rfl rfl rfl).int (Zw (by omega))) ?_
         | refine Za rfl rfl rfl rfl (Xe rfl rfl rfl) ?_
        refine Za rfl rfl rfl rfl (Zc rfl rfl) ?_
        refine Zg ?_
        refine Yi ?_ [0, 0] ?_ (ih (i + 1, .pointer (some ⟨b, 0, none⟩), u1, t ++ text y.2, (decide (200 < (y.2.length : Int)))) ?_ ?_)
        · (refine (And.intro ?_ (And.intro ?_ (And.intro ?_ (And.intro ?_ trivial)))) <;> first | rfl | exact Zl (by omega) | exact Zl (by simp))
        · exact ⟨_, rfl⟩
        · exact ⟨by omega, .inr rfl, hu1, by rw [← encTs_next hy, ← List.append_assoc, ← ht], any_map_next hy hv (by clear hv ht htl; simp [badT, *])⟩
        · (first | omega | (dsimp only; omega))
  ·
   try (first | contradiction | (exact absurd rfl hc1) | (exfalso; omega) | (simp at hc1; done) | (exact absurd hc1 (by decide)) | (exact absurd (by decide) hc1))
   all_goals
    trace "@@cw_texts#1"
    refine Yr rfl ?_
    refine G_end (post := [_, _]) Try.func142 rfl Zp [0, 0] rfl ?_
    dsimp only [packed]
    have e : ks.take i = ks := List.take_of_length_le (by omega)
    rw [e] at ht hv
    subst ht hv
    exact ⟨rfl, p, u, hp, hu, rfl⟩

end
end Go.Proofs.Ytjnaeoelnmhjfaa

set_option linter.unusedSimpArgs false
set_option linter.unusedVariables false
namespace Go.Proofs.Ytjnaeoelnmhjfaa
open Go Go.RowKit

section



/-- A slice inside a slice. -/
structure Ins (α : Type) where
  p : Option Addr
  ob : Option Nat
  off : Nat
  cap : Nat
  cs : Array Value
  T : TypeId
  fr : Nat × Nat
  l : List α
def insK {α : Type} (s : Ins α) : Option Nat × Obj := (s.ob, .cells s.cs s.T s.fr)
def insV {α : Type} (s : Ins α) : Value := .slice s.p s.l.length s.cap
structure InsOk {α : Type} (sz : Nat) (f : α → List Value) (s : Ins α) : Prop where
  le : s.l.length ≤ s.cap
  max : s.cap ≤ 9223372036854775807
  n : s.l.length ≤ 1048576
  sees : (s.p = s.ob.map (fun b => ⟨b, s.off, none⟩) ∧ Sees sz s.ob s.off s.cap s.cs (s.l.flatMap f) s.l.length) ∨ (s.l = [] ∧ s.cap = 0)
theorem InsOk.isS {α : Type} {sz : Nat} {f : α → List Value} {s : Ins α} (h : InsOk sz f s) {i : Nat} (hi : i < s.l.length) : ∃ b, s.p = some ⟨b, s.off, none⟩ ∧ s.ob = some b ∧ Sees sz (some b) s.off s.cap s.cs (s.l.flatMap f) s.l.length := by
  rcases h.sees with ⟨h1, h2⟩ | ⟨h1, h2⟩
  · obtain ⟨b, hb⟩ := h2.isSome (by omega)
    refine ⟨b, by rw [h1, hb]; rfl, hb, ?_⟩
    rw [hb] at h2; exact h2
  · rw [h1] at hi; simp at hi
theorem Xc {α : Type} {s : Ins α} {b : Nat} (h : s.ob = some b) : insK s = (some b, .cells s.cs s.T s.fr) := by unfold insK; rw [h]
/-- An invocation that waits. -/
structure Fr where
  a : Int × Int × Int
  s : Ins (Int × Int)
/-- A tenant that waits, as the document has it. -/
structure Tr where
  a : Int × Int × Int
  q : Int
  s : Ins Fr
  g : Bool
/-- A share. -/
structure Sr where
  q : Int
  s : Ins Tr
  g : Bool
def i1C (x : Int) : List Value := [.int .i64 x]
theorem i1_len (x : Int) : (i1C x).length = 1 := rfl
/-- A need. -/
structure Pr where
  n : List UInt8
  u : Int
  v : Ins Int
  s : Ins Sr
section
variable {f : Fr} {t : Tr} {s : Sr} {p : Pr} {l : List Pr} {z : Option Nat × Obj}
end

end
end Go.Proofs.Ytjnaeoelnmhjfaa

set_option linter.unusedSimpArgs false
set_option linter.unusedVariables false
namespace Go.Proofs.Ytjnaeoelnmhjfaa
open Go Go.RowKit

section
theorem i_3 : Try.prog.info? 3 = some Try.t3 := by kernel_rfl
theorem i_9 : Try.prog.info? 9 = some Try.t9 := by kernel_rfl
theorem i_23 : Try.prog.info? 23 = some Try.t23 := by kernel_rfl
theorem i_135 : Try.prog.info? 135 = some Try.t135 := by kernel_rfl
theorem i_139 : Try.prog.info? 139 = some Try.t139 := by kernel_rfl
def AllAt {α : Type} (f : α → Value) (cs : Array Value) : List (Nat × α) → Prop
  | [] => True
  | y :: r => cs[y.1]? = some (f y.2) ∧ AllAt f cs r
theorem allAt {α : Type} {f : α → Value} {cs : Array Value} : ∀ {l : List (Nat × α)}, AllAt f cs l → ∀ y ∈ l, cs[y.1]? = some (f y.2)
  | [], _ => by simp
  | z :: r, h => by
    intro y hy
    rcases List.mem_cons.1 hy with rfl | hy
    · exact h.1
    · exact allAt h.2 y hy
structure Op where
  v0 : Int
  v1 : Int
  v2 : Int
  v3 : List UInt8
  v4 : List UInt8
  v5 : List UInt8
  v6 : Int
  v7 : Int
  v8 : Int
  v9 : Int
  v10 : Int
  v11 : Int
  v12 : Int
  v13 : Int
  v14 : Int
  v15 : Nat
  v16 : Nat
  v17 : Nat
def cOp (x : Op) : List Value := [.int .i64 x.v0, .int .i64 x.v1, .int .i64 x.v2, .string (bs x.v3), .string (bs x.v4), .string (bs x.v5), .int .i64 x.v6, .int .i64 x.v7, .int .i64 x.v8, .int .i64 x.v9, .int .i64 x.v10, .int .i64 x.v11, .int .i64 x.v12, .int .i64 x.v13, .int .i64 x.v14, .int .u64 (x.v15 : Int), .int .u64 (x.v16 : Int), .int .u64 (x.v17 : Int)]
theorem cOp_len (x : Op) : (cOp x).length = 18 := rfl
def encOp (x : Op) : List UInt8 := encIs [x.v0, x.v1, x.v2, x.v6, x.v7, x.v8, x.v9, x.v10, x.v11, x.v12, x.v13, x.v14] ++ (encTs [x.v3, x.v4, x.v5] ++ (chainI (x.v15 : Int) ++ (chainI (x.v16 : Int) ++ (chainI (x.v17 : Int)))))
def badOp (x : Op) : Bool := [x.v0, x.v1, x.v2, x.v6, x.v7, x.v8, x.v9, x.v10, x.v11, x.v12, x.v13, x.v14].any badI || [x.v3, x.v4, x.v5].any badT
def OkOp (x : Op) : Prop := x.v15 < 18446744073709551616 ∧ x.v16 < 18446744073709551616 ∧ x.v17 < 18446744073709551616
instance : Inhabited Op := ⟨⟨0, 0, 0, [], [], [], 0, 0, 0, 0, 0, 0, 0, 0, 0, 0, 0, 0⟩⟩
structure Wk where
  v0 : Int
  v1 : Int
  v2 : Int
  v3 : List UInt8
  v4 : List UInt8
  v5 : Bool
  v6 : Nat
def cWk (x : Wk) : List Value := [.int .i64 x.v0, .int .i64 x.v1, .int .i64 x.v2, .string (bs x.v3), .string (bs x.v4), .bool x.v5, .int .u64 (x.v6 : Int)]
theorem cWk_len (x : Wk) : (cWk x).length = 7 := rfl
def encWk (x : Wk) : List UInt8 := encIs [x.v0, x.v1, x.v2] ++ (encTs [x.v3, x.v4] ++ (encB x.v5 ++ (chainI (x.v6 : Int))))
def badWk (x : Wk) : Bool := [x.v0, x.v1, x.v2].any badI || [x.v3, x.v4].any badT
def OkWk (x : Wk) : Prop := x.v6 < 18446744073709551616
instance : Inhabited Wk := ⟨⟨0, 0, 0, [], [], false, 0⟩⟩
structure Iv where
  v0 : Int
  v1 : Int
  v2 : List UInt8
  v3 : Int
  v4 : Int
def cIv (x : Iv) : List Value := [.int .i64 x.v0, .int .i64 x.v1, .string (bs x.v2), .int .i64 x.v3, .int .i64 x.v4]
theorem cIv_len (x : Iv) : (cIv x).length = 5 := rfl
def encIv (x : Iv) : List UInt8 := encIs [x.v0, x.v1, x.v3, x.v4] ++ (encTs [x.v2])
def badIv (x : Iv) : Bool := [x.v0, x.v1, x.v3, x.v4].any badI || [x.v2].any badT
def OkIv (x : Iv) : Prop := True
instance : Inhabited Iv := ⟨⟨0, 0, [], 0, 0⟩⟩
structure Hr where
  v0 : List UInt8
  v1 : Int
  v2 : Int
  v3 : Int
  v4 : Int
  v5 : Int
  v6 : Int
  v7 : Int
  v8 : Int
  v9 : Int
  v10 : Int
  v11 : Int
  v12 : Int
  v13 : Int
  v14 : Int
  v15 : Int
  v16 : Int
def cHr (x : Hr) : List Value := [.string (bs x.v0), .int .i64 x.v1, .int .i64 x.v2, .int .i64 x.v3, .int .i64 x.v4, .int .i64 x.v5, .int .i64 x.v6, .int .i64 x.v7, .int .i64 x.v8, .int .i64 x.v9, .int .i64 x.v10, .int .i64 x.v11, .int .i64 x.v12, .int .i64 x.v13, .int .i64 x.v14, .int .i64 x.v15, .int .i64 x.v16]
theorem cHr_len (x : Hr) : (cHr x).length = 17 := rfl
def encHr (x : Hr) : List UInt8 := encTs [x.v0] ++ (encIs [x.v1, x.v2, x.v3, x.v4, x.v5, x.v6, x.v7, x.v8, x.v9, x.v10, x.v11, x.v12, x.v13, x.v14, x.v15, x.v16])
def badHr (x : Hr) : Bool := [x.v0].any badT || [x.v1, x.v2, x.v3, x.v4, x.v5, x.v6, x.v7, x.v8, x.v9, x.v10, x.v11, x.v12, x.v13, x.v14, x.v15, x.v16].any badI
def OkHr (x : Hr) : Prop := True
instance : Inhabited Hr := ⟨⟨[], 0, 0, 0, 0, 0, 0, 0, 0, 0, 0, 0, 0, 0, 0, 0, 0⟩⟩
structure Lt where
  v0 : Int
  v1 : Int
  v2 : Int
  v3 : Int
  v4 : List UInt8
  v5 : Nat
def cLt (x : Lt) : List Value := [.int .i64 x.v0, .int .i64 x.v1, .int .i64 x.v2, .int .i64 x.v3, .string (bs x.v4), .int .u64 (x.v5 : Int)]
theorem cLt_len (x : Lt) : (cLt x).length = 6 := rfl
def encLt (x : Lt) : List UInt8 := encIs [x.v0, x.v1, x.v2, x.v3] ++ (encTs [x.v4] ++ (chainI (x.v5 : Int)))
def badLt (x : Lt) : Bool := [x.v0, x.v1, x.v2, x.v3].any badI || [x.v4].any badT
def OkLt (x : Lt) : Prop := x.v5 < 18446744073709551616
instance : Inhabited Lt := ⟨⟨0, 0, 0, 0, [], 0⟩⟩
structure Wt where
  v0 : List UInt8
  v1 : Int
def cWt (x : Wt) : List Value := [.string (bs x.v0), .int .i64 x.v1]
theorem cWt_len (x : Wt) : (cWt x).length = 2 := rfl
def encWt (x : Wt) : List UInt8 := encTs [x.v0] ++ (encIs [x.v1])
def badWt (x : Wt) : Bool := [x.v0].any badT || [x.v1].any badI
def OkWt (x : Wt) : Prop := True
instance : Inhabited Wt := ⟨⟨[], 0⟩⟩
structure It where
  v0 : Int
  v1 : Int
def cIt (x : It) : List Value := [.int .i64 x.v0, .int .i64 x.v1]
theorem cIt_len (x : It) : (cIt x).length = 2 := rfl
def encIt (x : It) : List UInt8 := encIs [x.v0, x.v1]
def badIt (x : It) : Bool := [x.v0, x.v1].any badI
def OkIt (x : It) : Prop := True
instance : Inhabited It := ⟨⟨0, 0⟩⟩

theorem cw_intsL (b : Nat) (p : Value) (u : Sl) (tx : List UInt8) (w : Bool) (hp : UsedOr b p) (hu : Txt u tx) (b2 : Nat) (T2 : TypeId) (bx : Nat) (cs : Array Value) (T : TypeId) (fz : Nat × Nat) (ks : List (Nat × Int)) (hn : ks.length ≤ 1000) (hk : AllAt (fun z : Int => .int .i64 z) cs ks) (hl : tx.length + (encIs (ks.map Prod.snd)).length ≤ 140737488350000) :
    Ct Try.prog 96 [.pointer (some ⟨b, 0, none⟩), .slice (some ⟨b2, 0, none⟩) ks.length ks.length] [(some b2, .cells (ks.map fun y => Value.pointer (some ⟨bx, y.1, none⟩)).toArray T2 (0, 0)), (some bx, .cells cs T fz)] [(some b, .cells #[p, u.v (tx).length, .pointer none, .bool w] 80 (0, 0)), (u.ob, .cells u.cs 5 u.fz)]
      (fun v post => v = .tuple #[] ∧ ∃ p1 u1, UsedOr b p1 ∧ Txt u1 (tx ++ encIs (ks.map Prod.snd)) ∧ post = [(some b, .cells #[p1, u1.v (tx ++ encIs (ks.map Prod.snd)).length, .pointer none, .bool (w || (ks.map Prod.snd).any badI)] 80 (0, 0)), (u1.ob, .cells u1.cs 5 u1.fz)]) :=
  cw_ints b p u tx w hp hu (some b2) 0 ks.length _ T2 (0, 0) bx cs T fz ks ⟨by simp, Nat.le_refl _, by omega, by rw [Nat.mul_one, List.drop_zero]; exact List.take_of_length_le (by simp), fun h => by cases h⟩ (allAt hk) hl
theorem cw_textsL (b : Nat) (p : Value) (u : Sl) (tx : List UInt8) (w : Bool) (hp : UsedOr b p) (hu : Txt u tx) (b2 : Nat) (T2 : TypeId) (bx : Nat) (cs : Array Value) (T : TypeId) (fz : Nat × Nat) (ks : List (Nat × List UInt8)) (hn : ks.length ≤ 1000) (hk : AllAt (fun z : List UInt8 => .string (bs z)) cs ks) (hl : tx.length + (encTs (ks.map Prod.snd)).length ≤ 140737488350000) :
    Ct Try.prog 142 [.pointer (some ⟨b, 0, none⟩), .slice (some ⟨b2, 0, none⟩) ks.length ks.length] [(some b2, .cells (ks.map fun y => Value.pointer (some ⟨bx, y.1, none⟩)).toArray T2 (0, 0)), (some bx, .cells cs T fz)] [(some b, .cells #[p, u.v (tx).length, .pointer none, .bool w] 80 (0, 0)), (u.ob, .cells u.cs 5 u.fz)]
      (fun v post => v = .tuple #[] ∧ ∃ p1 u1, UsedOr b p1 ∧ Txt u1 (tx ++ encTs (ks.map Prod.snd)) ∧ post = [(some b, .cells #[p1, u1.v (tx ++ encTs (ks.map Prod.snd)).length, .pointer none, .bool (w || (ks.map Prod.snd).any badT)] 80 (0, 0)), (u1.ob, .cells u1.cs 5 u1.fz)]) :=
  cw_texts b p u tx w hp hu (some b2) 0 ks.length _ T2 (0, 0) bx cs T fz ks ⟨by simp, Nat.le_refl _, by omega, by rw [Nat.mul_one, List.drop_zero]; exact List.take_of_length_le (by simp), fun h => by cases h⟩ (allAt hk) hl

set_option maxRecDepth 100000 in
set_option maxHeartbeats 1000000 in
theorem cw_item (b : Nat) (p : Value) (u : Sl) (tx : List UInt8) (w : Bool) (hp : UsedOr b p) (hu : Txt u tx) (bx : Nat) (x : It) (T : TypeId) (fz : Nat × Nat) (hx : OkIt x) (hl : tx.length + (encIt x).length ≤ 140737488350000) :
    Ct Try.prog 179 [.pointer (some ⟨b, 0, none⟩), .pointer (some ⟨bx, 0, none⟩)] [(some bx, .cells (cIt x).toArray T fz)] [(some b, .cells #[p, u.v (tx).length, .pointer none, .bool w] 80 (0, 0)), (u.ob, .cells u.cs 5 u.fz)] fun v post => v = .tuple #[] ∧ ∃ p1 u1, UsedOr b p1 ∧ Txt u1 (tx ++ encIt x) ∧ post = [(some b, .cells #[p1, u1.v (tx ++ encIt x).length, .pointer none, .bool (w || badIt x)] 80 (0, 0)), (u1.ob, .cells u1.cs 5 u1.fz)] := by
 unfold OkIt at hx
 have hl_ := hl
 unfold encIt at hl_
 try simp only [List.length_append] at hl_
 refine Yu Try.func179 rfl rfl (fun w0 => ?_)
 show G _ _ [(0, _), (1, _)] _ _
 refine Yf (Lq := []) (isq := []) (m := 9) Yo rfl rfl ?_
 refine Zi 0 rfl rfl rfl rfl (by kernel_rfl) (fun _ _ => Zc rfl rfl) ?_
 refine Zi 1 rfl rfl rfl rfl (by kernel_rfl) (fun _ _ => Zc rfl rfl) ?_
 refine Zi 2 rfl rfl rfl rfl (by kernel_rfl) (fun _ _ => Ze rfl rfl) ?_
 refine Zi 3 rfl rfl rfl rfl (by kernel_rfl) (fun _ _ => Zb (fo := 0) rfl Try.underlying262 rfl i_3 rfl rfl rfl) ?_
 refine Zi 4 rfl rfl rfl rfl (by kernel_rfl) (fun _ _ => Zc rfl rfl) ?_
 refine Zi 5 rfl rfl rfl rfl (by kernel_rfl) (fun _ _ => Ze rfl rfl) ?_
 refine Zi 6 rfl rfl rfl rfl (by kernel_rfl) (fun _ _ => Zb (fo := 1) rfl Try.underlying262 rfl i_3 rfl rfl rfl) ?_
 refine GH_all [7] (by kernel_rfl) (by decide) ?_
 refine (And.intro ?_ trivial)
 ·
  refine Yl rfl rfl rfl rfl (Zn (s := 1) (cs := [_, _]) rfl Try.underlying241 i_176 rfl rfl rfl rfl rfl rfl rfl rfl rfl) [] (fun _ => ⟨_, rfl⟩) (fun b11 => ?_)
  refine GH_all [8] (by kernel_rfl) (by decide) ?_
  refine (And.intro ?_ trivial)
  ·
   refine Ye (L2 := [_]) rfl rfl rfl rfl rfl rfl Try.call96 (cw_intsL b _ _ _ _ hp hu _ _ bx (cIt x).toArray T fz [(0, x.v0), (1, x.v1)] (by simp) ⟨rfl, rfl, trivial⟩ (by (try simp only [List.map_cons, List.map_nil, List.length_append]); omega)) [1, 1] [1, 0] rfl rfl [] (by rintro v post ⟨rfl, p1, u1, hp1, hu1, rfl⟩; exact ⟨_, rfl⟩) ?_
   rintro v post ⟨rfl, p1, u1, hp1, hu1, rfl⟩
   show GH _ _ _ _ _ _ _ [_, _, _] _
   refine Ya (by kernel_rfl) ?_
   refine G_end (post := [_, _]) Try.func179 rfl Zp [0, 0] rfl ?_
   dsimp only [packed]
   refine ⟨rfl, p1, u1, hp1, ?_, ?_⟩
   · simpa only [encIt, List.map_cons, List.map_nil, List.append_assoc] using hu1
   · simp only [encIt, badIt, List.map_cons, List.map_nil, List.append_assoc, Bool.or_assoc]

set_option maxRecDepth 100000 in
set_option maxHeartbeats 1000000 in
theorem cw_inv (b : Nat) (p : Value) (u : Sl) (tx : List UInt8) (w : Bool) (hp : UsedOr b p) (hu : Txt u tx) (bx : Nat) (x : Iv) (T : TypeId) (fz : Nat × Nat) (hx : OkIv x) (hl : tx.length + (encIv x).length ≤ 140737488350000) :
    Ct Try.prog 102 [.pointer (some ⟨b, 0, none⟩), .pointer (some ⟨bx, 0, none⟩)] [(some bx, .cells (cIv x).toArray T fz)] [(some b, .cells #[p, u.v (tx).length, .pointer none, .bool w] 80 (0, 0)), (u.ob, .cells u.cs 5 u.fz)] fun v post => v = .tuple #[] ∧ ∃ p1 u1, UsedOr b p1 ∧ Txt u1 (tx ++ encIv x) ∧ post = [(some b, .cells #[p1, u1.v (tx ++ encIv x).length, .pointer none, .bool (w || badIv x)] 80 (0, 0)), (u1.ob, .cells u1.cs 5 u1.fz)] := by
 unfold OkIv at hx
 have hl_ := hl
 unfold encIv at hl_
 try simp only [List.length_append] at hl_
 refine Yu Try.func102 rfl rfl (fun w0 => ?_)
 show G _ _ [(0, _), (1, _)] _ _
 refine Zh ?_
 refine Yf (Lq := []) (isq := []) (m := 15) Yo rfl rfl ?_
 refine Zi 0 rfl rfl rfl rfl (by kernel_rfl) (fun _ _ => Zc rfl rfl) ?_
 refine Zi 1 rfl rfl rfl rfl (by kernel_rfl) (fun _ _ => Zc rfl rfl) ?_
 refine Zi 2 rfl rfl rfl rfl (by kernel_rfl) (fun _ _ => Ze rfl rfl) ?_
 refine Zi 3 rfl rfl rfl rfl (by kernel_rfl) (fun _ _ => Zb (fo := 0) rfl Try.underlying95 rfl i_3 rfl rfl rfl) ?_
 refine Zi 4 rfl rfl rfl rfl (by kernel_rfl) (fun _ _ => Zc rfl rfl) ?_
 refine Zi 5 rfl rfl rfl rfl (by kernel_rfl) (fun _ _ => Ze rfl rfl) ?_
 refine Zi 6 rfl rfl rfl rfl (by kernel_rfl) (fun _ _ => Zb (fo := 1) rfl Try.underlying95 rfl i_3 rfl rfl rfl) ?_
 refine Zi 7 rfl rfl rfl rfl (by kernel_rfl) (fun _ _ => Zc rfl rfl) ?_
 refine Zi 8 rfl rfl rfl rfl (by kernel_rfl) (fun _ _ => Ze rfl rfl) ?_
 refine Zi 9 rfl rfl rfl rfl (by kernel_rfl) (fun _ _ => Zb (fo := 3) rfl Try.underlying95 rfl i_3 rfl rfl rfl) ?_
 refine Zi 10 rfl rfl rfl rfl (by kernel_rfl) (fun _ _ => Zc rfl rfl) ?_
 refine Zi 11 rfl rfl rfl rfl (by kernel_rfl) (fun _ _ => Ze rfl rfl) ?_
 refine Zi 12 rfl rfl rfl rfl (by kernel_rfl) (fun _ _ => Zb (fo := 4) rfl Try.underlying95 rfl i_3 rfl rfl rfl) ?_
 refine GH_all [13] (by kernel_rfl) (by decide) ?_
 refine (And.intro ?_ trivial)
 ·
  refine Yl rfl rfl rfl rfl (Zn (s := 1) (cs := [_, _, _, _]) rfl Try.underlying241 i_176 rfl rfl rfl rfl rfl rfl rfl rfl rfl) [] (fun _ => ⟨_, rfl⟩) (fun b17 => ?_)
  refine GH_all [14] (by kernel_rfl) (by decide) ?_
  refine (And.intro ?_ trivial)
  ·
   refine Ye (L2 := [_]) rfl rfl rfl rfl rfl rfl Try.call96 (cw_intsL b _ _ _ _ hp hu _ _ bx (cIv x).toArray T fz [(0, x.v0), (1, x.v1), (3, x.v3), (4, x.v4)] (by simp) ⟨rfl, rfl, rfl, rfl, trivial⟩ (by (try simp only [List.map_cons, List.map_nil, List.length_append]); omega)) [1, 1] [1, 0] rfl rfl [] (by rintro v post ⟨rfl, p1, u1, hp1, hu1, rfl⟩; exact ⟨_, rfl⟩) ?_
   rintro v post ⟨rfl, p1, u1, hp1, hu1, rfl⟩
   show GH _ _ _ _ _ _ _ [_, _, _] _
   refine Ya (by kernel_rfl) ?_
   refine Zd (l := [0, 1, 2, 3, 4, 5]) rfl ?_
   refine Za rfl rfl rfl rfl (Zc rfl rfl) ?_
   refine Za rfl rfl rfl rfl (Zc rfl rfl) ?_
   refine Za rfl rfl rfl rfl (Ze rfl rfl) ?_
   refine Za rfl rfl rfl rfl (Zb (fo := 2) rfl Try.underlying95 rfl i_9 rfl rfl rfl) ?_
   refine Yw rfl rfl rfl rfl (Zn (s := 1) (cs := [_]) rfl Try.underlying278 i_244 rfl rfl rfl rfl rfl rfl rfl rfl rfl) (fun b23 => ?_)
   refine Zq (L2 := [_, _]) rfl rfl rfl rfl rfl rfl Try.call142 (cw_textsL b _ _ _ _ hp1 hu1 _ _ bx (cIv x).toArray T fz [(2, x.v2)] (by simp) ⟨rfl, trivial⟩ (by (try simp only [List.map_cons, List.map_nil, List.length_append]); omega)) [1, 1] [1, 0] rfl rfl ?_
   rintro v post ⟨rfl, p1, u1, hp1, hu1, rfl⟩
   show G _ _ _ [_, _, _, _] _
   refine Zg ?_
   refine G_end (post := [_, _]) Try.func102 rfl Zp [0, 0] rfl ?_
   dsimp only [packed]
   refine ⟨rfl, p1, u1, hp1, ?_, ?_⟩
   · simpa only [encIv, List.map_cons, List.map_nil, List.append_assoc] using hu1
   · simp only [encIv, badIv, List.map_cons, List.map_nil, List.append_assoc, Bool.or_assoc]

set_option maxRecDepth 100000 in
set_option maxHeartbeats 1000000 in
theorem cw_letter (b : Nat) (p : Value) (u : Sl) (tx : List UInt8) (w : Bool) (hp : UsedOr b p) (hu : Txt u tx) (bx : Nat) (x : Lt) (T : TypeId) (fz : Nat × Nat) (hx : OkLt x) (hl : tx.length + (encLt x).length ≤ 140737488350000) :
    Ct Try.prog 108 [.pointer (some ⟨b, 0, none⟩), .pointer (some ⟨bx, 0, none⟩)] [(some bx, .cells (cLt x).toArray T fz)] [(some b, .cells #[p, u.v (tx).length, .pointer none, .bool w] 80 (0, 0)), (u.ob, .cells u.cs 5 u.fz)] fun v post => v = .tuple #[] ∧ ∃ p1 u1, UsedOr b p1 ∧ Txt u1 (tx ++ encLt x) ∧ post = [(some b, .cells #[p1, u1.v (tx ++ encLt x).length, .pointer none, .bool (w || badLt x)] 80 (0, 0)), (u1.ob, .cells u1.cs 5 u1.fz)] := by
 unfold OkLt at hx
 have hl_ := hl
 unfold encLt at hl_
 try simp only [List.length_append] at hl_
 refine Yu Try.func108 rfl rfl (fun w0 => ?_)
 show G _ _ [(0, _), (1, _)] _ _
 refine Zh ?_
 refine Yf (Lq := []) (isq := []) (m := 15) Yo rfl rfl ?_
 refine Zi 0 rfl rfl rfl rfl (by kernel_rfl) (fun _ _ => Zc rfl rfl) ?_
 refine Zi 1 rfl rfl rfl rfl (by kernel_rfl) (fun _ _ => Zc rfl rfl) ?_
 refine Zi 2 rfl rfl rfl rfl (by kernel_rfl) (fun _ _ => Ze rfl rfl) ?_
 refine Zi 3 rfl rfl rfl rfl (by kernel_rfl) (fun _ _ => Zb (fo := 0) rfl Try.underlying143 rfl i_3 rfl rfl rfl) ?_
 refine Zi 4 rfl rfl rfl rfl (by kernel_rfl) (fun _ _ => Zc rfl rfl) ?_
 refine Zi 5 rfl rfl rfl rfl (by kernel_rfl) (fun _ _ => Ze rfl rfl) ?_
 refine Zi 6 rfl rfl rfl rfl (by kernel_rfl) (fun _ _ => Zb (fo := 1) rfl Try.underlying143 rfl i_3 rfl rfl rfl) ?_
 refine Zi 7 rfl rfl rfl rfl (by kernel_rfl) (fun _ _ => Zc rfl rfl) ?_
 refine Zi 8 rfl rfl rfl rfl (by kernel_rfl) (fun _ _ => Ze rfl rfl) ?_
 refine Zi 9 rfl rfl rfl rfl (by kernel_rfl) (fun _ _ => Zb (fo := 2) rfl Try.underlying143 rfl i_3 rfl rfl rfl) ?_
 refine Zi 10 rfl rfl rfl rfl (by kernel_rfl) (fun _ _ => Zc rfl rfl) ?_
 refine Zi 11 rfl rfl rfl rfl (by kernel_rfl) (fun _ _ => Ze rfl rfl) ?_
 refine Zi 12 rfl rfl rfl rfl (by kernel_rfl) (fun _ _ => Zb (fo := 3) rfl Try.underlying143 rfl i_3 rfl rfl rfl) ?_
 refine GH_all [13] (by kernel_rfl) (by decide) ?_
 refine (And.intro ?_ trivial)
 ·
  refine Yl rfl rfl rfl rfl (Zn (s := 1) (cs := [_, _, _, _]) rfl Try.underlying241 i_176 rfl rfl rfl rfl rfl rfl rfl rfl rfl) [] (fun _ => ⟨_, rfl⟩) (fun b17 => ?_)
  refine GH_all [14] (by kernel_rfl) (by decide) ?_
  refine (And.intro ?_ trivial)
  ·
   refine Ye (L2 := [_]) rfl rfl rfl rfl rfl rfl Try.call96 (cw_intsL b _ _ _ _ hp hu _ _ bx (cLt x).toArray T fz [(0, x.v0), (1, x.v1), (2, x.v2), (3, x.v3)] (by simp) ⟨rfl, rfl, rfl, rfl, trivial⟩ (by (try simp only [List.map_cons, List.map_nil, List.length_append]); omega)) [1, 1] [1, 0] rfl rfl [] (by rintro v post ⟨rfl, p1, u1, hp1, hu1, rfl⟩; exact ⟨_, rfl⟩) ?_
   rintro v post ⟨rfl, p1, u1, hp1, hu1, rfl⟩
   show GH _ _ _ _ _ _ _ [_, _, _] _
   refine Ya (by kernel_rfl) ?_
   refine Zh ?_
   refine Zd (l := [0, 1, 2, 3, 4, 5]) rfl ?_
   refine Za rfl rfl rfl rfl (Zc rfl rfl) ?_
   refine Za rfl rfl rfl rfl (Zc rfl rfl) ?_
   refine Za rfl rfl rfl rfl (Ze rfl rfl) ?_
   refine Za rfl rfl rfl rfl (Zb (fo := 4) rfl Try.underlying143 rfl i_9 rfl rfl rfl) ?_
   refine Yw rfl rfl rfl rfl (Zn (s := 1) (cs := [_]) rfl Try.underlying278 i_244 rfl rfl rfl rfl rfl rfl rfl rfl rfl) (fun b23 => ?_)
   refine Zq (L2 := [_, _]) rfl rfl rfl rfl rfl rfl Try.call142 (cw_textsL b _ _ _ _ hp1 hu1 _ _ bx (cLt x).toArray T fz [(4, x.v4)] (by simp) ⟨rfl, trivial⟩ (by (try simp only [List.map_cons, List.map_nil, List.length_append]); omega)) [1, 1] [1, 0] rfl rfl ?_
   rintro v post ⟨rfl, p1, u1, hp1, hu1, rfl⟩
   show G _ _ _ [_, _, _, _] _
   refine Zg ?_
   refine Zd (l := [0, 1, 2, 3, 4]) rfl ?_
   refine Za rfl rfl rfl rfl (Zc rfl rfl) ?_
   refine Za rfl rfl rfl rfl (Zc rfl rfl) ?_
   refine Za rfl rfl rfl rfl (Ze rfl rfl) ?_
   refine Za rfl rfl rfl rfl (Zb (fo := 5) rfl Try.underlying143 rfl i_23 rfl rfl rfl) ?_
   refine Zq (L2 := [_, _]) rfl rfl rfl rfl rfl rfl Try.call94 (cw_num b _ _ _ _ hp1 hu1 bx 5 (cLt x).toArray T fz x.v5 (by omega) rfl (by (try simp only [List.map_cons, List.map_nil, List.length_append]); omega)) [0, 0] [0] rfl rfl ?_
   rintro v post ⟨rfl, p1, u1, hp1, hu1, rfl⟩
   show G _ _ _ [_, _, _, _] _
   refine Zg ?_
   refine G_end (post := [_, _]) Try.func108 rfl Zp [0, 0] rfl ?_
   dsimp only [packed]
   refine ⟨rfl, p1, u1, hp1, ?_, ?_⟩
   · simpa only [encLt, List.map_cons, List.map_nil, List.append_assoc] using hu1
   · simp only [encLt, badLt, List.map_cons, List.map_nil, List.append_assoc, Bool.or_assoc]

set_option maxRecDepth 100000 in
set_option maxHeartbeats 1000000 in
theorem cw_watcher (b : Nat) (p : Value) (u : Sl) (tx : List UInt8) (w : Bool) (hp : UsedOr b p) (hu : Txt u tx) (bx : Nat) (x : Wt) (T : TypeId) (fz : Nat × Nat) (hx : OkWt x) (hl : tx.length + (encWt x).length ≤ 140737488350000) :
    Ct Try.prog 110 [.pointer (some ⟨b, 0, none⟩), .pointer (some ⟨bx, 0, none⟩)] [(some bx, .cells (cWt x).toArray T fz)] [(some b, .cells #[p, u.v (tx).length, .pointer none, .bool w] 80 (0, 0)), (u.ob, .cells u.cs 5 u.fz)] fun v post => v = .tuple #[] ∧ ∃ p1 u1, UsedOr b p1 ∧ Txt u1 (tx ++ encWt x) ∧ post = [(some b, .cells #[p1, u1.v (tx ++ encWt x).length, .pointer none, .bool (w || badWt x)] 80 (0, 0)), (u1.ob, .cells u1.cs 5 u1.fz)] := by
 unfold OkWt at hx
 have hl_ := hl
 unfold encWt at hl_
 try simp only [List.length_append] at hl_
 refine Yu Try.func110 rfl rfl (fun w0 => ?_)
 show G _ _ [(0, _), (1, _)] _ _
 refine Zh ?_
 refine Zd (l := [0, 1, 2, 3, 4, 5]) rfl ?_
 refine Za rfl rfl rfl rfl (Zc rfl rfl) ?_
 refine Za rfl rfl rfl rfl (Zc rfl rfl) ?_
 refine Za rfl rfl rfl rfl (Ze rfl rfl) ?_
 refine Za rfl rfl rfl rfl (Zb (fo := 0) rfl Try.underlying145 rfl i_9 rfl rfl rfl) ?_
 refine Yw rfl rfl rfl rfl (Zn (s := 1) (cs := [_]) rfl Try.underlying278 i_244 rfl rfl rfl rfl rfl rfl rfl rfl rfl) (fun b8 => ?_)
 refine Zq (L2 := [_]) rfl rfl rfl rfl rfl rfl Try.call142 (cw_textsL b _ _ _ _ hp hu _ _ bx (cWt x).toArray T fz [(0, x.v0)] (by simp) ⟨rfl, trivial⟩ (by (try simp only [List.map_cons, List.map_nil, List.length_append]); omega)) [1, 1] [1, 0] rfl rfl ?_
 rintro v post ⟨rfl, p1, u1, hp1, hu1, rfl⟩
 show G _ _ _ [_, _, _] _
 refine Zg ?_
 refine Zd (l := [0, 1, 2, 3, 4, 5]) rfl ?_
 refine Za rfl rfl rfl rfl (Zc rfl rfl) ?_
 refine Za rfl rfl rfl rfl (Zc rfl rfl) ?_
 refine Za rfl rfl rfl rfl (Ze rfl rfl) ?_
 refine Za rfl rfl rfl rfl (Zb (fo := 1) rfl Try.underlying145 rfl i_3 rfl rfl rfl) ?_
 refine Yw rfl rfl rfl rfl (Zn (s := 1) (cs := [_]) rfl Try.underlying241 i_176 rfl rfl rfl rfl rfl rfl rfl rfl rfl) (fun b14 => ?_)
 refine Zq (L2 := [_, _]) rfl rfl rfl rfl rfl rfl Try.call96 (cw_intsL b _ _ _ _ hp1 hu1 _ _ bx (cWt x).toArray T fz [(1, x.v1)] (by simp) ⟨rfl, trivial⟩ (by (try simp only [List.map_cons, List.map_nil, List.length_append]); omega)) [1, 1] [1, 0] rfl rfl ?_
 rintro v post ⟨rfl, p1, u1, hp1, hu1, rfl⟩
 show G _ _ _ [_, _, _, _] _
 refine Zg ?_
 refine G_end (post := [_, _]) Try.func110 rfl Zp [0, 0] rfl ?_
 dsimp only [packed]
 refine ⟨rfl, p1, u1, hp1, ?_, ?_⟩
 · simpa only [encWt, List.map_cons, List.map_nil, List.append_assoc] using hu1
 · simp only [encWt, badWt, List.map_cons, List.map_nil, List.append_assoc, Bool.or_assoc]

set_option maxRecDepth 100000 in
set_option maxHeartbeats 1000000 in
theorem cw_worker (b : Nat) (p : Value) (u : Sl) (tx : List UInt8) (w : Bool) (hp : UsedOr b p) (hu : Txt u tx) (bx : Nat) (x : Wk) (T : TypeId) (fz : Nat × Nat) (hx : OkWk x) (hl : tx.length + (encWk x).length ≤ 140737488350000) :
    Ct Try.prog 100 [.pointer (some ⟨b, 0, none⟩), .pointer (some ⟨bx, 0, none⟩)] [(some bx, .cells (cWk x).toArray T fz)] [(some b, .cells #[p, u.v (tx).length, .pointer none, .bool w] 80 (0, 0)), (u.ob, .cells u.cs 5 u.fz)] fun v post => v = .tuple #[] ∧ ∃ p1 u1, UsedOr b p1 ∧ Txt u1 (tx ++ encWk x) ∧ post = [(some b, .cells #[p1, u1.v (tx ++ encWk x).length, .pointer none, .bool (w || badWk x)] 80 (0, 0)), (u1.ob, .cells u1.cs 5 u1.fz)] := by
 unfold OkWk at hx
 have hl_ := hl
 unfold encWk at hl_
 try simp only [List.length_append] at hl_
 refine Yu Try.func100 rfl rfl (fun w0 => ?_)
 show G _ _ [(0, _), (1, _)] _ _
 refine Zh ?_
 refine Yf (Lq := []) (isq := []) (m := 12) Yo rfl rfl ?_
 refine Zi 0 rfl rfl rfl rfl (by kernel_rfl) (fun _ _ => Zc rfl rfl) ?_
 refine Zi 1 rfl rfl rfl rfl (by kernel_rfl) (fun _ _ => Zc rfl rfl) ?_
 refine Zi 2 rfl rfl rfl rfl (by kernel_rfl) (fun _ _ => Ze rfl rfl) ?_
 refine Zi 3 rfl rfl rfl rfl (by kernel_rfl) (fun _ _ => Zb (fo := 0) rfl Try.underlying92 rfl i_3 rfl rfl rfl) ?_
 refine Zi 4 rfl rfl rfl rfl (by kernel_rfl) (fun _ _ => Zc rfl rfl) ?_
 refine Zi 5 rfl rfl rfl rfl (by kernel_rfl) (fun _ _ => Ze rfl rfl) ?_
 refine Zi 6 rfl rfl rfl rfl (by kernel_rfl) (fun _ _ => Zb (fo := 1) rfl Try.underlying92 rfl i_3 rfl rfl rfl) ?_
 refine Zi 7 rfl rfl rfl rfl (by kernel_rfl) (fun _ _ => Zc rfl rfl) ?_
 refine Zi 8 rfl rfl rfl rfl (by kernel_rfl) (fun _ _ => Ze rfl rfl) ?_
 refine Zi 9 rfl rfl rfl rfl (by kernel_rfl) (fun _ _ => Zb (fo := 2) rfl Try.underlying92 rfl i_3 rfl rfl rfl) ?_
 refine GH_all [10] (by kernel_rfl) (by decide) ?_
 refine (And.intro ?_ trivial)
 ·
  refine Yl rfl rfl rfl rfl (Zn (s := 1) (cs := [_, _, _]) rfl Try.underlying241 i_176 rfl rfl rfl rfl rfl rfl rfl rfl rfl) [] (fun _ => ⟨_, rfl⟩) (fun b14 => ?_)
  refine GH_all [11] (by kernel_rfl) (by decide) ?_
  refine (And.intro ?_ trivial)
  ·
   refine Ye (L2 := [_]) rfl rfl rfl rfl rfl rfl Try.call96 (cw_intsL b _ _ _ _ hp hu _ _ bx (cWk x).toArray T fz [(0, x.v0), (1, x.v1), (2, x.v2)] (by simp) ⟨rfl, rfl, rfl, trivial⟩ (by (try simp only [List.map_cons, List.map_nil, List.length_append]); omega)) [1, 1] [1, 0] rfl rfl [] (by rintro v post ⟨rfl, p1, u1, hp1, hu1, rfl⟩; exact ⟨_, rfl⟩) ?_
   rintro v post ⟨rfl, p1, u1, hp1, hu1, rfl⟩
   show GH _ _ _ _ _ _ _ [_, _, _] _
   refine Ya (by kernel_rfl) ?_
   refine Zh ?_
   refine Yf (Lq := []) (isq := []) (m := 9) Yo rfl rfl ?_
   refine Zi 0 rfl rfl rfl rfl (by kernel_rfl) (fun _ _ => Zc rfl rfl) ?_
   refine Zi 1 rfl rfl rfl rfl (by kernel_rfl) (fun _ _ => Zc rfl rfl) ?_
   refine Zi 2 rfl rfl rfl rfl (by kernel_rfl) (fun _ _ => Ze rfl rfl) ?_
   refine Zi 3 rfl rfl rfl rfl (by kernel_rfl) (fun _ _ => Zb (fo := 3) rfl Try.underlying92 rfl i_9 rfl rfl rfl) ?_
   refine Zi 4 rfl rfl rfl rfl (by kernel_rfl) (fun _ _ => Zc rfl rfl) ?_
   refine Zi 5 rfl rfl rfl rfl (by kernel_rfl) (fun _ _ => Ze rfl rfl) ?_
   refine Zi 6 rfl rfl rfl rfl (by kernel_rfl) (fun _ _ => Zb (fo := 4) rfl Try.underlying92 rfl i_9 rfl rfl rfl) ?_
   refine GH_all [7] (by kernel_rfl) (by decide) ?_
   refine (And.intro ?_ trivial)
   ·
    refine Yl rfl rfl rfl rfl (Zn (s := 1) (cs := [_, _]) rfl Try.underlying278 i_244 rfl rfl rfl rfl rfl rfl rfl rfl rfl) [] (fun _ => ⟨_, rfl⟩) (fun b23 => ?_)
    refine GH_all [8] (by kernel_rfl) (by decide) ?_
    refine (And.intro ?_ trivial)
    ·
     refine Ye (L2 := [_, _]) rfl rfl rfl rfl rfl rfl Try.call142 (cw_textsL b _ _ _ _ hp1 hu1 _ _ bx (cWk x).toArray T fz [(3, x.v3), (4, x.v4)] (by simp) ⟨rfl, rfl, trivial⟩ (by (try simp only [List.map_cons, List.map_nil, List.length_append]); omega)) [1, 1] [1, 0] rfl rfl [] (by rintro v post ⟨rfl, p1, u1, hp1, hu1, rfl⟩; exact ⟨_, rfl⟩) ?_
     rintro v post ⟨rfl, p1, u1, hp1, hu1, rfl⟩
     show GH _ _ _ _ _ _ _ [_, _, _, _] _
     refine Ya (by kernel_rfl) ?_
     refine Zh ?_
     refine Zd (l := [0, 1, 2, 3, 4]) rfl ?_
     refine Za rfl rfl rfl rfl (Zc rfl rfl) ?_
     refine Za rfl rfl rfl rfl (Zc rfl rfl) ?_
     refine Za rfl rfl rfl rfl (Ze rfl rfl) ?_
     refine Za rfl rfl rfl rfl (Zb (fo := 5) rfl Try.underlying92 rfl i_4 rfl rfl rfl) ?_
     refine Zq (L2 := [_, _]) rfl rfl rfl rfl rfl rfl Try.call95 (cw_flag b _ _ _ _ hp1 hu1 bx 5 (cWk x).toArray T fz x.v5 rfl (by (try simp only [List.map_cons, List.map_nil, List.length_append]); omega)) [0, 0] [0] rfl rfl ?_
     rintro v post ⟨rfl, p1, u1, hp1, hu1, rfl⟩
     show G _ _ _ [_, _, _, _] _
     refine Zg ?_
     refine Zd (l := [0, 1, 2, 3, 4]) rfl ?_
     refine Za rfl rfl rfl rfl (Zc rfl rfl) ?_
     refine Za rfl rfl rfl rfl (Zc rfl rfl) ?_
     refine Za rfl rfl rfl rfl (Ze rfl rfl) ?_
     refine Za rfl rfl rfl rfl (Zb (fo := 6) rfl Try.underlying92 rfl i_23 rfl rfl rfl) ?_
     refine Zq (L2 := [_, _]) rfl rfl rfl rfl rfl rfl Try.call94 (cw_num b _ _ _ _ hp1 hu1 bx 6 (cWk x).toArray T fz x.v6 (by omega) rfl (by (try simp only [List.map_cons, List.map_nil, List.length_append]); omega)) [0, 0] [0] rfl rfl ?_
     rintro v post ⟨rfl, p1, u1, hp1, hu1, rfl⟩
     show G _ _ _ [_, _, _, _] _
     refine Zg ?_
     refine G_end (post := [_, _]) Try.func100 rfl Zp [0, 0] rfl ?_
     dsimp only [packed]
     refine ⟨rfl, p1, u1, hp1, ?_, ?_⟩
     · simpa only [encWk, List.map_cons, List.map_nil, List.append_assoc] using hu1
     · simp only [encWk, badWk, List.map_cons, List.map_nil, List.append_assoc, Bool.or_assoc]

set_option maxRecDepth 100000 in
set_option maxHeartbeats 1000000 in
theorem cw_op (b : Nat) (p : Value) (u : Sl) (tx : List UInt8) (w : Bool) (hp : UsedOr b p) (hu : Txt u tx) (bx : Nat) (x : Op) (T : TypeId) (fz : Nat × Nat) (hx : OkOp x) (hl : tx.length + (encOp x).length ≤ 140737488350000) :
    Ct Try.prog 98 [.pointer (some ⟨b, 0, none⟩), .pointer (some ⟨bx, 0, none⟩)] [(some bx, .cells (cOp x).toArray T fz)] [(some b, .cells #[p, u.v (tx).length, .pointer none, .bool w] 80 (0, 0)), (u.ob, .cells u.cs 5 u.fz)] fun v post => v = .tuple #[] ∧ ∃ p1 u1, UsedOr b p1 ∧ Txt u1 (tx ++ encOp x) ∧ post = [(some b, .cells #[p1, u1.v (tx ++ encOp x).length, .pointer none, .bool (w || badOp x)] 80 (0, 0)), (u1.ob, .cells u1.cs 5 u1.fz)] := by
 unfold OkOp at hx
 have hl_ := hl
 unfold encOp at hl_
 try simp only [List.length_append] at hl_
 refine Yu Try.func98 rfl rfl (fun w0 => ?_)
 show G _ _ [(0, _), (1, _)] _ _
 refine Zh ?_
 refine Yf (Lq := []) (isq := []) (m := 39) Yo rfl rfl ?_
 refine Zi 0 rfl rfl rfl rfl (by kernel_rfl) (fun _ _ => Zc rfl rfl) ?_
 refine Zi 1 rfl rfl rfl rfl (by kernel_rfl) (fun _ _ => Zc rfl rfl) ?_
 refine Zi 2 rfl rfl rfl rfl (by kernel_rfl) (fun _ _ => Ze rfl rfl) ?_
 refine Zi 3 rfl rfl rfl rfl (by kernel_rfl) (fun _ _ => Zb (fo := 0) rfl Try.underlying137 rfl i_3 rfl rfl rfl) ?_
 refine Zi 4 rfl rfl rfl rfl (by kernel_rfl) (fun _ _ => Zc rfl rfl) ?_
 refine Zi 5 rfl rfl rfl rfl (by kernel_rfl) (fun _ _ => Ze rfl rfl) ?_
 refine Zi 6 rfl rfl rfl rfl (by kernel_rfl) (fun _ _ => Zb (fo := 1) rfl Try.underlying137 rfl i_3 rfl rfl rfl) ?_
 refine Zi 7 rfl rfl rfl rfl (by kernel_rfl) (fun _ _ => Zc rfl rfl) ?_
 refine Zi 8 rfl rfl rfl rfl (by kernel_rfl) (fun _ _ => Ze rfl rfl) ?_
 refine Zi 9 rfl rfl rfl rfl (by kernel_rfl) (fun _ _ => Zb (fo := 2) rfl Try.underlying137 rfl i_3 rfl rfl rfl) ?_
 refine Zi 10 rfl rfl rfl rfl (by kernel_rfl) (fun _ _ => Zc rfl rfl) ?_
 refine Zi 11 rfl rfl rfl rfl (by kernel_rfl) (fun _ _ => Ze rfl rfl) ?_
 refine Zi 12 rfl rfl rfl rfl (by kernel_rfl) (fun _ _ => Zb (fo := 6) rfl Try.underlying137 rfl i_3 rfl rfl rfl) ?_
 refine Zi 13 rfl rfl rfl rfl (by kernel_rfl) (fun _ _ => Zc rfl rfl) ?_
 refine Zi 14 rfl rfl rfl rfl (by kernel_rfl) (fun _ _ => Ze rfl rfl) ?_
 refine Zi 15 rfl rfl rfl rfl (by kernel_rfl) (fun _ _ => Zb (fo := 7) rfl Try.underlying137 rfl i_3 rfl rfl rfl) ?_
 refine Zi 16 rfl rfl rfl rfl (by kernel_rfl) (fun _ _ => Zc rfl rfl) ?_
 refine Zi 17 rfl rfl rfl rfl (by kernel_rfl) (fun _ _ => Ze rfl rfl) ?_
 refine Zi 18 rfl rfl rfl rfl (by kernel_rfl) (fun _ _ => Zb (fo := 8) rfl Try.underlying137 rfl i_3 rfl rfl rfl) ?_
 refine Zi 19 rfl rfl rfl rfl (by kernel_rfl) (fun _ _ => Zc rfl rfl) ?_
 refine Zi 20 rfl rfl rfl rfl (by kernel_rfl) (fun _ _ => Ze rfl rfl) ?_
 refine Zi 21 rfl rfl rfl rfl (by kernel_rfl) (fun _ _ => Zb (fo := 9) rfl Try.underlying137 rfl i_3 rfl rfl rfl) ?_
 refine Zi 22 rfl rfl rfl rfl (by kernel_rfl) (fun _ _ => Zc rfl rfl) ?_
 refine Zi 23 rfl rfl rfl rfl (by kernel_rfl) (fun _ _ => Ze rfl rfl) ?_
 refine Zi 24 rfl rfl rfl rfl (by kernel_rfl) (fun _ _ => Zb (fo := 10) rfl Try.underlying137 rfl i_3 rfl rfl rfl) ?_
 refine Zi 25 rfl rfl rfl rfl (by kernel_rfl) (fun _ _ => Zc rfl rfl) ?_
 refine Zi 26 rfl rfl rfl rfl (by kernel_rfl) (fun _ _ => Ze rfl rfl) ?_
 refine Zi 27 rfl rfl rfl rfl (by kernel_rfl) (fun _ _ => Zb (fo := 11) rfl Try.underlying137 rfl i_3 rfl rfl rfl) ?_
 refine Zi 28 rfl rfl rfl rfl (by kernel_rfl) (fun _ _ => Zc rfl rfl) ?_
 refine Zi 29 rfl rfl rfl rfl (by kernel_rfl) (fun _ _ => Ze rfl rfl) ?_
 refine Zi 30 rfl rfl rfl rfl (by kernel_rfl) (fun _ _ => Zb (fo := 12) rfl Try.underlying137 rfl i_3 rfl rfl rfl) ?_
 refine Zi 31 rfl rfl rfl rfl (by kernel_rfl) (fun _ _ => Zc rfl rfl) ?_
 refine Zi 32 rfl rfl rfl rfl (by kernel_rfl) (fun _ _ => Ze rfl rfl) ?_
 refine Zi 33 rfl rfl rfl rfl (by kernel_rfl) (fun _ _ => Zb (fo := 13) rfl Try.underlying137 rfl i_3 rfl rfl rfl) ?_
 refine Zi 34 rfl rfl rfl rfl (by kernel_rfl) (fun _ _ => Zc rfl rfl) ?_
 refine Zi 35 rfl rfl rfl rfl (by kernel_rfl) (fun _ _ => Ze rfl rfl) ?_
 refine Zi 36 rfl rfl rfl rfl (by kernel_rfl) (fun _ _ => Zb (fo := 14) rfl Try.underlying137 rfl i_3 rfl rfl rfl) ?_
 refine GH_all [37] (by kernel_rfl) (by decide) ?_
 refine (And.intro ?_ trivial)
 ·
  refine Yl rfl rfl rfl rfl (Zn (s := 1) (cs := [_, _, _, _, _, _, _, _, _, _, _, _]) rfl Try.underlying241 i_176 rfl rfl rfl rfl rfl rfl rfl rfl rfl) [] (fun _ => ⟨_, rfl⟩) (fun b41 => ?_)
  refine GH_all [38] (by kernel_rfl) (by decide) ?_
  refine (And.intro ?_ trivial)
  ·
   refine Ye (L2 := [_]) rfl rfl rfl rfl rfl rfl Try.call96 (cw_intsL b _ _ _ _ hp hu _ _ bx (cOp x).toArray T fz [(0, x.v0), (1, x.v1), (2, x.v2), (6, x.v6), (7, x.v7), (8, x.v8), (9, x.v9), (10, x.v10), (11, x.v11), (12, x.v12), (13, x.v13), (14, x.v14)] (by simp) ⟨rfl, rfl, rfl, rfl, rfl, rfl, rfl, rfl, rfl, rfl, rfl, rfl, trivial⟩ (by (try simp only [List.map_cons, List.map_nil, List.length_append]); omega)) [1, 1] [1, 0] rfl rfl [] (by rintro v post ⟨rfl, p1, u1, hp1, hu1, rfl⟩; exact ⟨_, rfl⟩) ?_
   rintro v post ⟨rfl, p1, u1, hp1, hu1, rfl⟩
   show GH _ _ _ _ _ _ _ [_, _, _] _
   refine Ya (by kernel_rfl) ?_
   refine Zh ?_
   refine Yf (Lq := []) (isq := []) (m := 15) Yo rfl rfl ?_
   refine Zi 0 rfl rfl rfl rfl (by kernel_rfl) (fun _ _ => Zc rfl rfl) ?_
   refine Zi 1 rfl rfl rfl rfl (by kernel_rfl) (fun _ _ => Zc rfl rfl) ?_
   refine Zi 2 rfl rfl rfl rfl (by kernel_rfl) (fun _ _ => Ze rfl rfl) ?_
   refine Zi 3 rfl rfl rfl rfl (by kernel_rfl) (fun _ _ => Zb (fo := 3) rfl Try.underlying137 rfl i_135 rfl rfl rfl) ?_
   refine Zi 4 rfl rfl rfl rfl (by kernel_rfl) (fun _ _ => Zb (fo := 3) rfl Try.underlying135 rfl i_9 rfl rfl rfl) ?_
   refine Zi 5 rfl rfl rfl rfl (by kernel_rfl) (fun _ _ => Zc rfl rfl) ?_
   refine Zi 6 rfl rfl rfl rfl (by kernel_rfl) (fun _ _ => Ze rfl rfl) ?_
   refine Zi 7 rfl rfl rfl rfl (by kernel_rfl) (fun _ _ => Zb (fo := 3) rfl Try.underlying137 rfl i_135 rfl rfl rfl) ?_
   refine Zi 8 rfl rfl rfl rfl (by kernel_rfl) (fun _ _ => Zb (fo := 4) rfl Try.underlying135 rfl i_9 rfl rfl rfl) ?_
   refine Zi 9 rfl rfl rfl rfl (by kernel_rfl) (fun _ _ => Zc rfl rfl) ?_
   refine Zi 10 rfl rfl rfl rfl (by kernel_rfl) (fun _ _ => Ze rfl rfl) ?_
   refine Zi 11 rfl rfl rfl rfl (by kernel_rfl) (fun _ _ => Zb (fo := 3) rfl Try.underlying137 rfl i_135 rfl rfl rfl) ?_
   refine Zi 12 rfl rfl rfl rfl (by kernel_rfl) (fun _ _ => Zb (fo := 5) rfl Try.underlying135 rfl i_9 rfl rfl rfl) ?_
   refine GH_all [13] (by kernel_rfl) (by decide) ?_
   refine (And.intro ?_ trivial)
   ·
    refine Yl rfl rfl rfl rfl (Zn (s := 1) (cs := [_, _, _]) rfl Try.underlying278 i_244 rfl rfl rfl rfl rfl rfl rfl rfl rfl) [] (fun _ => ⟨_, rfl⟩) (fun b56 => ?_)
    refine GH_all [14] (by kernel_rfl) (by decide) ?_
    refine (And.intro ?_ trivial)
    ·
     refine Ye (L2 := [_, _]) rfl rfl rfl rfl rfl rfl Try.call142 (cw_textsL b _ _ _ _ hp1 hu1 _ _ bx (cOp x).toArray T fz [(3, x.v3), (4, x.v4), (5, x.v5)] (by simp) ⟨rfl, rfl, rfl, trivial⟩ (by (try simp only [List.map_cons, List.map_nil, List.length_append]); omega)) [1, 1] [1, 0] rfl rfl [] (by rintro v post ⟨rfl, p1, u1, hp1, hu1, rfl⟩; exact ⟨_, rfl⟩) ?_
     rintro v post ⟨rfl, p1, u1, hp1, hu1, rfl⟩
     show GH _ _ _ _ _ _ _ [_, _, _, _] _
     refine Ya (by kernel_rfl) ?_
     refine Zh ?_
     refine Zd (l := [0, 1, 2, 3, 4]) rfl ?_
     refine Za rfl rfl rfl rfl (Zc rfl rfl) ?_
     refine Za rfl rfl rfl rfl (Zc rfl rfl) ?_
     refine Za rfl rfl rfl rfl (Ze rfl rfl) ?_
     refine Za rfl rfl rfl rfl (Zb (fo := 15) rfl Try.underlying137 rfl i_23 rfl rfl rfl) ?_
     refine Zq (L2 := [_, _]) rfl rfl rfl rfl rfl rfl Try.call94 (cw_num b _ _ _ _ hp1 hu1 bx 15 (cOp x).toArray T fz x.v15 (by omega) rfl (by (try simp only [List.map_cons, List.map_nil, List.length_append]); omega)) [0, 0] [0] rfl rfl ?_
     rintro v post ⟨rfl, p1, u1, hp1, hu1, rfl⟩
     show G _ _ _ [_, _, _, _] _
     refine Zg ?_
     refine Zh ?_
     refine Zd (l := [0, 1, 2, 3, 4]) rfl ?_
     refine Za rfl rfl rfl rfl (Zc rfl rfl) ?_
     refine Za rfl rfl rfl rfl (Zc rfl rfl) ?_
     refine Za rfl rfl rfl rfl (Ze rfl rfl) ?_
     refine Za rfl rfl rfl rfl (Zb (fo := 16) rfl Try.underlying137 rfl i_23 rfl rfl rfl) ?_
     refine Zq (L2 := [_, _]) rfl rfl rfl rfl rfl rfl Try.call94 (cw_num b _ _ _ _ hp1 hu1 bx 16 (cOp x).toArray T fz x.v16 (by omega) rfl (by (try simp only [List.map_cons, List.map_nil, List.length_append]); omega)) [0, 0] [0] rfl rfl ?_
     rintro v post ⟨rfl, p1, u1, hp1, hu1, rfl⟩
     show G _ _ _ [_, _, _, _] _
     refine Zg ?_
     refine Zd (l := [0, 1, 2, 3, 4]) rfl ?_
     refine Za rfl rfl rfl rfl (Zc rfl rfl) ?_
     refine Za rfl rfl rfl rfl (Zc rfl rfl) ?_
     refine Za rfl rfl rfl rfl (Ze rfl rfl) ?_
     refine Za rfl rfl rfl rfl (Zb (fo := 17) rfl Try.underlying137 rfl i_23 rfl rfl rfl) ?_
     refine Zq (L2 := [_, _]) rfl rfl rfl rfl rfl rfl Try.call94 (cw_num b _ _ _ _ hp1 hu1 bx 17 (cOp x).toArray T fz x.v17 (by omega) rfl (by (try simp only [List.map_cons, List.map_nil, List.length_append]); omega)) [0, 0] [0] rfl rfl ?_
     rintro v post ⟨rfl, p1, u1, hp1, hu1, rfl⟩
     show G _ _ _ [_, _, _, _] _
     refine Zg ?_
     refine G_end (post := [_, _]) Try.func98 rfl Zp [0, 0] rfl ?_
     dsimp only [packed]
     refine ⟨rfl, p1, u1, hp1, ?_, ?_⟩
     · simpa only [encOp, List.map_cons, List.map_nil, List.append_assoc] using hu1
     · simp only [encOp, badOp, List.map_cons, List.map_nil, List.append_assoc, Bool.or_assoc]


def histL (x : Hr) : List Int := [x.v1, x.v2, x.v3, x.v4, x.v5, x.v6, x.v7, x.v8, x.v9, x.v10, x.v11, x.v12, x.v13, x.v14, x.v15, x.v16]
theorem hist_at {x : Hr} {i : Nat} {y : Int} (h : (histL x)[i]? = some y) : (cHr x).toArray[1 + i * 1]? = some (.int .i64 y) := by
  have : (cHr x).toArray[1 + i * 1]? = ((histL x).map fun z => Value.int .i64 z)[i]? := by
    rw [Nat.mul_one, Nat.add_comm, List.getElem?_toArray]; exact List.getElem?_cons_succ
  rw [this, List.getElem?_map, h]; rfl
theorem encIs_one {l : List Int} {i : Nat} {y : Int} (h : l[i]? = some y) : encIs (l.take i) ++ encI y = encIs (l.take (i + 1)) := by
  obtain ⟨hi, rfl⟩ := List.getElem?_eq_some_iff.1 h
  rw [List.take_succ_eq_append_getElem hi]; unfold encIs; rw [List.flatMap_append]; exact congrArg _ (by simp)
theorem encIs_le (l : List Int) (i : Nat) : (encIs (l.take i)).length ≤ (encIs l).length := by
  have : encIs l = encIs (l.take i) ++ encIs (l.drop i) := by unfold encIs; rw [← List.flatMap_append, List.take_append_drop]
  rw [this, List.length_append]; omega
theorem anyI_one {l : List Int} {i : Nat} {y : Int} (h : l[i]? = some y) : ((l.take i).any badI || badI y) = (l.take (i + 1)).any badI := by
  obtain ⟨hi, rfl⟩ := List.getElem?_eq_some_iff.1 h
  rw [List.take_succ_eq_append_getElem hi, List.any_append]; simp
theorem encHr_eq (x : Hr) : encHr x = encTs [x.v0] ++ encIs (histL x) := rfl
theorem badHr_eq (x : Hr) : badHr x = ([x.v0].any badT || (histL x).any badI) := rfl
theorem histL_len (x : Hr) : (histL x).length = 16 := rfl
attribute [irreducible] histL

set_option maxRecDepth 100000 in
set_option maxHeartbeats 1000000 in
theorem cw_row (b : Nat) (p : Value) (u : Sl) (tx : List UInt8) (w : Bool) (hp : UsedOr b p) (hu : Txt u tx) (bx : Nat) (x : Hr) (T : TypeId) (fz : Nat × Nat) (hx : OkHr x) (hl : tx.length + (encHr x).length ≤ 140737488350000) :
    Ct Try.prog 106 [.pointer (some ⟨b, 0, none⟩), .pointer (some ⟨bx, 0, none⟩)] [(some bx, .cells (cHr x).toArray T fz)] [(some b, .cells #[p, u.v (tx).length, .pointer none, .bool w] 80 (0, 0)), (u.ob, .cells u.cs 5 u.fz)] fun v post => v = .tuple #[] ∧ ∃ p1 u1, UsedOr b p1 ∧ Txt u1 (tx ++ encHr x) ∧ post = [(some b, .cells #[p1, u1.v (tx ++ encHr x).length, .pointer none, .bool (w || badHr x)] 80 (0, 0)), (u1.ob, .cells u1.cs 5 u1.fz)] := by
 have hl_ := hl
 rw [encHr_eq, List.length_append] at hl_
 have hhl := histL_len x
 refine Yu Try.func106 rfl rfl (fun w0 => ?_)
 show G _ _ [(0, _), (1, _)] _ _
 refine Zh ?_
 refine Zd (l := [0, 1, 2, 3, 4, 5]) rfl ?_
 refine Za rfl rfl rfl rfl (Zc rfl rfl) ?_
 refine Za rfl rfl rfl rfl (Zc rfl rfl) ?_
 refine Za rfl rfl rfl rfl (Ze rfl rfl) ?_
 refine Za rfl rfl rfl rfl (Zb (fo := 0) rfl Try.underlying141 rfl i_9 rfl rfl rfl) ?_
 refine Yw rfl rfl rfl rfl (Zn (s := 1) (cs := [_]) rfl Try.underlying278 i_244 rfl rfl rfl rfl rfl rfl rfl rfl rfl) (fun b9 => ?_)
 refine Zq (L2 := [_]) rfl rfl rfl rfl rfl rfl Try.call142 (cw_textsL b _ _ _ _ hp hu _ _ bx (cHr x).toArray T fz [(0, x.v0)] (by simp) ⟨rfl, trivial⟩ (by (try simp only [List.map_cons, List.map_nil, List.length_append]); omega)) [1, 1] [1, 0] rfl rfl ?_
 rintro v post ⟨rfl, p1, u1, hp1, hu1, rfl⟩
 show G _ _ _ [_, _, _] _
 refine Zg ?_
 refine Zh ?_
 refine Zd (l := [0]) rfl ?_
 refine Za rfl rfl rfl rfl (Zc rfl rfl) ?_
 refine Zg ?_
 refine Zs ?_
 refine Yi ?he2 [0, 0] ?hl2 (Xb (X := Nat × Value × Sl × List UInt8 × Bool) (fun x_ => match x_ with | ⟨i, p, u, t, v⟩ => i ≤ 16 ∧ UsedOr b p ∧ Txt u t ∧ t = tx ++ (encTs [x.v0] ++ encIs ((histL x).take i)) ∧ v = (w || ([x.v0].any badT || ((histL x).take i).any badI))) (fun x_ => match x_ with | ⟨i, p, u, t, v⟩ => 16 - i) (fun x_ => match x_ with | ⟨i, p, u, t, v⟩ => [(0, .pointer (some ⟨b, 0, none⟩)), (1, .pointer (some ⟨bx, 0, none⟩)), (11, .int .i64 (i : Int))]) (fun x_ => match x_ with | ⟨i, p, u, t, v⟩ => [(some b, .cells #[p, u.v (t).length, .pointer none, .bool v] 80 (0, 0)), (u.ob, .cells u.cs 5 u.fz)]) ?round2 (0, p1, u1, tx ++ encTs [x.v0], w || [x.v0].any badT) ?h02)
 case he2 => exact (And.intro rfl (And.intro rfl (And.intro rfl trivial)))
 case hl2 => exact ⟨_, rfl⟩
 case h02 => exact ⟨Nat.zero_le _, hp1, hu1, by simp [encIs], by simp⟩
 case round2 =>
  intro x_ hJ ih
  try dsimp only at hJ ih
  obtain ⟨i, p, u, t, v⟩ := x_
  try dsimp only at hJ ih
  obtain ⟨hi, hp, hu, ht, hv⟩ := hJ
  show G _ _ [(0, .pointer (some ⟨b, 0, none⟩)), (1, .pointer (some ⟨bx, 0, none⟩)), (11, .int .i64 (i : Int))] [(some b, .cells #[p, u.v (t).length, .pointer none, .bool v] 80 (0, 0)), (u.ob, .cells u.cs 5 u.fz)] _
  refine Zh ?_
  refine Zd (l := [0]) rfl ?_
  refine Za rfl rfl rfl rfl (Xn rfl rfl rfl) ?_
  refine Zg ?_
  refine Zh ?_
  refine Yk rfl (fun hc1 => ?_) (fun hc1 => ?_)
  ·
   refine Zu ?_
   refine Zh ?_
   refine Zs ?_
   refine Zh ?_
   refine Zd (l := [0, 1]) rfl ?_
   refine Za rfl rfl rfl rfl (Zc rfl rfl) ?_
   refine Za rfl rfl rfl rfl (Zk rfl rfl) ?_
   refine Zg ?_
   obtain ⟨y, hy⟩ := getI (show i < (histL x).length by omega)
   have hfl := encIs_le (histL x) (i + 1)
   rw [← encIs_one hy, List.length_append] at hfl
   have htl := congrArg List.length ht
   simp only [List.length_append] at htl
   have hey : encIs [y] = encI y := by simp [encIs]
   refine Zd (l := [0, 1, 2, 3, 4, 5, 6, 7]) rfl ?_
   refine Za rfl rfl rfl rfl (Zc rfl rfl) ?_
   refine Za rfl rfl rfl rfl (Zc rfl rfl) ?_
   refine Za rfl rfl rfl rfl (Zc rfl rfl) ?_
   refine Za rfl rfl rfl rfl (Ze rfl rfl) ?_
   refine Za rfl rfl rfl rfl (Zb (fo := 1) rfl Try.underlying141 rfl i_139 rfl rfl rfl) ?_
   refine Za rfl rfl rfl rfl (V_aindexAddr rfl Try.underlying139 i_3 rfl rfl rfl (by omega) (by omega)) ?_
   refine Yw rfl rfl rfl rfl (Zn (s := 1) (cs := [_]) rfl Try.underlying241 i_176 rfl rfl rfl rfl rfl rfl rfl rfl rfl) (fun b20 => ?_)
   refine Zq (L2 := [_]) rfl rfl rfl rfl rfl rfl Try.call96 (cw_intsL b _ _ _ _ hp hu _ _ bx (cHr x).toArray T fz [(1 + i * 1, y)] (by simp) ⟨hist_at hy, trivial⟩ (by (try simp only [List.map_cons, List.map_nil, List.length_append]); rw [hey]; omega)) [1, 1] [1, 0] rfl rfl ?_
   rintro v post ⟨rfl, p1, u1, hp1, hu1, rfl⟩
   show G _ _ _ [_, _, _] _
   refine Zg ?_
   refine Zv ?_
   refine Zd (l := [0, 1]) rfl ?_
   refine Za rfl rfl rfl rfl ((Xe rfl rfl rfl).int (Zw (by omega))) ?_
   refine Za rfl rfl rfl rfl (Zc rfl rfl) ?_
   refine Zg ?_
   refine Yi ?_ [0, 0] ?_ (ih (i + 1, p1, u1, t ++ encIs [y], v || [y].any badI) ?_ ?_)
   · (refine (And.intro ?_ (And.intro ?_ (And.intro ?_ trivial))) <;> first | rfl | exact Zl (by omega) | exact Zl (by simp))
   · exact ⟨_, rfl⟩
   · exact ⟨by omega, hp1, hu1, by rw [← encIs_one hy, ht, hey]; simp only [List.append_assoc], by rw [hv, ← anyI_one hy]; simp [Bool.or_assoc]⟩
   · (first | omega | (dsimp only; omega))
  refine Yr rfl ?_
  refine G_end (post := [_, _]) Try.func106 rfl Zp [0, 0] rfl ?_
  dsimp only [packed]
  have e : (histL x).take i = histL x := List.take_of_length_le (by omega)
  rw [e, ← encHr_eq] at ht
  rw [e, ← badHr_eq] at hv
  subst ht hv
  exact ⟨rfl, p, u, hp, hu, rfl⟩

end
end Go.Proofs.Ytjnaeoelnmhjfaa

set_option linter.unusedSimpArgs false
set_option linter.unusedVariables false
namespace Go.Proofs.Ytjnaeoelnmhjfaa
open Go Go.RowKit

section
theorem i_92 : Try.prog.info? 92 = some Try.t92 := by kernel_rfl
theorem i_95 : Try.prog.info? 95 = some Try.t95 := by kernel_rfl
theorem i_137 : Try.prog.info? 137 = some Try.t137 := by kernel_rfl
theorem i_141 : Try.prog.info? 141 = some Try.t141 := by kernel_rfl
theorem i_143 : Try.prog.info? 143 = some Try.t143 := by kernel_rfl
theorem i_145 : Try.prog.info? 145 = some Try.t145 := by kernel_rfl
theorem i_262 : Try.prog.info? 262 = some Try.t262 := by kernel_rfl


def encL {α : Type} (f : α → List UInt8) (l : List α) : List UInt8 := chainI (l.length : Int) ++ l.flatMap f
def badL {α : Type} (f : α → Bool) (l : List α) : Bool := decide (1000 < (l.length : Int)) || l.any f
theorem Yx {α : Type} (f : α → List UInt8) {l : List α} {i : Nat} {y : α} (h : l[i]? = some y) : (l.take i).flatMap f ++ f y = (l.take (i + 1)).flatMap f := by
  obtain ⟨hi, rfl⟩ := List.getElem?_eq_some_iff.1 h
  rw [List.take_succ_eq_append_getElem hi, List.flatMap_append]; exact congrArg _ (by simp)
theorem fmap_len {α : Type} (f : α → List UInt8) (l : List α) (i : Nat) : ((l.take i).flatMap f).length ≤ (l.flatMap f).length := by
  have : l.flatMap f = (l.take i).flatMap f ++ (l.drop i).flatMap f := by rw [← List.flatMap_append, List.take_append_drop]
  rw [this, List.length_append]; omega
theorem anyt_next {α : Type} {f : α → Bool} {l : List α} {i : Nat} {y : α} (h : l[i]? = some y) : ((l.take i).any f || f y) = (l.take (i + 1)).any f := by
  obtain ⟨hi, rfl⟩ := List.getElem?_eq_some_iff.1 h
  rw [List.take_succ_eq_append_getElem hi, List.any_append]; simp

set_option maxRecDepth 100000 in
set_option maxHeartbeats 1000000 in
theorem cw_listIt (b : Nat) (p : Value) (u : Sl) (tx : List UInt8) (w : Bool) (hp : UsedOr b p) (hu : Txt u tx) (bx k : Nat) (cs : Array Value) (T : TypeId) (fz : Nat × Nat) (s : Ins It) (hs : InsOk 2 cIt s) (hok : ∀ x ∈ s.l, OkIt x) (hk : cs[k]? = some (.slice s.p s.l.length s.cap)) (hl : tx.length + (encL encIt s.l).length ≤ 140737488350000) :
    Ct Try.prog 178 [.pointer (some ⟨b, 0, none⟩), .pointer (some ⟨bx, k, none⟩), .func (.func 179) #[.pointer (some ⟨b, 0, none⟩)] #[]] [(some bx, .cells cs T fz), (s.ob, .cells s.cs s.T s.fr)] [(some b, .cells #[p, u.v (tx).length, .pointer none, .bool w] 80 (0, 0)), (u.ob, .cells u.cs 5 u.fz)] fun v post => v = .tuple #[] ∧ ∃ p1 u1, UsedOr b p1 ∧ Txt u1 (tx ++ encL encIt s.l) ∧ post = [(some b, .cells #[p1, u1.v (tx ++ encL encIt s.l).length, .pointer none, .bool (w || badL badIt s.l)] 80 (0, 0)), (u1.ob, .cells u1.cs 5 u1.fz)] := by
 have hl1 := hs.le
 have hl2 := hs.max
 have hln := hs.n
 have hcl := chainI_len (s.l.length : Int) (by omega) (by omega)
 have hl_ := hl
 unfold encL at hl_
 simp only [List.length_append] at hl_
 refine Yu Try.func178 rfl rfl (fun w0 => ?_)
 show G _ _ [(0, _), (1, _), (2, _)] _ _
 refine Zh ?_
 refine Zh ?_
 refine Zd (l := [0, 1, 2, 3, 4]) rfl ?_
 refine Za rfl rfl rfl rfl (Zc rfl rfl) ?_
 refine Za rfl rfl rfl rfl (Ze rfl rfl) ?_
 refine Za rfl rfl rfl rfl (Zb (fo := 2) rfl Try.underlying80 rfl i_74 rfl rfl rfl) ?_
 refine Za rfl rfl rfl rfl (Zj rfl rfl (Zf 2 rfl) rfl Try.underlying74 rfl) ?_
 refine Za rfl rfl rfl rfl (V_peqlN rfl Try.underlying74 rfl rfl) ?_
 refine Zg ?_
 refine G_then rfl ?_
 refine Zh ?_
 refine Zd (l := [0, 1, 2, 3, 4, 5, 6, 7, 8, 9, 10, 11, 12, 13, 14]) rfl ?_
 refine Za rfl rfl rfl rfl (Zc rfl rfl) ?_
 refine Za rfl rfl rfl rfl (Zc rfl rfl) ?_
 refine Za rfl rfl rfl rfl (Ze rfl rfl) ?_
 refine Za rfl rfl rfl rfl (Zb (fo := 3) rfl Try.underlying80 rfl i_4 rfl rfl rfl) ?_
 refine Za rfl rfl rfl rfl (Zj rfl rfl (Zf 2 rfl) rfl Try.underlying4 rfl) ?_
 refine Za rfl rfl rfl rfl (Zc rfl rfl) ?_
 refine G_split 19 rfl (fun hc1 => ?_) (fun hc1 => ?_)
 ·
  refine Yb rfl rfl rfl rfl ?_
  refine Yb rfl rfl rfl rfl ?_
  refine Yb rfl rfl rfl rfl ?_
  refine Yb rfl rfl rfl rfl ?_
  refine Yb rfl rfl rfl rfl ?_
  refine Za rfl rfl rfl rfl (Yz rfl rfl rfl) ?_
  refine Za rfl rfl rfl rfl (Ze rfl rfl) ?_
  refine Za rfl rfl rfl rfl (Zb (fo := 3) rfl Try.underlying80 rfl i_4 rfl rfl rfl) ?_
  refine Yj (l1 := []) (L' := [_, _]) rfl rfl rfl rfl (Zm rfl rfl rfl (Zf 0 rfl) (by first | exact of_decide_eq_true rfl | omega | (simp [cOp, cWk, cIv, cHr, cLt, cWt, cIt]; done) | (simp [cOp, cWk, cIv, cHr, cLt, cWt, cIt]; omega) | (simp [cOp, cWk, cIv, cHr, cLt, cWt, cIt] at *; omega)) i_4 rfl rfl) rfl ?_
  refine Zg ?_
  refine Zh ?_
  refine Yf (Lq := []) (isq := []) (m := 10) Yo rfl rfl ?_
  refine Zi 0 rfl rfl rfl rfl (by kernel_rfl) (fun _ _ => Zc rfl rfl) ?_
  refine Zi 1 rfl rfl rfl rfl (by kernel_rfl) (fun _ _ => Ze rfl rfl) ?_
  refine Zi 2 rfl rfl rfl rfl (by kernel_rfl) (fun _ _ => Zb (fo := 0) rfl Try.underlying80 rfl i_78 rfl rfl rfl) ?_
  refine Zi 3 rfl rfl rfl rfl (by kernel_rfl) (fun _ _ => Zc rfl rfl) ?_
  refine Zi 4 rfl rfl rfl rfl (by kernel_rfl) (fun _ _ => Ze rfl rfl) ?_
  refine Zi 5 rfl rfl rfl rfl (by kernel_rfl) (fun _ _ => Zj rfl rfl (Zf 0 rfl) (Zt hk) Try.underlying215 rfl) ?_
  refine Zi 6 rfl rfl rfl rfl (by kernel_rfl) (fun _ _ => Yp rfl rfl Try.underlying215 rfl) ?_
  refine Zi 7 rfl rfl rfl rfl (by kernel_rfl) (fun _ _ => (Xt rfl rfl Try.underlying3 Try.underlying23).int (Xm (by omega))) ?_
  refine GH_all [8] (by kernel_rfl) (by decide) ?_
  refine (And.intro ?_ trivial)
  ·
   refine Ye (L2 := [_, _]) rfl rfl rfl rfl rfl rfl Try.call80 (Xv _ (by omega) (by omega)) [] [] rfl rfl [] (by rintro v post ⟨rfl, rfl⟩; exact ⟨_, rfl⟩) ?_
   rintro v post ⟨rfl, rfl⟩
   show GH _ _ _ _ _ _ _ [_, _] _
   refine GH_all [9] (by kernel_rfl) (by decide) ?_
   refine (And.intro ?_ trivial)
   ·
    refine Ye (L2 := []) rfl rfl rfl rfl rfl rfl Try.call79 (Xl _ _ _ _ _ _ _ hp hu (by omega)) [0, 0] [] rfl rfl [] (by rintro v post ⟨rfl, u1, hu1, rfl⟩; exact ⟨_, rfl⟩) ?_
    rintro v post ⟨rfl, u1, hu1, rfl⟩
    show GH _ _ _ _ _ _ _ [_, _] _
    refine Ya (by kernel_rfl) ?_
    refine Zh ?_
    refine Zh ?_
    refine Zd (l := [0, 1, 2, 3, 4]) rfl ?_
    refine Za rfl rfl rfl rfl (Zc rfl rfl) ?_
    refine Za rfl rfl rfl rfl (Ze rfl rfl) ?_
    refine Za rfl rfl rfl rfl (Zj rfl rfl (Zf 0 rfl) (Zt hk) Try.underlying215 rfl) ?_
    refine Za rfl rfl rfl rfl (Yp rfl rfl Try.underlying215 rfl) ?_
    refine Za rfl rfl rfl rfl (Zc rfl rfl) ?_
    refine Zg ?_
    refine Zs ?_
    refine Yi ?he4 [0, 0] ?hl4 (Xb (X := Nat × Value × Sl × List UInt8 × Bool) (fun x_ => match x_ with | ⟨i, p, u, t, v⟩ => i ≤ s.l.length ∧ UsedOr b p ∧ Txt u t ∧ t = tx ++ (chainI (s.l.length : Int) ++ (s.l.take i).flatMap encIt) ∧ v = (w || (decide (1000 < (s.l.length : Int)) || (s.l.take i).any badIt))) (fun x_ => match x_ with | ⟨i, p, u, t, v⟩ => s.l.length - i) (fun x_ => match x_ with | ⟨i, p, u, t, v⟩ => [(0, .pointer (some ⟨b, 0, none⟩)), (1, .pointer (some ⟨bx, k, none⟩)), (2, .func (.func 179) #[.pointer (some ⟨b, 0, none⟩)] #[]), (41, .int .i64 (s.l.length : Int)), (42, .int .i64 (i : Int))]) (fun x_ => match x_ with | ⟨i, p, u, t, v⟩ => [(some b, .cells #[p, u.v (t).length, .pointer none, .bool v] 80 (0, 0)), (u.ob, .cells u.cs 5 u.fz)]) ?round4 (0, .pointer (some ⟨b, 0, none⟩), u1, tx ++ chainI (s.l.length : Int), true) ?h04)
    case he4 => exact (And.intro rfl (And.intro rfl (And.intro rfl (And.intro rfl (And.intro rfl trivial)))))
    case hl4 => exact ⟨_, rfl⟩
    case h04 => exact ⟨Nat.zero_le _, .inr rfl, hu1, by simp, by simp [*]⟩
    case round4 =>
     intro x_ hJ ih
     try dsimp only at hJ ih
     obtain ⟨i, p, u, t, v⟩ := x_
     try dsimp only at hJ ih
     obtain ⟨hi, hp, hu, ht, hv⟩ := hJ
     show G _ _ [(0, .pointer (some ⟨b, 0, none⟩)), (1, .pointer (some ⟨bx, k, none⟩)), (2, .func (.func 179) #[.pointer (some ⟨b, 0, none⟩)] #[]), (41, .int .i64 (s.l.length : Int)), (42, .int .i64 (i : Int))] [(some b, .cells #[p, u.v (t).length, .pointer none, .bool v] 80 (0, 0)), (u.ob, .cells u.cs 5 u.fz)] _
     refine Zh ?_
     refine Zd (l := [0]) rfl ?_
     refine Za rfl rfl rfl rfl (Xn rfl rfl rfl) ?_
     refine Zg ?_
     refine Zh ?_
     refine Yk rfl (fun hc2 => ?_) (fun hc2 => ?_)
     ·
      refine Zu ?_
      refine Zh ?_
      refine Zs ?_
      refine Zh ?_
      refine Zd (l := [0, 1]) rfl ?_
      refine Za rfl rfl rfl rfl (Zc rfl rfl) ?_
      refine Za rfl rfl rfl rfl (Zk rfl rfl) ?_
      refine Zg ?_
      refine Zh ?_
      obtain ⟨x, hx⟩ := getI (show i < s.l.length by omega)
      obtain ⟨bi, hb1, hb2, hss⟩ := hs.isS (i := i) (by omega)
      have hxo := hok x (List.mem_of_getElem? hx)
      have hfl := fmap_len encIt s.l (i + 1)
      rw [← Yx encIt hx, List.length_append] at hfl
      have htl := congrArg List.length ht
      simp only [List.length_append] at htl
      refine Zd (l := [0, 1, 2, 3, 4, 5, 6, 7]) rfl ?_
      refine Za rfl rfl rfl rfl (Zc rfl rfl) ?_
      refine Za rfl rfl rfl rfl (Ze rfl rfl) ?_
      refine Za rfl rfl rfl rfl (Zj rfl rfl (Zf 0 rfl) (Zt hk) Try.underlying215 rfl) ?_
      rw [hb1]
      refine Za rfl rfl rfl rfl (Zc rfl rfl) ?_
      refine Za rfl rfl rfl rfl (Zo (s := 2) rfl Try.underlying215 i_262 rfl rfl rfl rfl (by omega)) ?_
      refine Za rfl rfl rfl rfl (Xp (s := 2) (vs := (cIt x).toArray) rfl rfl (by rw [← hb2]; exact Zf 1 rfl) Try.underlying262 rfl i_262 rfl (hss.elem cIt_len hx) (by rfl)) ?_
      refine Yw rfl rfl rfl rfl (Ym rfl i_262 rfl) (fun b7 => ?_)
      refine Yj (l1 := []) (L' := [_, _, _]) rfl rfl rfl rfl (Yv (s := 2) rfl rfl rfl (Zf 0 rfl) (by rfl) i_262 rfl (by rfl) (by simp [Value.oneCell', cOp, cWk, cIv, cHr, cLt, cWt, cIt])) rfl ?_
      refine Zg ?_
      refine Zd (l := [0, 1]) rfl ?_
      refine Za rfl rfl rfl rfl (Zc rfl rfl) ?_
      refine G_callB (L2 := [_]) rfl rfl rfl rfl rfl rfl Try.call179 rfl (cw_item b _ _ _ _ hp hu _ x _ _ hxo (by omega)) [1, 1] [2] rfl rfl ?_
      rintro v post ⟨rfl, p1, u1, hp1, hu1, rfl⟩
      show G _ _ _ [_, _, _] _
      refine Zg ?_
      refine Zv ?_
      refine Zd (l := [0, 1]) rfl ?_
      refine Za rfl rfl rfl rfl ((Xe rfl rfl rfl).int (Zw (by omega))) ?_
      refine Za rfl rfl rfl rfl (Zc rfl rfl) ?_
      refine Zg ?_
      refine Yi ?_ [0, 0] ?_ (ih (i + 1, p1, u1, t ++ encIt x, v || badIt x) ?_ ?_)
      · (refine (And.intro ?_ (And.intro ?_ (And.intro ?_ (And.intro ?_ (And.intro ?_ trivial))))) <;> first | rfl | exact Zl (by omega) | exact Zl (by simp))
      · exact ⟨_, rfl⟩
      · exact ⟨by omega, hp1, hu1, by rw [← Yx encIt hx, ht]; simp only [List.append_assoc], by rw [hv, ← anyt_next hx]; simp only [Bool.or_assoc]⟩
      · (first | omega | (dsimp only; omega))
     refine Yr rfl ?_
     refine Yy (post := [_, _]) Try.func178 rfl Zp [0, 0] rfl ?_
     dsimp only [packed]
     have e : s.l.take i = s.l := List.take_of_length_le (by omega)
     rw [e] at ht hv
     subst ht hv
     exact ⟨rfl, p, u, hp, hu, rfl⟩
 refine Za rfl rfl rfl rfl (Zc rfl rfl) ?_
 refine Za rfl rfl rfl rfl (Ze rfl rfl) ?_
 refine Za rfl rfl rfl rfl (Zj rfl rfl (Zf 0 rfl) (Zt hk) Try.underlying215 rfl) ?_
 refine Za rfl rfl rfl rfl (Yp rfl rfl Try.underlying215 rfl) ?_
 refine Za rfl rfl rfl rfl (V_gtr rfl rfl rfl) ?_
 refine Za rfl rfl rfl rfl (Xg rfl rfl rfl) ?_
 refine Za rfl rfl rfl rfl (Ze rfl rfl) ?_
 refine Za rfl rfl rfl rfl (Zb (fo := 3) rfl Try.underlying80 rfl i_4 rfl rfl rfl) ?_
 refine Yj (l1 := []) (L' := [_, _]) rfl rfl rfl rfl (Zm rfl rfl rfl (Zf 0 rfl) (by first | exact of_decide_eq_true rfl | omega | (simp [cOp, cWk, cIv, cHr, cLt, cWt, cIt]; done) | (simp [cOp, cWk, cIv, cHr, cLt, cWt, cIt]; omega) | (simp [cOp, cWk, cIv, cHr, cLt, cWt, cIt] at *; omega)) i_4 rfl rfl) rfl ?_
 refine Zg ?_
 refine Zh ?_
 refine Yf (Lq := []) (isq := []) (m := 10) Yo rfl rfl ?_
 refine Zi 0 rfl rfl rfl rfl (by kernel_rfl) (fun _ _ => Zc rfl rfl) ?_
 refine Zi 1 rfl rfl rfl rfl (by kernel_rfl) (fun _ _ => Ze rfl rfl) ?_
 refine Zi 2 rfl rfl rfl rfl (by kernel_rfl) (fun _ _ => Zb (fo := 0) rfl Try.underlying80 rfl i_78 rfl rfl rfl) ?_
 refine Zi 3 rfl rfl rfl rfl (by kernel_rfl) (fun _ _ => Zc rfl rfl) ?_
 refine Zi 4 rfl rfl rfl rfl (by kernel_rfl) (fun _ _ => Ze rfl rfl) ?_
 refine Zi 5 rfl rfl rfl rfl (by kernel_rfl) (fun _ _ => Zj rfl rfl (Zf 0 rfl) (Zt hk) Try.underlying215 rfl) ?_
 refine Zi 6 rfl rfl rfl rfl (by kernel_rfl) (fun _ _ => Yp rfl rfl Try.underlying215 rfl) ?_
 refine Zi 7 rfl rfl rfl rfl (by kernel_rfl) (fun _ _ => (Xt rfl rfl Try.underlying3 Try.underlying23).int (Xm (by omega))) ?_
 refine GH_all [8] (by kernel_rfl) (by decide) ?_
 refine (And.intro ?_ trivial)
 ·
  refine Ye (L2 := [_, _]) rfl rfl rfl rfl rfl rfl Try.call80 (Xv _ (by omega) (by omega)) [] [] rfl rfl [] (by rintro v post ⟨rfl, rfl⟩; exact ⟨_, rfl⟩) ?_
  rintro v post ⟨rfl, rfl⟩
  show GH _ _ _ _ _ _ _ [_, _] _
  refine GH_all [9] (by kernel_rfl) (by decide) ?_
  refine (And.intro ?_ trivial)
  ·
   refine Ye (L2 := []) rfl rfl rfl rfl rfl rfl Try.call79 (Xl _ _ _ _ _ _ _ hp hu (by omega)) [0, 0] [] rfl rfl [] (by rintro v post ⟨rfl, u1, hu1, rfl⟩; exact ⟨_, rfl⟩) ?_
   rintro v post ⟨rfl, u1, hu1, rfl⟩
   show GH _ _ _ _ _ _ _ [_, _] _
   refine Ya (by kernel_rfl) ?_
   refine Zh ?_
   refine Zh ?_
   refine Zd (l := [0, 1, 2, 3, 4]) rfl ?_
   refine Za rfl rfl rfl rfl (Zc rfl rfl) ?_
   refine Za rfl rfl rfl rfl (Ze rfl rfl) ?_
   refine Za rfl rfl rfl rfl (Zj rfl rfl (Zf 0 rfl) (Zt hk) Try.underlying215 rfl) ?_
   refine Za rfl rfl rfl rfl (Yp rfl rfl Try.underlying215 rfl) ?_
   refine Za rfl rfl rfl rfl (Zc rfl rfl) ?_
   refine Zg ?_
   refine Zs ?_
   refine Yi ?he4 [0, 0] ?hl4 (Xb (X := Nat × Value × Sl × List UInt8 × Bool) (fun x_ => match x_ with | ⟨i, p, u, t, v⟩ => i ≤ s.l.length ∧ UsedOr b p ∧ Txt u t ∧ t = tx ++ (chainI (s.l.length : Int) ++ (s.l.take i).flatMap encIt) ∧ v = (w || (decide (1000 < (s.l.length : Int)) || (s.l.take i).any badIt))) (fun x_ => match x_ with | ⟨i, p, u, t, v⟩ => s.l.length - i) (fun x_ => match x_ with | ⟨i, p, u, t, v⟩ => [(0, .pointer (some ⟨b, 0, none⟩)), (1, .pointer (some ⟨bx, k, none⟩)), (2, .func (.func 179) #[.pointer (some ⟨b, 0, none⟩)] #[]), (41, .int .i64 (s.l.length : Int)), (42, .int .i64 (i : Int))]) (fun x_ => match x_ with | ⟨i, p, u, t, v⟩ => [(some b, .cells #[p, u.v (t).length, .pointer none, .bool v] 80 (0, 0)), (u.ob, .cells u.cs 5 u.fz)]) ?round4 (0, .pointer (some ⟨b, 0, none⟩), u1, tx ++ chainI (s.l.length : Int), (decide (1000 < (s.l.length : Int)))) ?h04)
   case he4 => exact (And.intro rfl (And.intro rfl (And.intro rfl (And.intro rfl (And.intro rfl trivial)))))
   case hl4 => exact ⟨_, rfl⟩
   case h04 => exact ⟨Nat.zero_le _, .inr rfl, hu1, by simp, by simp [*]⟩
   case round4 =>
    intro x_ hJ ih
    try dsimp only at hJ ih
    obtain ⟨i, p, u, t, v⟩ := x_
    try dsimp only at hJ ih
    obtain ⟨hi, hp, hu, ht, hv⟩ := hJ
    show G _ _ [(0, .pointer (some ⟨b, 0, none⟩)), (1, .pointer (some ⟨bx, k, none⟩)), (2, .func (.func 179) #[.pointer (some ⟨b, 0, none⟩)] #[]), (41, .int .i64 (s.l.length : Int)), (42, .int .i64 (i : Int))] [(some b, .cells #[p, u.v (t).length, .pointer none, .bool v] 80 (0, 0)), (u.ob, .cells u.cs 5 u.fz)] _
    refine Zh ?_
    refine Zd (l := [0]) rfl ?_
    refine Za rfl rfl rfl rfl (Xn rfl rfl rfl) ?_
    refine Zg ?_
    refine Zh ?_
    refine Yk rfl (fun hc2 => ?_) (fun hc2 => ?_)
    ·
     refine Zu ?_
     refine Zh ?_
     refine Zs ?_
     refine Zh ?_
     refine Zd (l := [0, 1]) rfl ?_
     refine Za rfl rfl rfl rfl (Zc rfl rfl) ?_
     refine Za rfl rfl rfl rfl (Zk rfl rfl) ?_
     refine Zg ?_
     refine Zh ?_
     obtain ⟨x, hx⟩ := getI (show i < s.l.length by omega)
     obtain ⟨bi, hb1, hb2, hss⟩ := hs.isS (i := i) (by omega)
     have hxo := hok x (List.mem_of_getElem? hx)
     have hfl := fmap_len encIt s.l (i + 1)
     rw [← Yx encIt hx, List.length_append] at hfl
     have htl := congrArg List.length ht
     simp only [List.length_append] at htl
     refine Zd (l := [0, 1, 2, 3, 4, 5, 6, 7]) rfl ?_
     refine Za rfl rfl rfl rfl (Zc rfl rfl) ?_
     refine Za rfl rfl rfl rfl (Ze rfl rfl) ?_
     refine Za rfl rfl rfl rfl (Zj rfl rfl (Zf 0 rfl) (Zt hk) Try.underlying215 rfl) ?_
     rw [hb1]
     refine Za rfl rfl rfl rfl (Zc rfl rfl) ?_
     refine Za rfl rfl rfl rfl (Zo (s := 2) rfl Try.underlying215 i_262 rfl rfl rfl rfl (by omega)) ?_
     refine Za rfl rfl rfl rfl (Xp (s := 2) (vs := (cIt x).toArray) rfl rfl (by rw [← hb2]; exact Zf 1 rfl) Try.underlying262 rfl i_262 rfl (hss.elem cIt_len hx) (by rfl)) ?_
     refine Yw rfl rfl rfl rfl (Ym rfl i_262 rfl) (fun b7 => ?_)
     refine Yj (l1 := []) (L' := [_, _, _]) rfl rfl rfl rfl (Yv (s := 2) rfl rfl rfl (Zf 0 rfl) (by rfl) i_262 rfl (by rfl) (by simp [Value.oneCell', cOp, cWk, cIv, cHr, cLt, cWt, cIt])) rfl ?_
     refine Zg ?_
     refine Zd (l := [0, 1]) rfl ?_
     refine Za rfl rfl rfl rfl (Zc rfl rfl) ?_
     refine G_callB (L2 := [_]) rfl rfl rfl rfl rfl rfl Try.call179 rfl (cw_item b _ _ _ _ hp hu _ x _ _ hxo (by omega)) [1, 1] [2] rfl rfl ?_
     rintro v post ⟨rfl, p1, u1, hp1, hu1, rfl⟩
     show G _ _ _ [_, _, _] _
     refine Zg ?_
     refine Zv ?_
     refine Zd (l := [0, 1]) rfl ?_
     refine Za rfl rfl rfl rfl ((Xe rfl rfl rfl).int (Zw (by omega))) ?_
     refine Za rfl rfl rfl rfl (Zc rfl rfl) ?_
     refine Zg ?_
     refine Yi ?_ [0, 0] ?_ (ih (i + 1, p1, u1, t ++ encIt x, v || badIt x) ?_ ?_)
     · (refine (And.intro ?_ (And.intro ?_ (And.intro ?_ (And.intro ?_ (And.intro ?_ trivial))))) <;> first | rfl | exact Zl (by omega) | exact Zl (by simp))
     · exact ⟨_, rfl⟩
     · exact ⟨by omega, hp1, hu1, by rw [← Yx encIt hx, ht]; simp only [List.append_assoc], by rw [hv, ← anyt_next hx]; simp only [Bool.or_assoc]⟩
     · (first | omega | (dsimp only; omega))
    refine Yr rfl ?_
    refine Yy (post := [_, _]) Try.func178 rfl Zp [0, 0] rfl ?_
    dsimp only [packed]
    have e : s.l.take i = s.l := List.take_of_length_le (by omega)
    rw [e] at ht hv
    subst ht hv
    exact ⟨rfl, p, u, hp, hu, rfl⟩

set_option maxRecDepth 100000 in
set_option maxHeartbeats 1000000 in
theorem cw_listOp (b : Nat) (p : Value) (u : Sl) (tx : List UInt8) (w : Bool) (hp : UsedOr b p) (hu : Txt u tx) (bx k : Nat) (cs : Array Value) (T : TypeId) (fz : Nat × Nat) (s : Ins Op) (hs : InsOk 18 cOp s) (hok : ∀ x ∈ s.l, OkOp x) (hk : cs[k]? = some (.slice s.p s.l.length s.cap)) (hl : tx.length + (encL encOp s.l).length ≤ 140737488350000) :
    Ct Try.prog 97 [.pointer (some ⟨b, 0, none⟩), .pointer (some ⟨bx, k, none⟩), .func (.func 98) #[.pointer (some ⟨b, 0, none⟩)] #[]] [(some bx, .cells cs T fz), (s.ob, .cells s.cs s.T s.fr)] [(some b, .cells #[p, u.v (tx).length, .pointer none, .bool w] 80 (0, 0)), (u.ob, .cells u.cs 5 u.fz)] fun v post => v = .tuple #[] ∧ ∃ p1 u1, UsedOr b p1 ∧ Txt u1 (tx ++ encL encOp s.l) ∧ post = [(some b, .cells #[p1, u1.v (tx ++ encL encOp s.l).length, .pointer none, .bool (w || badL badOp s.l)] 80 (0, 0)), (u1.ob, .cells u1.cs 5 u1.fz)] := by
 have hl1 := hs.le
 have hl2 := hs.max
 have hln := hs.n
 have hcl := chainI_len (s.l.length : Int) (by omega) (by omega)
 have hl_ := hl
 unfold encL at hl_
 simp only [List.length_append] at hl_
 refine Yu Try.func97 rfl rfl (fun w0 => ?_)
 show G _ _ [(0, _), (1, _), (2, _)] _ _
 refine Zh ?_
 refine Zh ?_
 refine Zd (l := [0, 1, 2, 3, 4]) rfl ?_
 refine Za rfl rfl rfl rfl (Zc rfl rfl) ?_
 refine Za rfl rfl rfl rfl (Ze rfl rfl) ?_
 refine Za rfl rfl rfl rfl (Zb (fo := 2) rfl Try.underlying80 rfl i_74 rfl rfl rfl) ?_
 refine Za rfl rfl rfl rfl (Zj rfl rfl (Zf 2 rfl) rfl Try.underlying74 rfl) ?_
 refine Za rfl rfl rfl rfl (V_peqlN rfl Try.underlying74 rfl rfl) ?_
 refine Zg ?_
 refine G_then rfl ?_
 refine Zh ?_
 refine Zd (l := [0, 1, 2, 3, 4, 5, 6, 7, 8, 9, 10, 11, 12, 13, 14]) rfl ?_
 refine Za rfl rfl rfl rfl (Zc rfl rfl) ?_
 refine Za rfl rfl rfl rfl (Zc rfl rfl) ?_
 refine Za rfl rfl rfl rfl (Ze rfl rfl) ?_
 refine Za rfl rfl rfl rfl (Zb (fo := 3) rfl Try.underlying80 rfl i_4 rfl rfl rfl) ?_
 refine Za rfl rfl rfl rfl (Zj rfl rfl (Zf 2 rfl) rfl Try.underlying4 rfl) ?_
 refine Za rfl rfl rfl rfl (Zc rfl rfl) ?_
 refine G_split 19 rfl (fun hc1 => ?_) (fun hc1 => ?_)
 ·
  refine Yb rfl rfl rfl rfl ?_
  refine Yb rfl rfl rfl rfl ?_
  refine Yb rfl rfl rfl rfl ?_
  refine Yb rfl rfl rfl rfl ?_
  refine Yb rfl rfl rfl rfl ?_
  refine Za rfl rfl rfl rfl (Yz rfl rfl rfl) ?_
  refine Za rfl rfl rfl rfl (Ze rfl rfl) ?_
  refine Za rfl rfl rfl rfl (Zb (fo := 3) rfl Try.underlying80 rfl i_4 rfl rfl rfl) ?_
  refine Yj (l1 := []) (L' := [_, _]) rfl rfl rfl rfl (Zm rfl rfl rfl (Zf 0 rfl) (by first | exact of_decide_eq_true rfl | omega | (simp [cOp, cWk, cIv, cHr, cLt, cWt, cIt]; done) | (simp [cOp, cWk, cIv, cHr, cLt, cWt, cIt]; omega) | (simp [cOp, cWk, cIv, cHr, cLt, cWt, cIt] at *; omega)) i_4 rfl rfl) rfl ?_
  refine Zg ?_
  refine Zh ?_
  refine Yf (Lq := []) (isq := []) (m := 10) Yo rfl rfl ?_
  refine Zi 0 rfl rfl rfl rfl (by kernel_rfl) (fun _ _ => Zc rfl rfl) ?_
  refine Zi 1 rfl rfl rfl rfl (by kernel_rfl) (fun _ _ => Ze rfl rfl) ?_
  refine Zi 2 rfl rfl rfl rfl (by kernel_rfl) (fun _ _ => Zb (fo := 0) rfl Try.underlying80 rfl i_78 rfl rfl rfl) ?_
  refine Zi 3 rfl rfl rfl rfl (by kernel_rfl) (fun _ _ => Zc rfl rfl) ?_
  refine Zi 4 rfl rfl rfl rfl (by kernel_rfl) (fun _ _ => Ze rfl rfl) ?_
  refine Zi 5 rfl rfl rfl rfl (by kernel_rfl) (fun _ _ => Zj rfl rfl (Zf 0 rfl) (Zt hk) Try.underlying24 rfl) ?_
  refine Zi 6 rfl rfl rfl rfl (by kernel_rfl) (fun _ _ => Yp rfl rfl Try.underlying24 rfl) ?_
  refine Zi 7 rfl rfl rfl rfl (by kernel_rfl) (fun _ _ => (Xt rfl rfl Try.underlying3 Try.underlying23).int (Xm (by omega))) ?_
  refine GH_all [8] (by kernel_rfl) (by decide) ?_
  refine (And.intro ?_ trivial)
  ·
   refine Ye (L2 := [_, _]) rfl rfl rfl rfl rfl rfl Try.call80 (Xv _ (by omega) (by omega)) [] [] rfl rfl [] (by rintro v post ⟨rfl, rfl⟩; exact ⟨_, rfl⟩) ?_
   rintro v post ⟨rfl, rfl⟩
   show GH _ _ _ _ _ _ _ [_, _] _
   refine GH_all [9] (by kernel_rfl) (by decide) ?_
   refine (And.intro ?_ trivial)
   ·
    refine Ye (L2 := []) rfl rfl rfl rfl rfl rfl Try.call79 (Xl _ _ _ _ _ _ _ hp hu (by omega)) [0, 0] [] rfl rfl [] (by rintro v post ⟨rfl, u1, hu1, rfl⟩; exact ⟨_, rfl⟩) ?_
    rintro v post ⟨rfl, u1, hu1, rfl⟩
    show GH _ _ _ _ _ _ _ [_, _] _
    refine Ya (by kernel_rfl) ?_
    refine Zh ?_
    refine Zh ?_
    refine Zd (l := [0, 1, 2, 3, 4]) rfl ?_
    refine Za rfl rfl rfl rfl (Zc rfl rfl) ?_
    refine Za rfl rfl rfl rfl (Ze rfl rfl) ?_
    refine Za rfl rfl rfl rfl (Zj rfl rfl (Zf 0 rfl) (Zt hk) Try.underlying24 rfl) ?_
    refine Za rfl rfl rfl rfl (Yp rfl rfl Try.underlying24 rfl) ?_
    refine Za rfl rfl rfl rfl (Zc rfl rfl) ?_
    refine Zg ?_
    refine Zs ?_
    refine Yi ?he4 [0, 0] ?hl4 (Xb (X := Nat × Value × Sl × List UInt8 × Bool) (fun x_ => match x_ with | ⟨i, p, u, t, v⟩ => i ≤ s.l.length ∧ UsedOr b p ∧ Txt u t ∧ t = tx ++ (chainI (s.l.length : Int) ++ (s.l.take i).flatMap encOp) ∧ v = (w || (decide (1000 < (s.l.length : Int)) || (s.l.take i).any badOp))) (fun x_ => match x_ with | ⟨i, p, u, t, v⟩ => s.l.length - i) (fun x_ => match x_ with | ⟨i, p, u, t, v⟩ => [(0, .pointer (some ⟨b, 0, none⟩)), (1, .pointer (some ⟨bx, k, none⟩)), (2, .func (.func 98) #[.pointer (some ⟨b, 0, none⟩)] #[]), (41, .int .i64 (s.l.length : Int)), (42, .int .i64 (i : Int))]) (fun x_ => match x_ with | ⟨i, p, u, t, v⟩ => [(some b, .cells #[p, u.v (t).length, .pointer none, .bool v] 80 (0, 0)), (u.ob, .cells u.cs 5 u.fz)]) ?round4 (0, .pointer (some ⟨b, 0, none⟩), u1, tx ++ chainI (s.l.length : Int), true) ?h04)
    case he4 => exact (And.intro rfl (And.intro rfl (And.intro rfl (And.intro rfl (And.intro rfl trivial)))))
    case hl4 => exact ⟨_, rfl⟩
    case h04 => exact ⟨Nat.zero_le _, .inr rfl, hu1, by simp, by simp [*]⟩
    case round4 =>
     intro x_ hJ ih
     try dsimp only at hJ ih
     obtain ⟨i, p, u, t, v⟩ := x_
     try dsimp only at hJ ih
     obtain ⟨hi, hp, hu, ht, hv⟩ := hJ
     show G _ _ [(0, .pointer (some ⟨b, 0, none⟩)), (1, .pointer (some ⟨bx, k, none⟩)), (2, .func (.func 98) #[.pointer (some ⟨b, 0, none⟩)] #[]), (41, .int .i64 (s.l.length : Int)), (42, .int .i64 (i : Int))] [(some b, .cells #[p, u.v (t).length, .pointer none, .bool v] 80 (0, 0)), (u.ob, .cells u.cs 5 u.fz)] _
     refine Zh ?_
     refine Zd (l := [0]) rfl ?_
     refine Za rfl rfl rfl rfl (Xn rfl rfl rfl) ?_
     refine Zg ?_
     refine Zh ?_
     refine Yk rfl (fun hc2 => ?_) (fun hc2 => ?_)
     ·
      refine Zu ?_
      refine Zh ?_
      refine Zs ?_
      refine Zh ?_
      refine Zd (l := [0, 1]) rfl ?_
      refine Za rfl rfl rfl rfl (Zc rfl rfl) ?_
      refine Za rfl rfl rfl rfl (Zk rfl rfl) ?_
      refine Zg ?_
      refine Zh ?_
      obtain ⟨x, hx⟩ := getI (show i < s.l.length by omega)
      obtain ⟨bi, hb1, hb2, hss⟩ := hs.isS (i := i) (by omega)
      have hxo := hok x (List.mem_of_getElem? hx)
      have hfl := fmap_len encOp s.l (i + 1)
      rw [← Yx encOp hx, List.length_append] at hfl
      have htl := congrArg List.length ht
      simp only [List.length_append] at htl
      refine Zd (l := [0, 1, 2, 3, 4, 5, 6, 7]) rfl ?_
      refine Za rfl rfl rfl rfl (Zc rfl rfl) ?_
      refine Za rfl rfl rfl rfl (Ze rfl rfl) ?_
      refine Za rfl rfl rfl rfl (Zj rfl rfl (Zf 0 rfl) (Zt hk) Try.underlying24 rfl) ?_
      rw [hb1]
      refine Za rfl rfl rfl rfl (Zc rfl rfl) ?_
      refine Za rfl rfl rfl rfl (Zo (s := 18) rfl Try.underlying24 i_137 rfl rfl rfl rfl (by omega)) ?_
      refine Za rfl rfl rfl rfl (Xp (s := 18) (vs := (cOp x).toArray) rfl rfl (by rw [← hb2]; exact Zf 1 rfl) Try.underlying137 rfl i_137 rfl (hss.elem cOp_len hx) (by rfl)) ?_
      refine Yw rfl rfl rfl rfl (Ym rfl i_137 rfl) (fun b7 => ?_)
      refine Yj (l1 := []) (L' := [_, _, _]) rfl rfl rfl rfl (Yv (s := 18) rfl rfl rfl (Zf 0 rfl) (by rfl) i_137 rfl (by rfl) (by simp [Value.oneCell', cOp, cWk, cIv, cHr, cLt, cWt, cIt])) rfl ?_
      refine Zg ?_
      refine Zd (l := [0, 1]) rfl ?_
      refine Za rfl rfl rfl rfl (Zc rfl rfl) ?_
      refine G_callB (L2 := [_]) rfl rfl rfl rfl rfl rfl Try.call98 rfl (cw_op b _ _ _ _ hp hu _ x _ _ hxo (by omega)) [1, 1] [2] rfl rfl ?_
      rintro v post ⟨rfl, p1, u1, hp1, hu1, rfl⟩
      show G _ _ _ [_, _, _] _
      refine Zg ?_
      refine Zv ?_
      refine Zd (l := [0, 1]) rfl ?_
      refine Za rfl rfl rfl rfl ((Xe rfl rfl rfl).int (Zw (by omega))) ?_
      refine Za rfl rfl rfl rfl (Zc rfl rfl) ?_
      refine Zg ?_
      refine Yi ?_ [0, 0] ?_ (ih (i + 1, p1, u1, t ++ encOp x, v || badOp x) ?_ ?_)
      · (refine (And.intro ?_ (And.intro ?_ (And.intro ?_ (And.intro ?_ (And.intro ?_ trivial))))) <;> first | rfl | exact Zl (by omega) | exact Zl (by simp))
      · exact ⟨_, rfl⟩
      · exact ⟨by omega, hp1, hu1, by rw [← Yx encOp hx, ht]; simp only [List.append_assoc], by rw [hv, ← anyt_next hx]; simp only [Bool.or_assoc]⟩
      · (first | omega | (dsimp only; omega))
     refine Yr rfl ?_
     refine Yy (post := [_, _]) Try.func97 rfl Zp [0, 0] rfl ?_
     dsimp only [packed]
     have e : s.l.take i = s.l := List.take_of_length_le (by omega)
     rw [e] at ht hv
     subst ht hv
     exact ⟨rfl, p, u, hp, hu, rfl⟩
 refine Za rfl rfl rfl rfl (Zc rfl rfl) ?_
 refine Za rfl rfl rfl rfl (Ze rfl rfl) ?_
 refine Za rfl rfl rfl rfl (Zj rfl rfl (Zf 0 rfl) (Zt hk) Try.underlying24 rfl) ?_
 refine Za rfl rfl rfl rfl (Yp rfl rfl Try.underlying24 rfl) ?_
 refine Za rfl rfl rfl rfl (V_gtr rfl rfl rfl) ?_
 refine Za rfl rfl rfl rfl (Xg rfl rfl rfl) ?_
 refine Za rfl rfl rfl rfl (Ze rfl rfl) ?_
 refine Za rfl rfl rfl rfl (Zb (fo := 3) rfl Try.underlying80 rfl i_4 rfl rfl rfl) ?_
 refine Yj (l1 := []) (L' := [_, _]) rfl rfl rfl rfl (Zm rfl rfl rfl (Zf 0 rfl) (by first | exact of_decide_eq_true rfl | omega | (simp [cOp, cWk, cIv, cHr, cLt, cWt, cIt]; done) | (simp [cOp, cWk, cIv, cHr, cLt, cWt, cIt]; omega) | (simp [cOp, cWk, cIv, cHr, cLt, cWt, cIt] at *; omega)) i_4 rfl rfl) rfl ?_
 refine Zg ?_
 refine Zh ?_
 refine Yf (Lq := []) (isq := []) (m := 10) Yo rfl rfl ?_
 refine Zi 0 rfl rfl rfl rfl (by kernel_rfl) (fun _ _ => Zc rfl rfl) ?_
 refine Zi 1 rfl rfl rfl rfl (by kernel_rfl) (fun _ _ => Ze rfl rfl) ?_
 refine Zi 2 rfl rfl rfl rfl (by kernel_rfl) (fun _ _ => Zb (fo := 0) rfl Try.underlying80 rfl i_78 rfl rfl rfl) ?_
 refine Zi 3 rfl rfl rfl rfl (by kernel_rfl) (fun _ _ => Zc rfl rfl) ?_
 refine Zi 4 rfl rfl rfl rfl (by kernel_rfl) (fun _ _ => Ze rfl rfl) ?_
 refine Zi 5 rfl rfl rfl rfl (by kernel_rfl) (fun _ _ => Zj rfl rfl (Zf 0 rfl) (Zt hk) Try.underlying24 rfl) ?_
 refine Zi 6 rfl rfl rfl rfl (by kernel_rfl) (fun _ _ => Yp rfl rfl Try.underlying24 rfl) ?_
 refine Zi 7 rfl rfl rfl rfl (by kernel_rfl) (fun _ _ => (Xt rfl rfl Try.underlying3 Try.underlying23).int (Xm (by omega))) ?_
 refine GH_all [8] (by kernel_rfl) (by decide) ?_
 refine (And.intro ?_ trivial)
 ·
  refine Ye (L2 := [_, _]) rfl rfl rfl rfl rfl rfl Try.call80 (Xv _ (by omega) (by omega)) [] [] rfl rfl [] (by rintro v post ⟨rfl, rfl⟩; exact ⟨_, rfl⟩) ?_
  rintro v post ⟨rfl, rfl⟩
  show GH _ _ _ _ _ _ _ [_, _] _
  refine GH_all [9] (by kernel_rfl) (by decide) ?_
  refine (And.intro ?_ trivial)
  ·
   refine Ye (L2 := []) rfl rfl rfl rfl rfl rfl Try.call79 (Xl _ _ _ _ _ _ _ hp hu (by omega)) [0, 0] [] rfl rfl [] (by rintro v post ⟨rfl, u1, hu1, rfl⟩; exact ⟨_, rfl⟩) ?_
   rintro v post ⟨rfl, u1, hu1, rfl⟩
   show GH _ _ _ _ _ _ _ [_, _] _
   refine Ya (by kernel_rfl) ?_
   refine Zh ?_
   refine Zh ?_
   refine Zd (l := [0, 1, 2, 3, 4]) rfl ?_
   refine Za rfl rfl rfl rfl (Zc rfl rfl) ?_
   refine Za rfl rfl rfl rfl (Ze rfl rfl) ?_
   refine Za rfl rfl rfl rfl (Zj rfl rfl (Zf 0 rfl) (Zt hk) Try.underlying24 rfl) ?_
   refine Za rfl rfl rfl rfl (Yp rfl rfl Try.underlying24 rfl) ?_
   refine Za rfl rfl rfl rfl (Zc rfl rfl) ?_
   refine Zg ?_
   refine Zs ?_
   refine Yi ?he4 [0, 0] ?hl4 (Xb (X := Nat × Value × Sl × List UInt8 × Bool) (fun x_ => match x_ with | ⟨i, p, u, t, v⟩ => i ≤ s.l.length ∧ UsedOr b p ∧ Txt u t ∧ t = tx ++ (chainI (s.l.length : Int) ++ (s.l.take i).flatMap encOp) ∧ v = (w || (decide (1000 < (s.l.length : Int)) || (s.l.take i).any badOp))) (fun x_ => match x_ with | ⟨i, p, u, t, v⟩ => s.l.length - i) (fun x_ => match x_ with | ⟨i, p, u, t, v⟩ => [(0, .pointer (some ⟨b, 0, none⟩)), (1, .pointer (some ⟨bx, k, none⟩)), (2, .func (.func 98) #[.pointer (some ⟨b, 0, none⟩)] #[]), (41, .int .i64 (s.l.length : Int)), (42, .int .i64 (i : Int))]) (fun x_ => match x_ with | ⟨i, p, u, t, v⟩ => [(some b, .cells #[p, u.v (t).length, .pointer none, .bool v] 80 (0, 0)), (u.ob, .cells u.cs 5 u.fz)]) ?round4 (0, .pointer (some ⟨b, 0, none⟩), u1, tx ++ chainI (s.l.length : Int), (decide (1000 < (s.l.length : Int)))) ?h04)
   case he4 => exact (And.intro rfl (And.intro rfl (And.intro rfl (And.intro rfl (And.intro rfl trivial)))))
   case hl4 => exact ⟨_, rfl⟩
   case h04 => exact ⟨Nat.zero_le _, .inr rfl, hu1, by simp, by simp [*]⟩
   case round4 =>
    intro x_ hJ ih
    try dsimp only at hJ ih
    obtain ⟨i, p, u, t, v⟩ := x_
    try dsimp only at hJ ih
    obtain ⟨hi, hp, hu, ht, hv⟩ := hJ
    show G _ _ [(0, .pointer (some ⟨b, 0, none⟩)), (1, .pointer (some ⟨bx, k, none⟩)), (2, .func (.func 98) #[.pointer (some ⟨b, 0, none⟩)] #[]), (41, .int .i64 (s.l.length : Int)), (42, .int .i64 (i : Int))] [(some b, .cells #[p, u.v (t).length, .pointer none, .bool v] 80 (0, 0)), (u.ob, .cells u.cs 5 u.fz)] _
    refine Zh ?_
    refine Zd (l := [0]) rfl ?_
    refine Za rfl rfl rfl rfl (Xn rfl rfl rfl) ?_
    refine Zg ?_
    refine Zh ?_
    refine Yk rfl (fun hc2 => ?_) (fun hc2 => ?_)
    ·
     refine Zu ?_
     refine Zh ?_
     refine Zs ?_
     refine Zh ?_
     refine Zd (l := [0, 1]) rfl ?_
     refine Za rfl rfl rfl rfl (Zc rfl rfl) ?_
     refine Za rfl rfl rfl rfl (Zk rfl rfl) ?_
     refine Zg ?_
     refine Zh ?_
     obtain ⟨x, hx⟩ := getI (show i < s.l.length by omega)
     obtain ⟨bi, hb1, hb2, hss⟩ := hs.isS (i := i) (by omega)
     have hxo := hok x (List.mem_of_getElem? hx)
     have hfl := fmap_len encOp s.l (i + 1)
     rw [← Yx encOp hx, List.length_append] at hfl
     have htl := congrArg List.length ht
     simp only [List.length_append] at htl
     refine Zd (l := [0, 1, 2, 3, 4, 5, 6, 7]) rfl ?_
     refine Za rfl rfl rfl rfl (Zc rfl rfl) ?_
     refine Za rfl rfl rfl rfl (Ze rfl rfl) ?_
     refine Za rfl rfl rfl rfl (Zj rfl rfl (Zf 0 rfl) (Zt hk) Try.underlying24 rfl) ?_
     rw [hb1]
     refine Za rfl rfl rfl rfl (Zc rfl rfl) ?_
     refine Za rfl rfl rfl rfl (Zo (s := 18) rfl Try.underlying24 i_137 rfl rfl rfl rfl (by omega)) ?_
     refine Za rfl rfl rfl rfl (Xp (s := 18) (vs := (cOp x).toArray) rfl rfl (by rw [← hb2]; exact Zf 1 rfl) Try.underlying137 rfl i_137 rfl (hss.elem cOp_len hx) (by rfl)) ?_
     refine Yw rfl rfl rfl rfl (Ym rfl i_137 rfl) (fun b7 => ?_)
     refine Yj (l1 := []) (L' := [_, _, _]) rfl rfl rfl rfl (Yv (s := 18) rfl rfl rfl (Zf 0 rfl) (by rfl) i_137 rfl (by rfl) (by simp [Value.oneCell', cOp, cWk, cIv, cHr, cLt, cWt, cIt])) rfl ?_
     refine Zg ?_
     refine Zd (l := [0, 1]) rfl ?_
     refine Za rfl rfl rfl rfl (Zc rfl rfl) ?_
     refine G_callB (L2 := [_]) rfl rfl rfl rfl rfl rfl Try.call98 rfl (cw_op b _ _ _ _ hp hu _ x _ _ hxo (by omega)) [1, 1] [2] rfl rfl ?_
     rintro v post ⟨rfl, p1, u1, hp1, hu1, rfl⟩
     show G _ _ _ [_, _, _] _
     refine Zg ?_
     refine Zv ?_
     refine Zd (l := [0, 1]) rfl ?_
     refine Za rfl rfl rfl rfl ((Xe rfl rfl rfl).int (Zw (by omega))) ?_
     refine Za rfl rfl rfl rfl (Zc rfl rfl) ?_
     refine Zg ?_
     refine Yi ?_ [0, 0] ?_ (ih (i + 1, p1, u1, t ++ encOp x, v || badOp x) ?_ ?_)
     · (refine (And.intro ?_ (And.intro ?_ (And.intro ?_ (And.intro ?_ (And.intro ?_ trivial))))) <;> first | rfl | exact Zl (by omega) | exact Zl (by simp))
     · exact ⟨_, rfl⟩
     · exact ⟨by omega, hp1, hu1, by rw [← Yx encOp hx, ht]; simp only [List.append_assoc], by rw [hv, ← anyt_next hx]; simp only [Bool.or_assoc]⟩
     · (first | omega | (dsimp only; omega))
    refine Yr rfl ?_
    refine Yy (post := [_, _]) Try.func97 rfl Zp [0, 0] rfl ?_
    dsimp only [packed]
    have e : s.l.take i = s.l := List.take_of_length_le (by omega)
    rw [e] at ht hv
    subst ht hv
    exact ⟨rfl, p, u, hp, hu, rfl⟩

set_option maxRecDepth 100000 in
set_option maxHeartbeats 1000000 in
theorem cw_listWk (b : Nat) (p : Value) (u : Sl) (tx : List UInt8) (w : Bool) (hp : UsedOr b p) (hu : Txt u tx) (bx k : Nat) (cs : Array Value) (T : TypeId) (fz : Nat × Nat) (s : Ins Wk) (hs : InsOk 7 cWk s) (hok : ∀ x ∈ s.l, OkWk x) (hk : cs[k]? = some (.slice s.p s.l.length s.cap)) (hl : tx.length + (encL encWk s.l).length ≤ 140737488350000) :
    Ct Try.prog 99 [.pointer (some ⟨b, 0, none⟩), .pointer (some ⟨bx, k, none⟩), .func (.func 100) #[.pointer (some ⟨b, 0, none⟩)] #[]] [(some bx, .cells cs T fz), (s.ob, .cells s.cs s.T s.fr)] [(some b, .cells #[p, u.v (tx).length, .pointer none, .bool w] 80 (0, 0)), (u.ob, .cells u.cs 5 u.fz)] fun v post => v = .tuple #[] ∧ ∃ p1 u1, UsedOr b p1 ∧ Txt u1 (tx ++ encL encWk s.l) ∧ post = [(some b, .cells #[p1, u1.v (tx ++ encL encWk s.l).length, .pointer none, .bool (w || badL badWk s.l)] 80 (0, 0)), (u1.ob, .cells u1.cs 5 u1.fz)] := by
 have hl1 := hs.le
 have hl2 := hs.max
 have hln := hs.n
 have hcl := chainI_len (s.l.length : Int) (by omega) (by omega)
 have hl_ := hl
 unfold encL at hl_
 simp only [List.length_append] at hl_
 refine Yu Try.func99 rfl rfl (fun w0 => ?_)
 show G _ _ [(0, _), (1, _), (2, _)] _ _
 refine Zh ?_
 refine Zh ?_
 refine Zd (l := [0, 1, 2, 3, 4]) rfl ?_
 refine Za rfl rfl rfl rfl (Zc rfl rfl) ?_
 refine Za rfl rfl rfl rfl (Ze rfl rfl) ?_
 refine Za rfl rfl rfl rfl (Zb (fo := 2) rfl Try.underlying80 rfl i_74 rfl rfl rfl) ?_
 refine Za rfl rfl rfl rfl (Zj rfl rfl (Zf 2 rfl) rfl Try.underlying74 rfl) ?_
 refine Za rfl rfl rfl rfl (V_peqlN rfl Try.underlying74 rfl rfl) ?_
 refine Zg ?_
 refine G_then rfl ?_
 refine Zh ?_
 refine Zd (l := [0, 1, 2, 3, 4, 5, 6, 7, 8, 9, 10, 11, 12, 13, 14]) rfl ?_
 refine Za rfl rfl rfl rfl (Zc rfl rfl) ?_
 refine Za rfl rfl rfl rfl (Zc rfl rfl) ?_
 refine Za rfl rfl rfl rfl (Ze rfl rfl) ?_
 refine Za rfl rfl rfl rfl (Zb (fo := 3) rfl Try.underlying80 rfl i_4 rfl rfl rfl) ?_
 refine Za rfl rfl rfl rfl (Zj rfl rfl (Zf 2 rfl) rfl Try.underlying4 rfl) ?_
 refine Za rfl rfl rfl rfl (Zc rfl rfl) ?_
 refine G_split 19 rfl (fun hc1 => ?_) (fun hc1 => ?_)
 ·
  refine Yb rfl rfl rfl rfl ?_
  refine Yb rfl rfl rfl rfl ?_
  refine Yb rfl rfl rfl rfl ?_
  refine Yb rfl rfl rfl rfl ?_
  refine Yb rfl rfl rfl rfl ?_
  refine Za rfl rfl rfl rfl (Yz rfl rfl rfl) ?_
  refine Za rfl rfl rfl rfl (Ze rfl rfl) ?_
  refine Za rfl rfl rfl rfl (Zb (fo := 3) rfl Try.underlying80 rfl i_4 rfl rfl rfl) ?_
  refine Yj (l1 := []) (L' := [_, _]) rfl rfl rfl rfl (Zm rfl rfl rfl (Zf 0 rfl) (by first | exact of_decide_eq_true rfl | omega | (simp [cOp, cWk, cIv, cHr, cLt, cWt, cIt]; done) | (simp [cOp, cWk, cIv, cHr, cLt, cWt, cIt]; omega) | (simp [cOp, cWk, cIv, cHr, cLt, cWt, cIt] at *; omega)) i_4 rfl rfl) rfl ?_
  refine Zg ?_
  refine Zh ?_
  refine Yf (Lq := []) (isq := []) (m := 10) Yo rfl rfl ?_
  refine Zi 0 rfl rfl rfl rfl (by kernel_rfl) (fun _ _ => Zc rfl rfl) ?_
  refine Zi 1 rfl rfl rfl rfl (by kernel_rfl) (fun _ _ => Ze rfl rfl) ?_
  refine Zi 2 rfl rfl rfl rfl (by kernel_rfl) (fun _ _ => Zb (fo := 0) rfl Try.underlying80 rfl i_78 rfl rfl rfl) ?_
  refine Zi 3 rfl rfl rfl rfl (by kernel_rfl) (fun _ _ => Zc rfl rfl) ?_
  refine Zi 4 rfl rfl rfl rfl (by kernel_rfl) (fun _ _ => Ze rfl rfl) ?_
  refine Zi 5 rfl rfl rfl rfl (by kernel_rfl) (fun _ _ => Zj rfl rfl (Zf 0 rfl) (Zt hk) Try.underlying25 rfl) ?_
  refine Zi 6 rfl rfl rfl rfl (by kernel_rfl) (fun _ _ => Yp rfl rfl Try.underlying25 rfl) ?_
  refine Zi 7 rfl rfl rfl rfl (by kernel_rfl) (fun _ _ => (Xt rfl rfl Try.underlying3 Try.underlying23).int (Xm (by omega))) ?_
  refine GH_all [8] (by kernel_rfl) (by decide) ?_
  refine (And.intro ?_ trivial)
  ·
   refine Ye (L2 := [_, _]) rfl rfl rfl rfl rfl rfl Try.call80 (Xv _ (by omega) (by omega)) [] [] rfl rfl [] (by rintro v post ⟨rfl, rfl⟩; exact ⟨_, rfl⟩) ?_
   rintro v post ⟨rfl, rfl⟩
   show GH _ _ _ _ _ _ _ [_, _] _
   refine GH_all [9] (by kernel_rfl) (by decide) ?_
   refine (And.intro ?_ trivial)
   ·
    refine Ye (L2 := []) rfl rfl rfl rfl rfl rfl Try.call79 (Xl _ _ _ _ _ _ _ hp hu (by omega)) [0, 0] [] rfl rfl [] (by rintro v post ⟨rfl, u1, hu1, rfl⟩; exact ⟨_, rfl⟩) ?_
    rintro v post ⟨rfl, u1, hu1, rfl⟩
    show GH _ _ _ _ _ _ _ [_, _] _
    refine Ya (by kernel_rfl) ?_
    refine Zh ?_
    refine Zh ?_
    refine Zd (l := [0, 1, 2, 3, 4]) rfl ?_
    refine Za rfl rfl rfl rfl (Zc rfl rfl) ?_
    refine Za rfl rfl rfl rfl (Ze rfl rfl) ?_
    refine Za rfl rfl rfl rfl (Zj rfl rfl (Zf 0 rfl) (Zt hk) Try.underlying25 rfl) ?_
    refine Za rfl rfl rfl rfl (Yp rfl rfl Try.underlying25 rfl) ?_
    refine Za rfl rfl rfl rfl (Zc rfl rfl) ?_
    refine Zg ?_
    refine Zs ?_
    refine Yi ?he4 [0, 0] ?hl4 (Xb (X := Nat × Value × Sl × List UInt8 × Bool) (fun x_ => match x_ with | ⟨i, p, u, t, v⟩ => i ≤ s.l.length ∧ UsedOr b p ∧ Txt u t ∧ t = tx ++ (chainI (s.l.length : Int) ++ (s.l.take i).flatMap encWk) ∧ v = (w || (decide (1000 < (s.l.length : Int)) || (s.l.take i).any badWk))) (fun x_ => match x_ with | ⟨i, p, u, t, v⟩ => s.l.length - i) (fun x_ => match x_ with | ⟨i, p, u, t, v⟩ => [(0, .pointer (some ⟨b, 0, none⟩)), (1, .pointer (some ⟨bx, k, none⟩)), (2, .func (.func 100) #[.pointer (some ⟨b, 0, none⟩)] #[]), (41, .int .i64 (s.l.length : Int)), (42, .int .i64 (i : Int))]) (fun x_ => match x_ with | ⟨i, p, u, t, v⟩ => [(some b, .cells #[p, u.v (t).length, .pointer none, .bool v] 80 (0, 0)), (u.ob, .cells u.cs 5 u.fz)]) ?round4 (0, .pointer (some ⟨b, 0, none⟩), u1, tx ++ chainI (s.l.length : Int), true) ?h04)
    case he4 => exact (And.intro rfl (And.intro rfl (And.intro rfl (And.intro rfl (And.intro rfl trivial)))))
    case hl4 => exact ⟨_, rfl⟩
    case h04 => exact ⟨Nat.zero_le _, .inr rfl, hu1, by simp, by simp [*]⟩
    case round4 =>
     intro x_ hJ ih
     try dsimp only at hJ ih
     obtain ⟨i, p, u, t, v⟩ := x_
     try dsimp only at hJ ih
     obtain ⟨hi, hp, hu, ht, hv⟩ := hJ
     show G _ _ [(0, .pointer (some ⟨b, 0, none⟩)), (1, .pointer (some ⟨bx, k, none⟩)), (2, .func (.func 100) #[.pointer (some ⟨b, 0, none⟩)] #[]), (41, .int .i64 (s.l.length : Int)), (42, .int .i64 (i : Int))] [(some b, .cells #[p, u.v (t).length, .pointer none, .bool v] 80 (0, 0)), (u.ob, .cells u.cs 5 u.fz)] _
     refine Zh ?_
     refine Zd (l := [0]) rfl ?_
     refine Za rfl rfl rfl rfl (Xn rfl rfl rfl) ?_
     refine Zg ?_
     refine Zh ?_
     refine Yk rfl (fun hc2 => ?_) (fun hc2 => ?_)
     ·
      refine Zu ?_
      refine Zh ?_
      refine Zs ?_
      refine Zh ?_
      refine Zd (l := [0, 1]) rfl ?_
      refine Za rfl rfl rfl rfl (Zc rfl rfl) ?_
      refine Za rfl rfl rfl rfl (Zk rfl rfl) ?_
      refine Zg ?_
      refine Zh ?_
      obtain ⟨x, hx⟩ := getI (show i < s.l.length by omega)
      obtain ⟨bi, hb1, hb2, hss⟩ := hs.isS (i := i) (by omega)
      have hxo := hok x (List.mem_of_getElem? hx)
      have hfl := fmap_len encWk s.l (i + 1)
      rw [← Yx encWk hx, List.length_append] at hfl
      have htl := congrArg List.length ht
      simp only [List.length_append] at htl
      refine Zd (l := [0, 1, 2, 3, 4, 5, 6, 7]) rfl ?_
      refine Za rfl rfl rfl rfl (Zc rfl rfl) ?_
      refine Za rfl rfl rfl rfl (Ze rfl rfl) ?_
      refine Za rfl rfl rfl rfl (Zj rfl rfl (Zf 0 rfl) (Zt hk) Try.underlying25 rfl) ?_
      rw [hb1]
      refine Za rfl rfl rfl rfl (Zc rfl rfl) ?_
      refine Za rfl rfl rfl rfl (Zo (s := 7) rfl Try.underlying25 i_92 rfl rfl rfl rfl (by omega)) ?_
      refine Za rfl rfl rfl rfl (Xp (s := 7) (vs := (cWk x).toArray) rfl rfl (by rw [← hb2]; exact Zf 1 rfl) Try.underlying92 rfl i_92 rfl (hss.elem cWk_len hx) (by rfl)) ?_
      refine Yw rfl rfl rfl rfl (Ym rfl i_92 rfl) (fun b7 => ?_)
      refine Yj (l1 := []) (L' := [_, _, _]) rfl rfl rfl rfl (Yv (s := 7) rfl rfl rfl (Zf 0 rfl) (by rfl) i_92 rfl (by rfl) (by simp [Value.oneCell', cOp, cWk, cIv, cHr, cLt, cWt, cIt])) rfl ?_
      refine Zg ?_
      refine Zd (l := [0, 1]) rfl ?_
      refine Za rfl rfl rfl rfl (Zc rfl rfl) ?_
      refine G_callB (L2 := [_]) rfl rfl rfl rfl rfl rfl Try.call100 rfl (cw_worker b _ _ _ _ hp hu _ x _ _ hxo (by omega)) [1, 1] [2] rfl rfl ?_
      rintro v post ⟨rfl, p1, u1, hp1, hu1, rfl⟩
      show G _ _ _ [_, _, _] _
      refine Zg ?_
      refine Zv ?_
      refine Zd (l := [0, 1]) rfl ?_
      refine Za rfl rfl rfl rfl ((Xe rfl rfl rfl).int (Zw (by omega))) ?_
      refine Za rfl rfl rfl rfl (Zc rfl rfl) ?_
      refine Zg ?_
      refine Yi ?_ [0, 0] ?_ (ih (i + 1, p1, u1, t ++ encWk x, v || badWk x) ?_ ?_)
      · (refine (And.intro ?_ (And.intro ?_ (And.intro ?_ (And.intro ?_ (And.intro ?_ trivial))))) <;> first | rfl | exact Zl (by omega) | exact Zl (by simp))
      · exact ⟨_, rfl⟩
      · exact ⟨by omega, hp1, hu1, by rw [← Yx encWk hx, ht]; simp only [List.append_assoc], by rw [hv, ← anyt_next hx]; simp only [Bool.or_assoc]⟩
      · (first | omega | (dsimp only; omega))
     refine Yr rfl ?_
     refine Yy (post := [_, _]) Try.func99 rfl Zp [0, 0] rfl ?_
     dsimp only [packed]
     have e : s.l.take i = s.l := List.take_of_length_le (by omega)
     rw [e] at ht hv
     subst ht hv
     exact ⟨rfl, p, u, hp, hu, rfl⟩
 refine Za rfl rfl rfl rfl (Zc rfl rfl) ?_
 refine Za rfl rfl rfl rfl (Ze rfl rfl) ?_
 refine Za rfl rfl rfl rfl (Zj rfl rfl (Zf 0 rfl) (Zt hk) Try.underlying25 rfl) ?_
 refine Za rfl rfl rfl rfl (Yp rfl rfl Try.underlying25 rfl) ?_
 refine Za rfl rfl rfl rfl (V_gtr rfl rfl rfl) ?_
 refine Za rfl rfl rfl rfl (Xg rfl rfl rfl) ?_
 refine Za rfl rfl rfl rfl (Ze rfl rfl) ?_
 refine Za rfl rfl rfl rfl (Zb (fo := 3) rfl Try.underlying80 rfl i_4 rfl rfl rfl) ?_
 refine Yj (l1 := []) (L' := [_, _]) rfl rfl rfl rfl (Zm rfl rfl rfl (Zf 0 rfl) (by first | exact of_decide_eq_true rfl | omega | (simp [cOp, cWk, cIv, cHr, cLt, cWt, cIt]; done) | (simp [cOp, cWk, cIv, cHr, cLt, cWt, cIt]; omega) | (simp [cOp, cWk, cIv, cHr, cLt, cWt, cIt] at *; omega)) i_4 rfl rfl) rfl ?_
 refine Zg ?_
 refine Zh ?_
 refine Yf (Lq := []) (isq := []) (m := 10) Yo rfl rfl ?_
 refine Zi 0 rfl rfl rfl rfl (by kernel_rfl) (fun _ _ => Zc rfl rfl) ?_
 refine Zi 1 rfl rfl rfl rfl (by kernel_rfl) (fun _ _ => Ze rfl rfl) ?_
 refine Zi 2 rfl rfl rfl rfl (by kernel_rfl) (fun _ _ => Zb (fo := 0) rfl Try.underlying80 rfl i_78 rfl rfl rfl) ?_
 refine Zi 3 rfl rfl rfl rfl (by kernel_rfl) (fun _ _ => Zc rfl rfl) ?_
 refine Zi 4 rfl rfl rfl rfl (by kernel_rfl) (fun _ _ => Ze rfl rfl) ?_
 refine Zi 5 rfl rfl rfl rfl (by kernel_rfl) (fun _ _ => Zj rfl rfl (Zf 0 rfl) (Zt hk) Try.underlying25 rfl) ?_
 refine Zi 6 rfl rfl rfl rfl (by kernel_rfl) (fun _ _ => Yp rfl rfl Try.underlying25 rfl) ?_
 refine Zi 7 rfl rfl rfl rfl (by kernel_rfl) (fun _ _ => (Xt rfl rfl Try.underlying3 Try.underlying23).int (Xm (by omega))) ?_
 refine GH_all [8] (by kernel_rfl) (by decide) ?_
 refine (And.intro ?_ trivial)
 ·
  refine Ye (L2 := [_, _]) rfl rfl rfl rfl rfl rfl Try.call80 (Xv _ (by omega) (by omega)) [] [] rfl rfl [] (by rintro v post ⟨rfl, rfl⟩; exact ⟨_, rfl⟩) ?_
  rintro v post ⟨rfl, rfl⟩
  show GH _ _ _ _ _ _ _ [_, _] _
  refine GH_all [9] (by kernel_rfl) (by decide) ?_
  refine (And.intro ?_ trivial)
  ·
   refine Ye (L2 := []) rfl rfl rfl rfl rfl rfl Try.call79 (Xl _ _ _ _ _ _ _ hp hu (by omega)) [0, 0] [] rfl rfl [] (by rintro v post ⟨rfl, u1, hu1, rfl⟩; exact ⟨_, rfl⟩) ?_
   rintro v post ⟨rfl, u1, hu1, rfl⟩
   show GH _ _ _ _ _ _ _ [_, _] _
   refine Ya (by kernel_rfl) ?_
   refine Zh ?_
   refine Zh ?_
   refine Zd (l := [0, 1, 2, 3, 4]) rfl ?_
   refine Za rfl rfl rfl rfl (Zc rfl rfl) ?_
   refine Za rfl rfl rfl rfl (Ze rfl rfl) ?_
   refine Za rfl rfl rfl rfl (Zj rfl rfl (Zf 0 rfl) (Zt hk) Try.underlying25 rfl) ?_
   refine Za rfl rfl rfl rfl (Yp rfl rfl Try.underlying25 rfl) ?_
   refine Za rfl rfl rfl rfl (Zc rfl rfl) ?_
   refine Zg ?_
   refine Zs ?_
   refine Yi ?he4 [0, 0] ?hl4 (Xb (X := Nat × Value × Sl × List UInt8 × Bool) (fun x_ => match x_ with | ⟨i, p, u, t, v⟩ => i ≤ s.l.length ∧ UsedOr b p ∧ Txt u t ∧ t = tx ++ (chainI (s.l.length : Int) ++ (s.l.take i).flatMap encWk) ∧ v = (w || (decide (1000 < (s.l.length : Int)) || (s.l.take i).any badWk))) (fun x_ => match x_ with | ⟨i, p, u, t, v⟩ => s.l.length - i) (fun x_ => match x_ with | ⟨i, p, u, t, v⟩ => [(0, .pointer (some ⟨b, 0, none⟩)), (1, .pointer (some ⟨bx, k, none⟩)), (2, .func (.func 100) #[.pointer (some ⟨b, 0, none⟩)] #[]), (41, .int .i64 (s.l.length : Int)), (42, .int .i64 (i : Int))]) (fun x_ => match x_ with | ⟨i, p, u, t, v⟩ => [(some b, .cells #[p, u.v (t).length, .pointer none, .bool v] 80 (0, 0)), (u.ob, .cells u.cs 5 u.fz)]) ?round4 (0, .pointer (some ⟨b, 0, none⟩), u1, tx ++ chainI (s.l.length : Int), (decide (1000 < (s.l.length : Int)))) ?h04)
   case he4 => exact (And.intro rfl (And.intro rfl (And.intro rfl (And.intro rfl (And.intro rfl trivial)))))
   case hl4 => exact ⟨_, rfl⟩
   case h04 => exact ⟨Nat.zero_le _, .inr rfl, hu1, by simp, by simp [*]⟩
   case round4 =>
    intro x_ hJ ih
    try dsimp only at hJ ih
    obtain ⟨i, p, u, t, v⟩ := x_
    try dsimp only at hJ ih
    obtain ⟨hi, hp, hu, ht, hv⟩ := hJ
    show G _ _ [(0, .pointer (some ⟨b, 0, none⟩)), (1, .pointer (some ⟨bx, k, none⟩)), (2, .func (.func 100) #[.pointer (some ⟨b, 0, none⟩)] #[]), (41, .int .i64 (s.l.length : Int)), (42, .int .i64 (i : Int))] [(some b, .cells #[p, u.v (t).length, .pointer none, .bool v] 80 (0, 0)), (u.ob, .cells u.cs 5 u.fz)] _
    refine Zh ?_
    refine Zd (l := [0]) rfl ?_
    refine Za rfl rfl rfl rfl (Xn rfl rfl rfl) ?_
    refine Zg ?_
    refine Zh ?_
    refine Yk rfl (fun hc2 => ?_) (fun hc2 => ?_)
    ·
     refine Zu ?_
     refine Zh ?_
     refine Zs ?_
     refine Zh ?_
     refine Zd (l := [0, 1]) rfl ?_
     refine Za rfl rfl rfl rfl (Zc rfl rfl) ?_
     refine Za rfl rfl rfl rfl (Zk rfl rfl) ?_
     refine Zg ?_
     refine Zh ?_
     obtain ⟨x, hx⟩ := getI (show i < s.l.length by omega)
     obtain ⟨bi, hb1, hb2, hss⟩ := hs.isS (i := i) (by omega)
     have hxo := hok x (List.mem_of_getElem? hx)
     have hfl := fmap_len encWk s.l (i + 1)
     rw [← Yx encWk hx, List.length_append] at hfl
     have htl := congrArg List.length ht
     simp only [List.length_append] at htl
     refine Zd (l := [0, 1, 2, 3, 4, 5, 6, 7]) rfl ?_
     refine Za rfl rfl rfl rfl (Zc rfl rfl) ?_
     refine Za rfl rfl rfl rfl (Ze rfl rfl) ?_
     refine Za rfl rfl rfl rfl (Zj rfl rfl (Zf 0 rfl) (Zt hk) Try.underlying25 rfl) ?_
     rw [hb1]
     refine Za rfl rfl rfl rfl (Zc rfl rfl) ?_
     refine Za rfl rfl rfl rfl (Zo (s := 7) rfl Try.underlying25 i_92 rfl rfl rfl rfl (by omega)) ?_
     refine Za rfl rfl rfl rfl (Xp (s := 7) (vs := (cWk x).toArray) rfl rfl (by rw [← hb2]; exact Zf 1 rfl) Try.underlying92 rfl i_92 rfl (hss.elem cWk_len hx) (by rfl)) ?_
     refine Yw rfl rfl rfl rfl (Ym rfl i_92 rfl) (fun b7 => ?_)
     refine Yj (l1 := []) (L' := [_, _, _]) rfl rfl rfl rfl (Yv (s := 7) rfl rfl rfl (Zf 0 rfl) (by rfl) i_92 rfl (by rfl) (by simp [Value.oneCell', cOp, cWk, cIv, cHr, cLt, cWt, cIt])) rfl ?_
     refine Zg ?_
     refine Zd (l := [0, 1]) rfl ?_
     refine Za rfl rfl rfl rfl (Zc rfl rfl) ?_
     refine G_callB (L2 := [_]) rfl rfl rfl rfl rfl rfl Try.call100 rfl (cw_worker b _ _ _ _ hp hu _ x _ _ hxo (by omega)) [1, 1] [2] rfl rfl ?_
     rintro v post ⟨rfl, p1, u1, hp1, hu1, rfl⟩
     show G _ _ _ [_, _, _] _
     refine Zg ?_
     refine Zv ?_
     refine Zd (l := [0, 1]) rfl ?_
     refine Za rfl rfl rfl rfl ((Xe rfl rfl rfl).int (Zw (by omega))) ?_
     refine Za rfl rfl rfl rfl (Zc rfl rfl) ?_
     refine Zg ?_
     refine Yi ?_ [0, 0] ?_ (ih (i + 1, p1, u1, t ++ encWk x, v || badWk x) ?_ ?_)
     · (refine (And.intro ?_ (And.intro ?_ (And.intro ?_ (And.intro ?_ (And.intro ?_ trivial))))) <;> first | rfl | exact Zl (by omega) | exact Zl (by simp))
     · exact ⟨_, rfl⟩
     · exact ⟨by omega, hp1, hu1, by rw [← Yx encWk hx, ht]; simp only [List.append_assoc], by rw [hv, ← anyt_next hx]; simp only [Bool.or_assoc]⟩
     · (first | omega | (dsimp only; omega))
    refine Yr rfl ?_
    refine Yy (post := [_, _]) Try.func99 rfl Zp [0, 0] rfl ?_
    dsimp only [packed]
    have e : s.l.take i = s.l := List.take_of_length_le (by omega)
    rw [e] at ht hv
    subst ht hv
    exact ⟨rfl, p, u, hp, hu, rfl⟩

set_option maxRecDepth 100000 in
set_option maxHeartbeats 1000000 in
theorem cw_listIv (b : Nat) (p : Value) (u : Sl) (tx : List UInt8) (w : Bool) (hp : UsedOr b p) (hu : Txt u tx) (bx k : Nat) (cs : Array Value) (T : TypeId) (fz : Nat × Nat) (s : Ins Iv) (hs : InsOk 5 cIv s) (hok : ∀ x ∈ s.l, OkIv x) (hk : cs[k]? = some (.slice s.p s.l.length s.cap)) (hl : tx.length + (encL encIv s.l).length ≤ 140737488350000) :
    Ct Try.prog 101 [.pointer (some ⟨b, 0, none⟩), .pointer (some ⟨bx, k, none⟩), .func (.func 102) #[.pointer (some ⟨b, 0, none⟩)] #[]] [(some bx, .cells cs T fz), (s.ob, .cells s.cs s.T s.fr)] [(some b, .cells #[p, u.v (tx).length, .pointer none, .bool w] 80 (0, 0)), (u.ob, .cells u.cs 5 u.fz)] fun v post => v = .tuple #[] ∧ ∃ p1 u1, UsedOr b p1 ∧ Txt u1 (tx ++ encL encIv s.l) ∧ post = [(some b, .cells #[p1, u1.v (tx ++ encL encIv s.l).length, .pointer none, .bool (w || badL badIv s.l)] 80 (0, 0)), (u1.ob, .cells u1.cs 5 u1.fz)] := by
 have hl1 := hs.le
 have hl2 := hs.max
 have hln := hs.n
 have hcl := chainI_len (s.l.length : Int) (by omega) (by omega)
 have hl_ := hl
 unfold encL at hl_
 simp only [List.length_append] at hl_
 refine Yu Try.func101 rfl rfl (fun w0 => ?_)
 show G _ _ [(0, _), (1, _), (2, _)] _ _
 refine Zh ?_
 refine Zh ?_
 refine Zd (l := [0, 1, 2, 3, 4]) rfl ?_
 refine Za rfl rfl rfl rfl (Zc rfl rfl) ?_
 refine Za rfl rfl rfl rfl (Ze rfl rfl) ?_
 refine Za rfl rfl rfl rfl (Zb (fo := 2) rfl Try.underlying80 rfl i_74 rfl rfl rfl) ?_
 refine Za rfl rfl rfl rfl (Zj rfl rfl (Zf 2 rfl) rfl Try.underlying74 rfl) ?_
 refine Za rfl rfl rfl rfl (V_peqlN rfl Try.underlying74 rfl rfl) ?_
 refine Zg ?_
 refine G_then rfl ?_
 refine Zh ?_
 refine Zd (l := [0, 1, 2, 3, 4, 5, 6, 7, 8, 9, 10, 11, 12, 13, 14]) rfl ?_
 refine Za rfl rfl rfl rfl (Zc rfl rfl) ?_
 refine Za rfl rfl rfl rfl (Zc rfl rfl) ?_
 refine Za rfl rfl rfl rfl (Ze rfl rfl) ?_
 refine Za rfl rfl rfl rfl (Zb (fo := 3) rfl Try.underlying80 rfl i_4 rfl rfl rfl) ?_
 refine Za rfl rfl rfl rfl (Zj rfl rfl (Zf 2 rfl) rfl Try.underlying4 rfl) ?_
 refine Za rfl rfl rfl rfl (Zc rfl rfl) ?_
 refine G_split 19 rfl (fun hc1 => ?_) (fun hc1 => ?_)
 ·
  refine Yb rfl rfl rfl rfl ?_
  refine Yb rfl rfl rfl rfl ?_
  refine Yb rfl rfl rfl rfl ?_
  refine Yb rfl rfl rfl rfl ?_
  refine Yb rfl rfl rfl rfl ?_
  refine Za rfl rfl rfl rfl (Yz rfl rfl rfl) ?_
  refine Za rfl rfl rfl rfl (Ze rfl rfl) ?_
  refine Za rfl rfl rfl rfl (Zb (fo := 3) rfl Try.underlying80 rfl i_4 rfl rfl rfl) ?_
  refine Yj (l1 := []) (L' := [_, _]) rfl rfl rfl rfl (Zm rfl rfl rfl (Zf 0 rfl) (by first | exact of_decide_eq_true rfl | omega | (simp [cOp, cWk, cIv, cHr, cLt, cWt, cIt]; done) | (simp [cOp, cWk, cIv, cHr, cLt, cWt, cIt]; omega) | (simp [cOp, cWk, cIv, cHr, cLt, cWt, cIt] at *; omega)) i_4 rfl rfl) rfl ?_
  refine Zg ?_
  refine Zh ?_
  refine Yf (Lq := []) (isq := []) (m := 10) Yo rfl rfl ?_
  refine Zi 0 rfl rfl rfl rfl (by kernel_rfl) (fun _ _ => Zc rfl rfl) ?_
  refine Zi 1 rfl rfl rfl rfl (by kernel_rfl) (fun _ _ => Ze rfl rfl) ?_
  refine Zi 2 rfl rfl rfl rfl (by kernel_rfl) (fun _ _ => Zb (fo := 0) rfl Try.underlying80 rfl i_78 rfl rfl rfl) ?_
  refine Zi 3 rfl rfl rfl rfl (by kernel_rfl) (fun _ _ => Zc rfl rfl) ?_
  refine Zi 4 rfl rfl rfl rfl (by kernel_rfl) (fun _ _ => Ze rfl rfl) ?_
  refine Zi 5 rfl rfl rfl rfl (by kernel_rfl) (fun _ _ => Zj rfl rfl (Zf 0 rfl) (Zt hk) Try.underlying26 rfl) ?_
  refine Zi 6 rfl rfl rfl rfl (by kernel_rfl) (fun _ _ => Yp rfl rfl Try.underlying26 rfl) ?_
  refine Zi 7 rfl rfl rfl rfl (by kernel_rfl) (fun _ _ => (Xt rfl rfl Try.underlying3 Try.underlying23).int (Xm (by omega))) ?_
  refine GH_all [8] (by kernel_rfl) (by decide) ?_
  refine (And.intro ?_ trivial)
  ·
   refine Ye (L2 := [_, _]) rfl rfl rfl rfl rfl rfl Try.call80 (Xv _ (by omega) (by omega)) [] [] rfl rfl [] (by rintro v post ⟨rfl, rfl⟩; exact ⟨_, rfl⟩) ?_
   rintro v post ⟨rfl, rfl⟩
   show GH _ _ _ _ _ _ _ [_, _] _
   refine GH_all [9] (by kernel_rfl) (by decide) ?_
   refine (And.intro ?_ trivial)
   ·
    refine Ye (L2 := []) rfl rfl rfl rfl rfl rfl Try.call79 (Xl _ _ _ _ _ _ _ hp hu (by omega)) [0, 0] [] rfl rfl [] (by rintro v post ⟨rfl, u1, hu1, rfl⟩; exact ⟨_, rfl⟩) ?_
    rintro v post ⟨rfl, u1, hu1, rfl⟩
    show GH _ _ _ _ _ _ _ [_, _] _
    refine Ya (by kernel_rfl) ?_
    refine Zh ?_
    refine Zh ?_
    refine Zd (l := [0, 1, 2, 3, 4]) rfl ?_
    refine Za rfl rfl rfl rfl (Zc rfl rfl) ?_
    refine Za rfl rfl rfl rfl (Ze rfl rfl) ?_
    refine Za rfl rfl rfl rfl (Zj rfl rfl (Zf 0 rfl) (Zt hk) Try.underlying26 rfl) ?_
    refine Za rfl rfl rfl rfl (Yp rfl rfl Try.underlying26 rfl) ?_
    refine Za rfl rfl rfl rfl (Zc rfl rfl) ?_
    refine Zg ?_
    refine Zs ?_
    refine Yi ?he4 [0, 0] ?hl4 (Xb (X := Nat × Value × Sl × List UInt8 × Bool) (fun x_ => match x_ with | ⟨i, p, u, t, v⟩ => i ≤ s.l.length ∧ UsedOr b p ∧ Txt u t ∧ t = tx ++ (chainI (s.l.length : Int) ++ (s.l.take i).flatMap encIv) ∧ v = (w || (decide (1000 < (s.l.length : Int)) || (s.l.take i).any badIv))) (fun x_ => match x_ with | ⟨i, p, u, t, v⟩ => s.l.length - i) (fun x_ => match x_ with | ⟨i, p, u, t, v⟩ => [(0, .pointer (some ⟨b, 0, none⟩)), (1, .pointer (some ⟨bx, k, none⟩)), (2, .func (.func 102) #[.pointer (some ⟨b, 0, none⟩)] #[]), (41, .int .i64 (s.l.length : Int)), (42, .int .i64 (i : Int))]) (fun x_ => match x_ with | ⟨i, p, u, t, v⟩ => [(some b, .cells #[p, u.v (t).length, .pointer none, .bool v] 80 (0, 0)), (u.ob, .cells u.cs 5 u.fz)]) ?round4 (0, .pointer (some ⟨b, 0, none⟩), u1, tx ++ chainI (s.l.length : Int), true) ?h04)
    case he4 => exact (And.intro rfl (And.intro rfl (And.intro rfl (And.intro rfl (And.intro rfl trivial)))))
    case hl4 => exact ⟨_, rfl⟩
    case h04 => exact ⟨Nat.zero_le _, .inr rfl, hu1, by simp, by simp [*]⟩
    case round4 =>
     intro x_ hJ ih
     try dsimp only at hJ ih
     obtain ⟨i, p, u, t, v⟩ := x_
     try dsimp only at hJ ih
     obtain ⟨hi, hp, hu, ht, hv⟩ := hJ
     show G _ _ [(0, .pointer (some ⟨b, 0, none⟩)), (1, .pointer (some ⟨bx, k, none⟩)), (2, .func (.func 102) #[.pointer (some ⟨b, 0, none⟩)] #[]), (41, .int .i64 (s.l.length : Int)), (42, .int .i64 (i : Int))] [(some b, .cells #[p, u.v (t).length, .pointer none, .bool v] 80 (0, 0)), (u.ob, .cells u.cs 5 u.fz)] _
     refine Zh ?_
     refine Zd (l := [0]) rfl ?_
     refine Za rfl rfl rfl rfl (Xn rfl rfl rfl) ?_
     refine Zg ?_
     refine Zh ?_
     refine Yk rfl (fun hc2 => ?_) (fun hc2 => ?_)
     ·
      refine Zu ?_
      refine Zh ?_
      refine Zs ?_
      refine Zh ?_
      refine Zd (l := [0, 1]) rfl ?_
      refine Za rfl rfl rfl rfl (Zc rfl rfl) ?_
      refine Za rfl rfl rfl rfl (Zk rfl rfl) ?_
      refine Zg ?_
      refine Zh ?_
      obtain ⟨x, hx⟩ := getI (show i < s.l.length by omega)
      obtain ⟨bi, hb1, hb2, hss⟩ := hs.isS (i := i) (by omega)
      have hxo := hok x (List.mem_of_getElem? hx)
      have hfl := fmap_len encIv s.l (i + 1)
      rw [← Yx encIv hx, List.length_append] at hfl
      have htl := congrArg List.length ht
      simp only [List.length_append] at htl
      refine Zd (l := [0, 1, 2, 3, 4, 5, 6, 7]) rfl ?_
      refine Za rfl rfl rfl rfl (Zc rfl rfl) ?_
      refine Za rfl rfl rfl rfl (Ze rfl rfl) ?_
      refine Za rfl rfl rfl rfl (Zj rfl rfl (Zf 0 rfl) (Zt hk) Try.underlying26 rfl) ?_
      rw [hb1]
      refine Za rfl rfl rfl rfl (Zc rfl rfl) ?_
      refine Za rfl rfl rfl rfl (Zo (s := 5) rfl Try.underlying26 i_95 rfl rfl rfl rfl (by omega)) ?_
      refine Za rfl rfl rfl rfl (Xp (s := 5) (vs := (cIv x).toArray) rfl rfl (by rw [← hb2]; exact Zf 1 rfl) Try.underlying95 rfl i_95 rfl (hss.elem cIv_len hx) (by rfl)) ?_
      refine Yw rfl rfl rfl rfl (Ym rfl i_95 rfl) (fun b7 => ?_)
      refine Yj (l1 := []) (L' := [_, _, _]) rfl rfl rfl rfl (Yv (s := 5) rfl rfl rfl (Zf 0 rfl) (by rfl) i_95 rfl (by rfl) (by simp [Value.oneCell', cOp, cWk, cIv, cHr, cLt, cWt, cIt])) rfl ?_
      refine Zg ?_
      refine Zd (l := [0, 1]) rfl ?_
      refine Za rfl rfl rfl rfl (Zc rfl rfl) ?_
      refine G_callB (L2 := [_]) rfl rfl rfl rfl rfl rfl Try.call102 rfl (cw_inv b _ _ _ _ hp hu _ x _ _ hxo (by omega)) [1, 1] [2] rfl rfl ?_
      rintro v post ⟨rfl, p1, u1, hp1, hu1, rfl⟩
      show G _ _ _ [_, _, _] _
      refine Zg ?_
      refine Zv ?_
      refine Zd (l := [0, 1]) rfl ?_
      refine Za rfl rfl rfl rfl ((Xe rfl rfl rfl).int (Zw (by omega))) ?_
      refine Za rfl rfl rfl rfl (Zc rfl rfl) ?_
      refine Zg ?_
      refine Yi ?_ [0, 0] ?_ (ih (i + 1, p1, u1, t ++ encIv x, v || badIv x) ?_ ?_)
      · (refine (And.intro ?_ (And.intro ?_ (And.intro ?_ (And.intro ?_ (And.intro ?_ trivial))))) <;> first | rfl | exact Zl (by omega) | exact Zl (by simp))
      · exact ⟨_, rfl⟩
      · exact ⟨by omega, hp1, hu1, by rw [← Yx encIv hx, ht]; simp only [List.append_assoc], by rw [hv, ← anyt_next hx]; simp only [Bool.or_assoc]⟩
      · (first | omega | (dsimp only; omega))
     refine Yr rfl ?_
     refine Yy (post := [_, _]) Try.func101 rfl Zp [0, 0] rfl ?_
     dsimp only [packed]
     have e : s.l.take i = s.l := List.take_of_length_le (by omega)
     rw [e] at ht hv
     subst ht hv
     exact ⟨rfl, p, u, hp, hu, rfl⟩
 refine Za rfl rfl rfl rfl (Zc rfl rfl) ?_
 refine Za rfl rfl rfl rfl (Ze rfl rfl) ?_
 refine Za rfl rfl rfl rfl (Zj rfl rfl (Zf 0 rfl) (Zt hk) Try.underlying26 rfl) ?_
 refine Za rfl rfl rfl rfl (Yp rfl rfl Try.underlying26 rfl) ?_
 refine Za rfl rfl rfl rfl (V_gtr rfl rfl rfl) ?_
 refine Za rfl rfl rfl rfl (Xg rfl rfl rfl) ?_
 refine Za rfl rfl rfl rfl (Ze rfl rfl) ?_
 refine Za rfl rfl rfl rfl (Zb (fo := 3) rfl Try.underlying80 rfl i_4 rfl rfl rfl) ?_
 refine Yj (l1 := []) (L' := [_, _]) rfl rfl rfl rfl (Zm rfl rfl rfl (Zf 0 rfl) (by first | exact of_decide_eq_true rfl | omega | (simp [cOp, cWk, cIv, cHr, cLt, cWt, cIt]; done) | (simp [cOp, cWk, cIv, cHr, cLt, cWt, cIt]; omega) | (simp [cOp, cWk, cIv, cHr, cLt, cWt, cIt] at *; omega)) i_4 rfl rfl) rfl ?_
 refine Zg ?_
 refine Zh ?_
 refine Yf (Lq := []) (isq := []) (m := 10) Yo rfl rfl ?_
 refine Zi 0 rfl rfl rfl rfl (by kernel_rfl) (fun _ _ => Zc rfl rfl) ?_
 refine Zi 1 rfl rfl rfl rfl (by kernel_rfl) (fun _ _ => Ze rfl rfl) ?_
 refine Zi 2 rfl rfl rfl rfl (by kernel_rfl) (fun _ _ => Zb (fo := 0) rfl Try.underlying80 rfl i_78 rfl rfl rfl) ?_
 refine Zi 3 rfl rfl rfl rfl (by kernel_rfl) (fun _ _ => Zc rfl rfl) ?_
 refine Zi 4 rfl rfl rfl rfl (by kernel_rfl) (fun _ _ => Ze rfl rfl) ?_
 refine Zi 5 rfl rfl rfl rfl (by kernel_rfl) (fun _ _ => Zj rfl rfl (Zf 0 rfl) (Zt hk) Try.underlying26 rfl) ?_
 refine Zi 6 rfl rfl rfl rfl (by kernel_rfl) (fun _ _ => Yp rfl rfl Try.underlying26 rfl) ?_
 refine Zi 7 rfl rfl rfl rfl (by kernel_rfl) (fun _ _ => (Xt rfl rfl Try.underlying3 Try.underlying23).int (Xm (by omega))) ?_
 refine GH_all [8] (by kernel_rfl) (by decide) ?_
 refine (And.intro ?_ trivial)
 ·
  refine Ye (L2 := [_, _]) rfl rfl rfl rfl rfl rfl Try.call80 (Xv _ (by omega) (by omega)) [] [] rfl rfl [] (by rintro v post ⟨rfl, rfl⟩; exact ⟨_, rfl⟩) ?_
  rintro v post ⟨rfl, rfl⟩
  show GH _ _ _ _ _ _ _ [_, _] _
  refine GH_all [9] (by kernel_rfl) (by decide) ?_
  refine (And.intro ?_ trivial)
  ·
   refine Ye (L2 := []) rfl rfl rfl rfl rfl rfl Try.call79 (Xl _ _ _ _ _ _ _ hp hu (by omega)) [0, 0] [] rfl rfl [] (by rintro v post ⟨rfl, u1, hu1, rfl⟩; exact ⟨_, rfl⟩) ?_
   rintro v post ⟨rfl, u1, hu1, rfl⟩
   show GH _ _ _ _ _ _ _ [_, _] _
   refine Ya (by kernel_rfl) ?_
   refine Zh ?_
   refine Zh ?_
   refine Zd (l := [0, 1, 2, 3, 4]) rfl ?_
   refine Za rfl rfl rfl rfl (Zc rfl rfl) ?_
   refine Za rfl rfl rfl rfl (Ze rfl rfl) ?_
   refine Za rfl rfl rfl rfl (Zj rfl rfl (Zf 0 rfl) (Zt hk) Try.underlying26 rfl) ?_
   refine Za rfl rfl rfl rfl (Yp rfl rfl Try.underlying26 rfl) ?_
   refine Za rfl rfl rfl rfl (Zc rfl rfl) ?_
   refine Zg ?_
   refine Zs ?_
   refine Yi ?he4 [0, 0] ?hl4 (Xb (X := Nat × Value × Sl × List UInt8 × Bool) (fun x_ => match x_ with | ⟨i, p, u, t, v⟩ => i ≤ s.l.length ∧ UsedOr b p ∧ Txt u t ∧ t = tx ++ (chainI (s.l.length : Int) ++ (s.l.take i).flatMap encIv) ∧ v = (w || (decide (1000 < (s.l.length : Int)) || (s.l.take i).any badIv))) (fun x_ => match x_ with | ⟨i, p, u, t, v⟩ => s.l.length - i) (fun x_ => match x_ with | ⟨i, p, u, t, v⟩ => [(0, .pointer (some ⟨b, 0, none⟩)), (1, .pointer (some ⟨bx, k, none⟩)), (2, .func (.func 102) #[.pointer (some ⟨b, 0, none⟩)] #[]), (41, .int .i64 (s.l.length : Int)), (42, .int .i64 (i : Int))]) (fun x_ => match x_ with | ⟨i, p, u, t, v⟩ => [(some b, .cells #[p, u.v (t).length, .pointer none, .bool v] 80 (0, 0)), (u.ob, .cells u.cs 5 u.fz)]) ?round4 (0, .pointer (some ⟨b, 0, none⟩), u1, tx ++ chainI (s.l.length : Int), (decide (1000 < (s.l.length : Int)))) ?h04)
   case he4 => exact (And.intro rfl (And.intro rfl (And.intro rfl (And.intro rfl (And.intro rfl trivial)))))
   case hl4 => exact ⟨_, rfl⟩
   case h04 => exact ⟨Nat.zero_le _, .inr rfl, hu1, by simp, by simp [*]⟩
   case round4 =>
    intro x_ hJ ih
    try dsimp only at hJ ih
    obtain ⟨i, p, u, t, v⟩ := x_
    try dsimp only at hJ ih
    obtain ⟨hi, hp, hu, ht, hv⟩ := hJ
    show G _ _ [(0, .pointer (some ⟨b, 0, none⟩)), (1, .pointer (some ⟨bx, k, none⟩)), (2, .func (.func 102) #[.pointer (some ⟨b, 0, none⟩)] #[]), (41, .int .i64 (s.l.length : Int)), (42, .int .i64 (i : Int))] [(some b, .cells #[p, u.v (t).length, .pointer none, .bool v] 80 (0, 0)), (u.ob, .cells u.cs 5 u.fz)] _
    refine Zh ?_
    refine Zd (l := [0]) rfl ?_
    refine Za rfl rfl rfl rfl (Xn rfl rfl rfl) ?_
    refine Zg ?_
    refine Zh ?_
    refine Yk rfl (fun hc2 => ?_) (fun hc2 => ?_)
    ·
     refine Zu ?_
     refine Zh ?_
     refine Zs ?_
     refine Zh ?_
     refine Zd (l := [0, 1]) rfl ?_
     refine Za rfl rfl rfl rfl (Zc rfl rfl) ?_
     refine Za rfl rfl rfl rfl (Zk rfl rfl) ?_
     refine Zg ?_
     refine Zh ?_
     obtain ⟨x, hx⟩ := getI (show i < s.l.length by omega)
     obtain ⟨bi, hb1, hb2, hss⟩ := hs.isS (i := i) (by omega)
     have hxo := hok x (List.mem_of_getElem? hx)
     have hfl := fmap_len encIv s.l (i + 1)
     rw [← Yx encIv hx, List.length_append] at hfl
     have htl := congrArg List.length ht
     simp only [List.length_append] at htl
     refine Zd (l := [0, 1, 2, 3, 4, 5, 6, 7]) rfl ?_
     refine Za rfl rfl rfl rfl (Zc rfl rfl) ?_
     refine Za rfl rfl rfl rfl (Ze rfl rfl) ?_
     refine Za rfl rfl rfl rfl (Zj rfl rfl (Zf 0 rfl) (Zt hk) Try.underlying26 rfl) ?_
     rw [hb1]
     refine Za rfl rfl rfl rfl (Zc rfl rfl) ?_
     refine Za rfl rfl rfl rfl (Zo (s := 5) rfl Try.underlying26 i_95 rfl rfl rfl rfl (by omega)) ?_
     refine Za rfl rfl rfl rfl (Xp (s := 5) (vs := (cIv x).toArray) rfl rfl (by rw [← hb2]; exact Zf 1 rfl) Try.underlying95 rfl i_95 rfl (hss.elem cIv_len hx) (by rfl)) ?_
     refine Yw rfl rfl rfl rfl (Ym rfl i_95 rfl) (fun b7 => ?_)
     refine Yj (l1 := []) (L' := [_, _, _]) rfl rfl rfl rfl (Yv (s := 5) rfl rfl rfl (Zf 0 rfl) (by rfl) i_95 rfl (by rfl) (by simp [Value.oneCell', cOp, cWk, cIv, cHr, cLt, cWt, cIt])) rfl ?_
     refine Zg ?_
     refine Zd (l := [0, 1]) rfl ?_
     refine Za rfl rfl rfl rfl (Zc rfl rfl) ?_
     refine G_callB (L2 := [_]) rfl rfl rfl rfl rfl rfl Try.call102 rfl (cw_inv b _ _ _ _ hp hu _ x _ _ hxo (by omega)) [1, 1] [2] rfl rfl ?_
     rintro v post ⟨rfl, p1, u1, hp1, hu1, rfl⟩
     show G _ _ _ [_, _, _] _
     refine Zg ?_
     refine Zv ?_
     refine Zd (l := [0, 1]) rfl ?_
     refine Za rfl rfl rfl rfl ((Xe rfl rfl rfl).int (Zw (by omega))) ?_
     refine Za rfl rfl rfl rfl (Zc rfl rfl) ?_
     refine Zg ?_
     refine Yi ?_ [0, 0] ?_ (ih (i + 1, p1, u1, t ++ encIv x, v || badIv x) ?_ ?_)
     · (refine (And.intro ?_ (And.intro ?_ (And.intro ?_ (And.intro ?_ (And.intro ?_ trivial))))) <;> first | rfl | exact Zl (by omega) | exact Zl (by simp))
     · exact ⟨_, rfl⟩
     · exact ⟨by omega, hp1, hu1, by rw [← Yx encIv hx, ht]; simp only [List.append_assoc], by rw [hv, ← anyt_next hx]; simp only [Bool.or_assoc]⟩
     · (first | omega | (dsimp only; omega))
    refine Yr rfl ?_
    refine Yy (post := [_, _]) Try.func101 rfl Zp [0, 0] rfl ?_
    dsimp only [packed]
    have e : s.l.take i = s.l := List.take_of_length_le (by omega)
    rw [e] at ht hv
    subst ht hv
    exact ⟨rfl, p, u, hp, hu, rfl⟩

set_option maxRecDepth 100000 in
set_option maxHeartbeats 1000000 in
theorem cw_listHr (b : Nat) (p : Value) (u : Sl) (tx : List UInt8) (w : Bool) (hp : UsedOr b p) (hu : Txt u tx) (bx k : Nat) (cs : Array Value) (T : TypeId) (fz : Nat × Nat) (s : Ins Hr) (hs : InsOk 17 cHr s) (hok : ∀ x ∈ s.l, OkHr x) (hk : cs[k]? = some (.slice s.p s.l.length s.cap)) (hl : tx.length + (encL encHr s.l).length ≤ 140737488350000) :
    Ct Try.prog 105 [.pointer (some ⟨b, 0, none⟩), .pointer (some ⟨bx, k, none⟩), .func (.func 106) #[.pointer (some ⟨b, 0, none⟩)] #[]] [(some bx, .cells cs T fz), (s.ob, .cells s.cs s.T s.fr)] [(some b, .cells #[p, u.v (tx).length, .pointer none, .bool w] 80 (0, 0)), (u.ob, .cells u.cs 5 u.fz)] fun v post => v = .tuple #[] ∧ ∃ p1 u1, UsedOr b p1 ∧ Txt u1 (tx ++ encL encHr s.l) ∧ post = [(some b, .cells #[p1, u1.v (tx ++ encL encHr s.l).length, .pointer none, .bool (w || badL badHr s.l)] 80 (0, 0)), (u1.ob, .cells u1.cs 5 u1.fz)] := by
 have hl1 := hs.le
 have hl2 := hs.max
 have hln := hs.n
 have hcl := chainI_len (s.l.length : Int) (by omega) (by omega)
 have hl_ := hl
 unfold encL at hl_
 simp only [List.length_append] at hl_
 refine Yu Try.func105 rfl rfl (fun w0 => ?_)
 show G _ _ [(0, _), (1, _), (2, _)] _ _
 refine Zh ?_
 refine Zh ?_
 refine Zd (l := [0, 1, 2, 3, 4]) rfl ?_
 refine Za rfl rfl rfl rfl (Zc rfl rfl) ?_
 refine Za rfl rfl rfl rfl (Ze rfl rfl) ?_
 refine Za rfl rfl rfl rfl (Zb (fo := 2) rfl Try.underlying80 rfl i_74 rfl rfl rfl) ?_
 refine Za rfl rfl rfl rfl (Zj rfl rfl (Zf 2 rfl) rfl Try.underlying74 rfl) ?_
 refine Za rfl rfl rfl rfl (V_peqlN rfl Try.underlying74 rfl rfl) ?_
 refine Zg ?_
 refine G_then rfl ?_
 refine Zh ?_
 refine Zd (l := [0, 1, 2, 3, 4, 5, 6, 7, 8, 9, 10, 11, 12, 13, 14]) rfl ?_
 refine Za rfl rfl rfl rfl (Zc rfl rfl) ?_
 refine Za rfl rfl rfl rfl (Zc rfl rfl) ?_
 refine Za rfl rfl rfl rfl (Ze rfl rfl) ?_
 refine Za rfl rfl rfl rfl (Zb (fo := 3) rfl Try.underlying80 rfl i_4 rfl rfl rfl) ?_
 refine Za rfl rfl rfl rfl (Zj rfl rfl (Zf 2 rfl) rfl Try.underlying4 rfl) ?_
 refine Za rfl rfl rfl rfl (Zc rfl rfl) ?_
 refine G_split 19 rfl (fun hc1 => ?_) (fun hc1 => ?_)
 ·
  refine Yb rfl rfl rfl rfl ?_
  refine Yb rfl rfl rfl rfl ?_
  refine Yb rfl rfl rfl rfl ?_
  refine Yb rfl rfl rfl rfl ?_
  refine Yb rfl rfl rfl rfl ?_
  refine Za rfl rfl rfl rfl (Yz rfl rfl rfl) ?_
  refine Za rfl rfl rfl rfl (Ze rfl rfl) ?_
  refine Za rfl rfl rfl rfl (Zb (fo := 3) rfl Try.underlying80 rfl i_4 rfl rfl rfl) ?_
  refine Yj (l1 := []) (L' := [_, _]) rfl rfl rfl rfl (Zm rfl rfl rfl (Zf 0 rfl) (by first | exact of_decide_eq_true rfl | omega | (simp [cOp, cWk, cIv, cHr, cLt, cWt, cIt]; done) | (simp [cOp, cWk, cIv, cHr, cLt, cWt, cIt]; omega) | (simp [cOp, cWk, cIv, cHr, cLt, cWt, cIt] at *; omega)) i_4 rfl rfl) rfl ?_
  refine Zg ?_
  refine Zh ?_
  refine Yf (Lq := []) (isq := []) (m := 10) Yo rfl rfl ?_
  refine Zi 0 rfl rfl rfl rfl (by kernel_rfl) (fun _ _ => Zc rfl rfl) ?_
  refine Zi 1 rfl rfl rfl rfl (by kernel_rfl) (fun _ _ => Ze rfl rfl) ?_
  refine Zi 2 rfl rfl rfl rfl (by kernel_rfl) (fun _ _ => Zb (fo := 0) rfl Try.underlying80 rfl i_78 rfl rfl rfl) ?_
  refine Zi 3 rfl rfl rfl rfl (by kernel_rfl) (fun _ _ => Zc rfl rfl) ?_
  refine Zi 4 rfl rfl rfl rfl (by kernel_rfl) (fun _ _ => Ze rfl rfl) ?_
  refine Zi 5 rfl rfl rfl rfl (by kernel_rfl) (fun _ _ => Zj rfl rfl (Zf 0 rfl) (Zt hk) Try.underlying28 rfl) ?_
  refine Zi 6 rfl rfl rfl rfl (by kernel_rfl) (fun _ _ => Yp rfl rfl Try.underlying28 rfl) ?_
  refine Zi 7 rfl rfl rfl rfl (by kernel_rfl) (fun _ _ => (Xt rfl rfl Try.underlying3 Try.underlying23).int (Xm (by omega))) ?_
  refine GH_all [8] (by kernel_rfl) (by decide) ?_
  refine (And.intro ?_ trivial)
  ·
   refine Ye (L2 := [_, _]) rfl rfl rfl rfl rfl rfl Try.call80 (Xv _ (by omega) (by omega)) [] [] rfl rfl [] (by rintro v post ⟨rfl, rfl⟩; exact ⟨_, rfl⟩) ?_
   rintro v post ⟨rfl, rfl⟩
   show GH _ _ _ _ _ _ _ [_, _] _
   refine GH_all [9] (by kernel_rfl) (by decide) ?_
   refine (And.intro ?_ trivial)
   ·
    refine Ye (L2 := []) rfl rfl rfl rfl rfl rfl Try.call79 (Xl _ _ _ _ _ _ _ hp hu (by omega)) [0, 0] [] rfl rfl [] (by rintro v post ⟨rfl, u1, hu1, rfl⟩; exact ⟨_, rfl⟩) ?_
    rintro v post ⟨rfl, u1, hu1, rfl⟩
    show GH _ _ _ _ _ _ _ [_, _] _
    refine Ya (by kernel_rfl) ?_
    refine Zh ?_
    refine Zh ?_
    refine Zd (l := [0, 1, 2, 3, 4]) rfl ?_
    refine Za rfl rfl rfl rfl (Zc rfl rfl) ?_
    refine Za rfl rfl rfl rfl (Ze rfl rfl) ?_
    refine Za rfl rfl rfl rfl (Zj rfl rfl (Zf 0 rfl) (Zt hk) Try.underlying28 rfl) ?_
    refine Za rfl rfl rfl rfl (Yp rfl rfl Try.underlying28 rfl) ?_
    refine Za rfl rfl rfl rfl (Zc rfl rfl) ?_
    refine Zg ?_
    refine Zs ?_
    refine Yi ?he4 [0, 0] ?hl4 (Xb (X := Nat × Value × Sl × List UInt8 × Bool) (fun x_ => match x_ with | ⟨i, p, u, t, v⟩ => i ≤ s.l.length ∧ UsedOr b p ∧ Txt u t ∧ t = tx ++ (chainI (s.l.length : Int) ++ (s.l.take i).flatMap encHr) ∧ v = (w || (decide (1000 < (s.l.length : Int)) || (s.l.take i).any badHr))) (fun x_ => match x_ with | ⟨i, p, u, t, v⟩ => s.l.length - i) (fun x_ => match x_ with | ⟨i, p, u, t, v⟩ => [(0, .pointer (some ⟨b, 0, none⟩)), (1, .pointer (some ⟨bx, k, none⟩)), (2, .func (.func 106) #[.pointer (some ⟨b, 0, none⟩)] #[]), (41, .int .i64 (s.l.length : Int)), (42, .int .i64 (i : Int))]) (fun x_ => match x_ with | ⟨i, p, u, t, v⟩ => [(some b, .cells #[p, u.v (t).length, .pointer none, .bool v] 80 (0, 0)), (u.ob, .cells u.cs 5 u.fz)]) ?round4 (0, .pointer (some ⟨b, 0, none⟩), u1, tx ++ chainI (s.l.length : Int), true) ?h04)
    case he4 => exact (And.intro rfl (And.intro rfl (And.intro rfl (And.intro rfl (And.intro rfl trivial)))))
    case hl4 => exact ⟨_, rfl⟩
    case h04 => exact ⟨Nat.zero_le _, .inr rfl, hu1, by simp, by simp [*]⟩
    case round4 =>
     intro x_ hJ ih
     try dsimp only at hJ ih
     obtain ⟨i, p, u, t, v⟩ := x_
     try dsimp only at hJ ih
     obtain ⟨hi, hp, hu, ht, hv⟩ := hJ
     show G _ _ [(0, .pointer (some ⟨b, 0, none⟩)), (1, .pointer (some ⟨bx, k, none⟩)), (2, .func (.func 106) #[.pointer (some ⟨b, 0, none⟩)] #[]), (41, .int .i64 (s.l.length : Int)), (42, .int .i64 (i : Int))] [(some b, .cells #[p, u.v (t).length, .pointer none, .bool v] 80 (0, 0)), (u.ob, .cells u.cs 5 u.fz)] _
     refine Zh ?_
     refine Zd (l := [0]) rfl ?_
     refine Za rfl rfl rfl rfl (Xn rfl rfl rfl) ?_
     refine Zg ?_
     refine Zh ?_
     refine Yk rfl (fun hc2 => ?_) (fun hc2 => ?_)
     ·
      refine Zu ?_
      refine Zh ?_
      refine Zs ?_
      refine Zh ?_
      refine Zd (l := [0, 1]) rfl ?_
      refine Za rfl rfl rfl rfl (Zc rfl rfl) ?_
      refine Za rfl rfl rfl rfl (Zk rfl rfl) ?_
      refine Zg ?_
      refine Zh ?_
      obtain ⟨x, hx⟩ := getI (show i < s.l.length by omega)
      obtain ⟨bi, hb1, hb2, hss⟩ := hs.isS (i := i) (by omega)
      have hxo := hok x (List.mem_of_getElem? hx)
      have hfl := fmap_len encHr s.l (i + 1)
      rw [← Yx encHr hx, List.length_append] at hfl
      have htl := congrArg List.length ht
      simp only [List.length_append] at htl
      refine Zd (l := [0, 1, 2, 3, 4, 5, 6, 7]) rfl ?_
      refine Za rfl rfl rfl rfl (Zc rfl rfl) ?_
      refine Za rfl rfl rfl rfl (Ze rfl rfl) ?_
      refine Za rfl rfl rfl rfl (Zj rfl rfl (Zf 0 rfl) (Zt hk) Try.underlying28 rfl) ?_
      rw [hb1]
      refine Za rfl rfl rfl rfl (Zc rfl rfl) ?_
      refine Za rfl rfl rfl rfl (Zo (s := 17) rfl Try.underlying28 i_141 rfl rfl rfl rfl (by omega)) ?_
      refine Za rfl rfl rfl rfl (Xp (s := 17) (vs := (cHr x).toArray) rfl rfl (by rw [← hb2]; exact Zf 1 rfl) Try.underlying141 rfl i_141 rfl (hss.elem cHr_len hx) (by rfl)) ?_
      refine Yw rfl rfl rfl rfl (Ym rfl i_141 rfl) (fun b7 => ?_)
      refine Yj (l1 := []) (L' := [_, _, _]) rfl rfl rfl rfl (Yv (s := 17) rfl rfl rfl (Zf 0 rfl) (by rfl) i_141 rfl (by rfl) (by simp [Value.oneCell', cOp, cWk, cIv, cHr, cLt, cWt, cIt])) rfl ?_
      refine Zg ?_
      refine Zd (l := [0, 1]) rfl ?_
      refine Za rfl rfl rfl rfl (Zc rfl rfl) ?_
      refine G_callB (L2 := [_]) rfl rfl rfl rfl rfl rfl Try.call106 rfl (cw_row b _ _ _ _ hp hu _ x _ _ hxo (by omega)) [1, 1] [2] rfl rfl ?_
      rintro v post ⟨rfl, p1, u1, hp1, hu1, rfl⟩
      show G _ _ _ [_, _, _] _
      refine Zg ?_
      refine Zv ?_
      refine Zd (l := [0, 1]) rfl ?_
      refine Za rfl rfl rfl rfl ((Xe rfl rfl rfl).int (Zw (by omega))) ?_
      refine Za rfl rfl rfl rfl (Zc rfl rfl) ?_
      refine Zg ?_
      refine Yi ?_ [0, 0] ?_ (ih (i + 1, p1, u1, t ++ encHr x, v || badHr x) ?_ ?_)
      · (refine (And.intro ?_ (And.intro ?_ (And.intro ?_ (And.intro ?_ (And.intro ?_ trivial))))) <;> first | rfl | exact Zl (by omega) | exact Zl (by simp))
      · exact ⟨_, rfl⟩
      · exact ⟨by omega, hp1, hu1, by rw [← Yx encHr hx, ht]; simp only [List.append_assoc], by rw [hv, ← anyt_next hx]; simp only [Bool.or_assoc]⟩
      · (first | omega | (dsimp only; omega))
     refine Yr rfl ?_
     refine Yy (post := [_, _]) Try.func105 rfl Zp [0, 0] rfl ?_
     dsimp only [packed]
     have e : s.l.take i = s.l := List.take_of_length_le (by omega)
     rw [e] at ht hv
     subst ht hv
     exact ⟨rfl, p, u, hp, hu, rfl⟩
 refine Za rfl rfl rfl rfl (Zc rfl rfl) ?_
 refine Za rfl rfl rfl rfl (Ze rfl rfl) ?_
 refine Za rfl rfl rfl rfl (Zj rfl rfl (Zf 0 rfl) (Zt hk) Try.underlying28 rfl) ?_
 refine Za rfl rfl rfl rfl (Yp rfl rfl Try.underlying28 rfl) ?_
 refine Za rfl rfl rfl rfl (V_gtr rfl rfl rfl) ?_
 refine Za rfl rfl rfl rfl (Xg rfl rfl rfl) ?_
 refine Za rfl rfl rfl rfl (Ze rfl rfl) ?_
 refine Za rfl rfl rfl rfl (Zb (fo := 3) rfl Try.underlying80 rfl i_4 rfl rfl rfl) ?_
 refine Yj (l1 := []) (L' := [_, _]) rfl rfl rfl rfl (Zm rfl rfl rfl (Zf 0 rfl) (by first | exact of_decide_eq_true rfl | omega | (simp [cOp, cWk, cIv, cHr, cLt, cWt, cIt]; done) | (simp [cOp, cWk, cIv, cHr, cLt, cWt, cIt]; omega) | (simp [cOp, cWk, cIv, cHr, cLt, cWt, cIt] at *; omega)) i_4 rfl rfl) rfl ?_
 refine Zg ?_
 refine Zh ?_
 refine Yf (Lq := []) (isq := []) (m := 10) Yo rfl rfl ?_
 refine Zi 0 rfl rfl rfl rfl (by kernel_rfl) (fun _ _ => Zc rfl rfl) ?_
 refine Zi 1 rfl rfl rfl rfl (by kernel_rfl) (fun _ _ => Ze rfl rfl) ?_
 refine Zi 2 rfl rfl rfl rfl (by kernel_rfl) (fun _ _ => Zb (fo := 0) rfl Try.underlying80 rfl i_78 rfl rfl rfl) ?_
 refine Zi 3 rfl rfl rfl rfl (by kernel_rfl) (fun _ _ => Zc rfl rfl) ?_
 refine Zi 4 rfl rfl rfl rfl (by kernel_rfl) (fun _ _ => Ze rfl rfl) ?_
 refine Zi 5 rfl rfl rfl rfl (by kernel_rfl) (fun _ _ => Zj rfl rfl (Zf 0 rfl) (Zt hk) Try.underlying28 rfl) ?_
 refine Zi 6 rfl rfl rfl rfl (by kernel_rfl) (fun _ _ => Yp rfl rfl Try.underlying28 rfl) ?_
 refine Zi 7 rfl rfl rfl rfl (by kernel_rfl) (fun _ _ => (Xt rfl rfl Try.underlying3 Try.underlying23).int (Xm (by omega))) ?_
 refine GH_all [8] (by kernel_rfl) (by decide) ?_
 refine (And.intro ?_ trivial)
 ·
  refine Ye (L2 := [_, _]) rfl rfl rfl rfl rfl rfl Try.call80 (Xv _ (by omega) (by omega)) [] [] rfl rfl [] (by rintro v post ⟨rfl, rfl⟩; exact ⟨_, rfl⟩) ?_
  rintro v post ⟨rfl, rfl⟩
  show GH _ _ _ _ _ _ _ [_, _] _
  refine GH_all [9] (by kernel_rfl) (by decide) ?_
  refine (And.intro ?_ trivial)
  ·
   refine Ye (L2 := []) rfl rfl rfl rfl rfl rfl Try.call79 (Xl _ _ _ _ _ _ _ hp hu (by omega)) [0, 0] [] rfl rfl [] (by rintro v post ⟨rfl, u1, hu1, rfl⟩; exact ⟨_, rfl⟩) ?_
   rintro v post ⟨rfl, u1, hu1, rfl⟩
   show GH _ _ _ _ _ _ _ [_, _] _
   refine Ya (by kernel_rfl) ?_
   refine Zh ?_
   refine Zh ?_
   refine Zd (l := [0, 1, 2, 3, 4]) rfl ?_
   refine Za rfl rfl rfl rfl (Zc rfl rfl) ?_
   refine Za rfl rfl rfl rfl (Ze rfl rfl) ?_
   refine Za rfl rfl rfl rfl (Zj rfl rfl (Zf 0 rfl) (Zt hk) Try.underlying28 rfl) ?_
   refine Za rfl rfl rfl rfl (Yp rfl rfl Try.underlying28 rfl) ?_
   refine Za rfl rfl rfl rfl (Zc rfl rfl) ?_
   refine Zg ?_
   refine Zs ?_
   refine Yi ?he4 [0, 0] ?hl4 (Xb (X := Nat × Value × Sl × List UInt8 × Bool) (fun x_ => match x_ with | ⟨i, p, u, t, v⟩ => i ≤ s.l.length ∧ UsedOr b p ∧ Txt u t ∧ t = tx ++ (chainI (s.l.length : Int) ++ (s.l.take i).flatMap encHr) ∧ v = (w || (decide (1000 < (s.l.length : Int)) || (s.l.take i).any badHr))) (fun x_ => match x_ with | ⟨i, p, u, t, v⟩ => s.l.length - i) (fun x_ => match x_ with | ⟨i, p, u, t, v⟩ => [(0, .pointer (some ⟨b, 0, none⟩)), (1, .pointer (some ⟨bx, k, none⟩)), (2, .func (.func 106) #[.pointer (some ⟨b, 0, none⟩)] #[]), (41, .int .i64 (s.l.length : Int)), (42, .int .i64 (i : Int))]) (fun x_ => match x_ with | ⟨i, p, u, t, v⟩ => [(some b, .cells #[p, u.v (t).length, .pointer none, .bool v] 80 (0, 0)), (u.ob, .cells u.cs 5 u.fz)]) ?round4 (0, .pointer (some ⟨b, 0, none⟩), u1, tx ++ chainI (s.l.length : Int), (decide (1000 < (s.l.length : Int)))) ?h04)
   case he4 => exact (And.intro rfl (And.intro rfl (And.intro rfl (And.intro rfl (And.intro rfl trivial)))))
   case hl4 => exact ⟨_, rfl⟩
   case h04 => exact ⟨Nat.zero_le _, .inr rfl, hu1, by simp, by simp [*]⟩
   case round4 =>
    intro x_ hJ ih
    try dsimp only at hJ ih
    obtain ⟨i, p, u, t, v⟩ := x_
    try dsimp only at hJ ih
    obtain ⟨hi, hp, hu, ht, hv⟩ := hJ
    show G _ _ [(0, .pointer (some ⟨b, 0, none⟩)), (1, .pointer (some ⟨bx, k, none⟩)), (2, .func (.func 106) #[.pointer (some ⟨b, 0, none⟩)] #[]), (41, .int .i64 (s.l.length : Int)), (42, .int .i64 (i : Int))] [(some b, .cells #[p, u.v (t).length, .pointer none, .bool v] 80 (0, 0)), (u.ob, .cells u.cs 5 u.fz)] _
    refine Zh ?_
    refine Zd (l := [0]) rfl ?_
    refine Za rfl rfl rfl rfl (Xn rfl rfl rfl) ?_
    refine Zg ?_
    refine Zh ?_
    refine Yk rfl (fun hc2 => ?_) (fun hc2 => ?_)
    ·
     refine Zu ?_
     refine Zh ?_
     refine Zs ?_
     refine Zh ?_
     refine Zd (l := [0, 1]) rfl ?_
     refine Za rfl rfl rfl rfl (Zc rfl rfl) ?_
     refine Za rfl rfl rfl rfl (Zk rfl rfl) ?_
     refine Zg ?_
     refine Zh ?_
     obtain ⟨x, hx⟩ := getI (show i < s.l.length by omega)
     obtain ⟨bi, hb1, hb2, hss⟩ := hs.isS (i := i) (by omega)
     have hxo := hok x (List.mem_of_getElem? hx)
     have hfl := fmap_len encHr s.l (i + 1)
     rw [← Yx encHr hx, List.length_append] at hfl
     have htl := congrArg List.length ht
     simp only [List.length_append] at htl
     refine Zd (l := [0, 1, 2, 3, 4, 5, 6, 7]) rfl ?_
     refine Za rfl rfl rfl rfl (Zc rfl rfl) ?_
     refine Za rfl rfl rfl rfl (Ze rfl rfl) ?_
     refine Za rfl rfl rfl rfl (Zj rfl rfl (Zf 0 rfl) (Zt hk) Try.underlying28 rfl) ?_
     rw [hb1]
     refine Za rfl rfl rfl rfl (Zc rfl rfl) ?_
     refine Za rfl rfl rfl rfl (Zo (s := 17) rfl Try.underlying28 i_141 rfl rfl rfl rfl (by omega)) ?_
     refine Za rfl rfl rfl rfl (Xp (s := 17) (vs := (cHr x).toArray) rfl rfl (by rw [← hb2]; exact Zf 1 rfl) Try.underlying141 rfl i_141 rfl (hss.elem cHr_len hx) (by rfl)) ?_
     refine Yw rfl rfl rfl rfl (Ym rfl i_141 rfl) (fun b7 => ?_)
     refine Yj (l1 := []) (L' := [_, _, _]) rfl rfl rfl rfl (Yv (s := 17) rfl rfl rfl (Zf 0 rfl) (by rfl) i_141 rfl (by rfl) (by simp [Value.oneCell', cOp, cWk, cIv, cHr, cLt, cWt, cIt])) rfl ?_
     refine Zg ?_
     refine Zd (l := [0, 1]) rfl ?_
     refine Za rfl rfl rfl rfl (Zc rfl rfl) ?_
     refine G_callB (L2 := [_]) rfl rfl rfl rfl rfl rfl Try.call106 rfl (cw_row b _ _ _ _ hp hu _ x _ _ hxo (by omega)) [1, 1] [2] rfl rfl ?_
     rintro v post ⟨rfl, p1, u1, hp1, hu1, rfl⟩
     show G _ _ _ [_, _, _] _
     refine Zg ?_
     refine Zv ?_
     refine Zd (l := [0, 1]) rfl ?_
     refine Za rfl rfl rfl rfl ((Xe rfl rfl rfl).int (Zw (by omega))) ?_
     refine Za rfl rfl rfl rfl (Zc rfl rfl) ?_
     refine Zg ?_
     refine Yi ?_ [0, 0] ?_ (ih (i + 1, p1, u1, t ++ encHr x, v || badHr x) ?_ ?_)
     · (refine (And.intro ?_ (And.intro ?_ (And.intro ?_ (And.intro ?_ (And.intro ?_ trivial))))) <;> first | rfl | exact Zl (by omega) | exact Zl (by simp))
     · exact ⟨_, rfl⟩
     · exact ⟨by omega, hp1, hu1, by rw [← Yx encHr hx, ht]; simp only [List.append_assoc], by rw [hv, ← anyt_next hx]; simp only [Bool.or_assoc]⟩
     · (first | omega | (dsimp only; omega))
    refine Yr rfl ?_
    refine Yy (post := [_, _]) Try.func105 rfl Zp [0, 0] rfl ?_
    dsimp only [packed]
    have e : s.l.take i = s.l := List.take_of_length_le (by omega)
    rw [e] at ht hv
    subst ht hv
    exact ⟨rfl, p, u, hp, hu, rfl⟩

set_option maxRecDepth 100000 in
set_option maxHeartbeats 1000000 in
theorem cw_listLt (b : Nat) (p : Value) (u : Sl) (tx : List UInt8) (w : Bool) (hp : UsedOr b p) (hu : Txt u tx) (bx k : Nat) (cs : Array Value) (T : TypeId) (fz : Nat × Nat) (s : Ins Lt) (hs : InsOk 6 cLt s) (hok : ∀ x ∈ s.l, OkLt x) (hk : cs[k]? = some (.slice s.p s.l.length s.cap)) (hl : tx.length + (encL encLt s.l).length ≤ 140737488350000) :
    Ct Try.prog 107 [.pointer (some ⟨b, 0, none⟩), .pointer (some ⟨bx, k, none⟩), .func (.func 108) #[.pointer (some ⟨b, 0, none⟩)] #[]] [(some bx, .cells cs T fz), (s.ob, .cells s.cs s.T s.fr)] [(some b, .cells #[p, u.v (tx).length, .pointer none, .bool w] 80 (0, 0)), (u.ob, .cells u.cs 5 u.fz)] fun v post => v = .tuple #[] ∧ ∃ p1 u1, UsedOr b p1 ∧ Txt u1 (tx ++ encL encLt s.l) ∧ post = [(some b, .cells #[p1, u1.v (tx ++ encL encLt s.l).length, .pointer none, .bool (w || badL badLt s.l)] 80 (0, 0)), (u1.ob, .cells u1.cs 5 u1.fz)] := by
 have hl1 := hs.le
 have hl2 := hs.max
 have hln := hs.n
 have hcl := chainI_len (s.l.length : Int) (by omega) (by omega)
 have hl_ := hl
 unfold encL at hl_
 simp only [List.length_append] at hl_
 refine Yu Try.func107 rfl rfl (fun w0 => ?_)
 show G _ _ [(0, _), (1, _), (2, _)] _ _
 refine Zh ?_
 refine Zh ?_
 refine Zd (l := [0, 1, 2, 3, 4]) rfl ?_
 refine Za rfl rfl rfl rfl (Zc rfl rfl) ?_
 refine Za rfl rfl rfl rfl (Ze rfl rfl) ?_
 refine Za rfl rfl rfl rfl (Zb (fo := 2) rfl Try.underlying80 rfl i_74 rfl rfl rfl) ?_
 refine Za rfl rfl rfl rfl (Zj rfl rfl (Zf 2 rfl) rfl Try.underlying74 rfl) ?_
 refine Za rfl rfl rfl rfl (V_peqlN rfl Try.underlying74 rfl rfl) ?_
 refine Zg ?_
 refine G_then rfl ?_
 refine Zh ?_
 refine Zd (l := [0, 1, 2, 3, 4, 5, 6, 7, 8, 9, 10, 11, 12, 13, 14]) rfl ?_
 refine Za rfl rfl rfl rfl (Zc rfl rfl) ?_
 refine Za rfl rfl rfl rfl (Zc rfl rfl) ?_
 refine Za rfl rfl rfl rfl (Ze rfl rfl) ?_
 refine Za rfl rfl rfl rfl (Zb (fo := 3) rfl Try.underlying80 rfl i_4 rfl rfl rfl) ?_
 refine Za rfl rfl rfl rfl (Zj rfl rfl (Zf 2 rfl) rfl Try.underlying4 rfl) ?_
 refine Za rfl rfl rfl rfl (Zc rfl rfl) ?_
 refine G_split 19 rfl (fun hc1 => ?_) (fun hc1 => ?_)
 ·
  refine Yb rfl rfl rfl rfl ?_
  refine Yb rfl rfl rfl rfl ?_
  refine Yb rfl rfl rfl rfl ?_
  refine Yb rfl rfl rfl rfl ?_
  refine Yb rfl rfl rfl rfl ?_
  refine Za rfl rfl rfl rfl (Yz rfl rfl rfl) ?_
  refine Za rfl rfl rfl rfl (Ze rfl rfl) ?_
  refine Za rfl rfl rfl rfl (Zb (fo := 3) rfl Try.underlying80 rfl i_4 rfl rfl rfl) ?_
  refine Yj (l1 := []) (L' := [_, _]) rfl rfl rfl rfl (Zm rfl rfl rfl (Zf 0 rfl) (by first | exact of_decide_eq_true rfl | omega | (simp [cOp, cWk, cIv, cHr, cLt, cWt, cIt]; done) | (simp [cOp, cWk, cIv, cHr, cLt, cWt, cIt]; omega) | (simp [cOp, cWk, cIv, cHr, cLt, cWt, cIt] at *; omega)) i_4 rfl rfl) rfl ?_
  refine Zg ?_
  refine Zh ?_
  refine Yf (Lq := []) (isq := []) (m := 10) Yo rfl rfl ?_
  refine Zi 0 rfl rfl rfl rfl (by kernel_rfl) (fun _ _ => Zc rfl rfl) ?_
  refine Zi 1 rfl rfl rfl rfl (by kernel_rfl) (fun _ _ => Ze rfl rfl) ?_
  refine Zi 2 rfl rfl rfl rfl (by kernel_rfl) (fun _ _ => Zb (fo := 0) rfl Try.underlying80 rfl i_78 rfl rfl rfl) ?_
  refine Zi 3 rfl rfl rfl rfl (by kernel_rfl) (fun _ _ => Zc rfl rfl) ?_
  refine Zi 4 rfl rfl rfl rfl (by kernel_rfl) (fun _ _ => Ze rfl rfl) ?_
  refine Zi 5 rfl rfl rfl rfl (by kernel_rfl) (fun _ _ => Zj rfl rfl (Zf 0 rfl) (Zt hk) Try.underlying29 rfl) ?_
  refine Zi 6 rfl rfl rfl rfl (by kernel_rfl) (fun _ _ => Yp rfl rfl Try.underlying29 rfl) ?_
  refine Zi 7 rfl rfl rfl rfl (by kernel_rfl) (fun _ _ => (Xt rfl rfl Try.underlying3 Try.underlying23).int (Xm (by omega))) ?_
  refine GH_all [8] (by kernel_rfl) (by decide) ?_
  refine (And.intro ?_ trivial)
  ·
   refine Ye (L2 := [_, _]) rfl rfl rfl rfl rfl rfl Try.call80 (Xv _ (by omega) (by omega)) [] [] rfl rfl [] (by rintro v post ⟨rfl, rfl⟩; exact ⟨_, rfl⟩) ?_
   rintro v post ⟨rfl, rfl⟩
   show GH _ _ _ _ _ _ _ [_, _] _
   refine GH_all [9] (by kernel_rfl) (by decide) ?_
   refine (And.intro ?_ trivial)
   ·
    refine Ye (L2 := []) rfl rfl rfl rfl rfl rfl Try.call79 (Xl _ _ _ _ _ _ _ hp hu (by omega)) [0, 0] [] rfl rfl [] (by rintro v post ⟨rfl, u1, hu1, rfl⟩; exact ⟨_, rfl⟩) ?_
    rintro v post ⟨rfl, u1, hu1, rfl⟩
    show GH _ _ _ _ _ _ _ [_, _] _
    refine Ya (by kernel_rfl) ?_
    refine Zh ?_
    refine Zh ?_
    refine Zd (l := [0, 1, 2, 3, 4]) rfl ?_
    refine Za rfl rfl rfl rfl (Zc rfl rfl) ?_
    refine Za rfl rfl rfl rfl (Ze rfl rfl) ?_
    refine Za rfl rfl rfl rfl (Zj rfl rfl (Zf 0 rfl) (Zt hk) Try.underlying29 rfl) ?_
    refine Za rfl rfl rfl rfl (Yp rfl rfl Try.underlying29 rfl) ?_
    refine Za rfl rfl rfl rfl (Zc rfl rfl) ?_
    refine Zg ?_
    refine Zs ?_
    refine Yi ?he4 [0, 0] ?hl4 (Xb (X := Nat × Value × Sl × List UInt8 × Bool) (fun x_ => match x_ with | ⟨i, p, u, t, v⟩ => i ≤ s.l.length ∧ UsedOr b p ∧ Txt u t ∧ t = tx ++ (chainI (s.l.length : Int) ++ (s.l.take i).flatMap encLt) ∧ v = (w || (decide (1000 < (s.l.length : Int)) || (s.l.take i).any badLt))) (fun x_ => match x_ with | ⟨i, p, u, t, v⟩ => s.l.length - i) (fun x_ => match x_ with | ⟨i, p, u, t, v⟩ => [(0, .pointer (some ⟨b, 0, none⟩)), (1, .pointer (some ⟨bx, k, none⟩)), (2, .func (.func 108) #[.pointer (some ⟨b, 0, none⟩)] #[]), (41, .int .i64 (s.l.length : Int)), (42, .int .i64 (i : Int))]) (fun x_ => match x_ with | ⟨i, p, u, t, v⟩ => [(some b, .cells #[p, u.v (t).length, .pointer none, .bool v] 80 (0, 0)), (u.ob, .cells u.cs 5 u.fz)]) ?round4 (0, .pointer (some ⟨b, 0, none⟩), u1, tx ++ chainI (s.l.length : Int), true) ?h04)
    case he4 => exact (And.intro rfl (And.intro rfl (And.intro rfl (And.intro rfl (And.intro rfl trivial)))))
    case hl4 => exact ⟨_, rfl⟩
    case h04 => exact ⟨Nat.zero_le _, .inr rfl, hu1, by simp, by simp [*]⟩
    case round4 =>
     intro x_ hJ ih
     try dsimp only at hJ ih
     obtain ⟨i, p, u, t, v⟩ := x_
     try dsimp only at hJ ih
     obtain ⟨hi, hp, hu, ht, hv⟩ := hJ
     show G _ _ [(0, .pointer (some ⟨b, 0, none⟩)), (1, .pointer (some ⟨bx, k, none⟩)), (2, .func (.func 108) #[.pointer (some ⟨b, 0, none⟩)] #[]), (41, .int .i64 (s.l.length : Int)), (42, .int .i64 (i : Int))] [(some b, .cells #[p, u.v (t).length, .pointer none, .bool v] 80 (0, 0)), (u.ob, .cells u.cs 5 u.fz)] _
     refine Zh ?_
     refine Zd (l := [0]) rfl ?_
     refine Za rfl rfl rfl rfl (Xn rfl rfl rfl) ?_
     refine Zg ?_
     refine Zh ?_
     refine Yk rfl (fun hc2 => ?_) (fun hc2 => ?_)
     ·
      refine Zu ?_
      refine Zh ?_
      refine Zs ?_
      refine Zh ?_
      refine Zd (l := [0, 1]) rfl ?_
      refine Za rfl rfl rfl rfl (Zc rfl rfl) ?_
      refine Za rfl rfl rfl rfl (Zk rfl rfl) ?_
      refine Zg ?_
      refine Zh ?_
      obtain ⟨x, hx⟩ := getI (show i < s.l.length by omega)
      obtain ⟨bi, hb1, hb2, hss⟩ := hs.isS (i := i) (by omega)
      have hxo := hok x (List.mem_of_getElem? hx)
      have hfl := fmap_len encLt s.l (i + 1)
      rw [← Yx encLt hx, List.length_append] at hfl
      have htl := congrArg List.length ht
      simp only [List.length_append] at htl
      refine Zd (l := [0, 1, 2, 3, 4, 5, 6, 7]) rfl ?_
      refine Za rfl rfl rfl rfl (Zc rfl rfl) ?_
      refine Za rfl rfl rfl rfl (Ze rfl rfl) ?_
      refine Za rfl rfl rfl rfl (Zj rfl rfl (Zf 0 rfl) (Zt hk) Try.underlying29 rfl) ?_
      rw [hb1]
      refine Za rfl rfl rfl rfl (Zc rfl rfl) ?_
      refine Za rfl rfl rfl rfl (Zo (s := 6) rfl Try.underlying29 i_143 rfl rfl rfl rfl (by omega)) ?_
      refine Za rfl rfl rfl rfl (Xp (s := 6) (vs := (cLt x).toArray) rfl rfl (by rw [← hb2]; exact Zf 1 rfl) Try.underlying143 rfl i_143 rfl (hss.elem cLt_len hx) (by rfl)) ?_
      refine Yw rfl rfl rfl rfl (Ym rfl i_143 rfl) (fun b7 => ?_)
      refine Yj (l1 := []) (L' := [_, _, _]) rfl rfl rfl rfl (Yv (s := 6) rfl rfl rfl (Zf 0 rfl) (by rfl) i_143 rfl (by rfl) (by simp [Value.oneCell', cOp, cWk, cIv, cHr, cLt, cWt, cIt])) rfl ?_
      refine Zg ?_
      refine Zd (l := [0, 1]) rfl ?_
      refine Za rfl rfl rfl rfl (Zc rfl rfl) ?_
      refine G_callB (L2 := [_]) rfl rfl rfl rfl rfl rfl Try.call108 rfl (cw_letter b _ _ _ _ hp hu _ x _ _ hxo (by omega)) [1, 1] [2] rfl rfl ?_
      rintro v post ⟨rfl, p1, u1, hp1, hu1, rfl⟩
      show G _ _ _ [_, _, _] _
      refine Zg ?_
      refine Zv ?_
      refine Zd (l := [0, 1]) rfl ?_
      refine Za rfl rfl rfl rfl ((Xe rfl rfl rfl).int (Zw (by omega))) ?_
      refine Za rfl rfl rfl rfl (Zc rfl rfl) ?_
      refine Zg ?_
      refine Yi ?_ [0, 0] ?_ (ih (i + 1, p1, u1, t ++ encLt x, v || badLt x) ?_ ?_)
      · (refine (And.intro ?_ (And.intro ?_ (And.intro ?_ (And.intro ?_ (And.intro ?_ trivial))))) <;> first | rfl | exact Zl (by omega) | exact Zl (by simp))
      · exact ⟨_, rfl⟩
      · exact ⟨by omega, hp1, hu1, by rw [← Yx encLt hx, ht]; simp only [List.append_assoc], by rw [hv, ← anyt_next hx]; simp only [Bool.or_assoc]⟩
      · (first | omega | (dsimp only; omega))
     refine Yr rfl ?_
     refine Yy (post := [_, _]) Try.func107 rfl Zp [0, 0] rfl ?_
     dsimp only [packed]
     have e : s.l.take i = s.l := List.take_of_length_le (by omega)
     rw [e] at ht hv
     subst ht hv
     exact ⟨rfl, p, u, hp, hu, rfl⟩
 refine Za rfl rfl rfl rfl (Zc rfl rfl) ?_
 refine Za rfl rfl rfl rfl (Ze rfl rfl) ?_
 refine Za rfl rfl rfl rfl (Zj rfl rfl (Zf 0 rfl) (Zt hk) Try.underlying29 rfl) ?_
 refine Za rfl rfl rfl rfl (Yp rfl rfl Try.underlying29 rfl) ?_
 refine Za rfl rfl rfl rfl (V_gtr rfl rfl rfl) ?_
 refine Za rfl rfl rfl rfl (Xg rfl rfl rfl) ?_
 refine Za rfl rfl rfl rfl (Ze rfl rfl) ?_
 refine Za rfl rfl rfl rfl (Zb (fo := 3) rfl Try.underlying80 rfl i_4 rfl rfl rfl) ?_
 refine Yj (l1 := []) (L' := [_, _]) rfl rfl rfl rfl (Zm rfl rfl rfl (Zf 0 rfl) (by first | exact of_decide_eq_true rfl | omega | (simp [cOp, cWk, cIv, cHr, cLt, cWt, cIt]; done) | (simp [cOp, cWk, cIv, cHr, cLt, cWt, cIt]; omega) | (simp [cOp, cWk, cIv, cHr, cLt, cWt, cIt] at *; omega)) i_4 rfl rfl) rfl ?_
 refine Zg ?_
 refine Zh ?_
 refine Yf (Lq := []) (isq := []) (m := 10) Yo rfl rfl ?_
 refine Zi 0 rfl rfl rfl rfl (by kernel_rfl) (fun _ _ => Zc rfl rfl) ?_
 refine Zi 1 rfl rfl rfl rfl (by kernel_rfl) (fun _ _ => Ze rfl rfl) ?_
 refine Zi 2 rfl rfl rfl rfl (by kernel_rfl) (fun _ _ => Zb (fo := 0) rfl Try.underlying80 rfl i_78 rfl rfl rfl) ?_
 refine Zi 3 rfl rfl rfl rfl (by kernel_rfl) (fun _ _ => Zc rfl rfl) ?_
 refine Zi 4 rfl rfl rfl rfl (by kernel_rfl) (fun _ _ => Ze rfl rfl) ?_
 refine Zi 5 rfl rfl rfl rfl (by kernel_rfl) (fun _ _ => Zj rfl rfl (Zf 0 rfl) (Zt hk) Try.underlying29 rfl) ?_
 refine Zi 6 rfl rfl rfl rfl (by kernel_rfl) (fun _ _ => Yp rfl rfl Try.underlying29 rfl) ?_
 refine Zi 7 rfl rfl rfl rfl (by kernel_rfl) (fun _ _ => (Xt rfl rfl Try.underlying3 Try.underlying23).int (Xm (by omega))) ?_
 refine GH_all [8] (by kernel_rfl) (by decide) ?_
 refine (And.intro ?_ trivial)
 ·
  refine Ye (L2 := [_, _]) rfl rfl rfl rfl rfl rfl Try.call80 (Xv _ (by omega) (by omega)) [] [] rfl rfl [] (by rintro v post ⟨rfl, rfl⟩; exact ⟨_, rfl⟩) ?_
  rintro v post ⟨rfl, rfl⟩
  show GH _ _ _ _ _ _ _ [_, _] _
  refine GH_all [9] (by kernel_rfl) (by decide) ?_
  refine (And.intro ?_ trivial)
  ·
   refine Ye (L2 := []) rfl rfl rfl rfl rfl rfl Try.call79 (Xl _ _ _ _ _ _ _ hp hu (by omega)) [0, 0] [] rfl rfl [] (by rintro v post ⟨rfl, u1, hu1, rfl⟩; exact ⟨_, rfl⟩) ?_
   rintro v post ⟨rfl, u1, hu1, rfl⟩
   show GH _ _ _ _ _ _ _ [_, _] _
   refine Ya (by kernel_rfl) ?_
   refine Zh ?_
   refine Zh ?_
   refine Zd (l := [0, 1, 2, 3, 4]) rfl ?_
   refine Za rfl rfl rfl rfl (Zc rfl rfl) ?_
   refine Za rfl rfl rfl rfl (Ze rfl rfl) ?_
   refine Za rfl rfl rfl rfl (Zj rfl rfl (Zf 0 rfl) (Zt hk) Try.underlying29 rfl) ?_
   refine Za rfl rfl rfl rfl (Yp rfl rfl Try.underlying29 rfl) ?_
   refine Za rfl rfl rfl rfl (Zc rfl rfl) ?_
   refine Zg ?_
   refine Zs ?_
   refine Yi ?he4 [0, 0] ?hl4 (Xb (X := Nat × Value × Sl × List UInt8 × Bool) (fun x_ => match x_ with | ⟨i, p, u, t, v⟩ => i ≤ s.l.length ∧ UsedOr b p ∧ Txt u t ∧ t = tx ++ (chainI (s.l.length : Int) ++ (s.l.take i).flatMap encLt) ∧ v = (w || (decide (1000 < (s.l.length : Int)) || (s.l.take i).any badLt))) (fun x_ => match x_ with | ⟨i, p, u, t, v⟩ => s.l.length - i) (fun x_ => match x_ with | ⟨i, p, u, t, v⟩ => [(0, .pointer (some ⟨b, 0, none⟩)), (1, .pointer (some ⟨bx, k, none⟩)), (2, .func (.func 108) #[.pointer (some ⟨b, 0, none⟩)] #[]), (41, .int .i64 (s.l.length : Int)), (42, .int .i64 (i : Int))]) (fun x_ => match x_ with | ⟨i, p, u, t, v⟩ => [(some b, .cells #[p, u.v (t).length, .pointer none, .bool v] 80 (0, 0)), (u.ob, .cells u.cs 5 u.fz)]) ?round4 (0, .pointer (some ⟨b, 0, none⟩), u1, tx ++ chainI (s.l.length : Int), (decide (1000 < (s.l.length : Int)))) ?h04)
   case he4 => exact (And.intro rfl (And.intro rfl (And.intro rfl (And.intro rfl (And.intro rfl trivial)))))
   case hl4 => exact ⟨_, rfl⟩
   case h04 => exact ⟨Nat.zero_le _, .inr rfl, hu1, by simp, by simp [*]⟩
   case round4 =>
    intro x_ hJ ih
    try dsimp only at hJ ih
    obtain ⟨i, p, u, t, v⟩ := x_
    try dsimp only at hJ ih
    obtain ⟨hi, hp, hu, ht, hv⟩ := hJ
    show G _ _ [(0, .pointer (some ⟨b, 0, none⟩)), (1, .pointer (some ⟨bx, k, none⟩)), (2, .func (.func 108) #[.pointer (some ⟨b, 0, none⟩)] #[]), (41, .int .i64 (s.l.length : Int)), (42, .int .i64 (i : Int))] [(some b, .cells #[p, u.v (t).length, .pointer none, .bool v] 80 (0, 0)), (u.ob, .cells u.cs 5 u.fz)] _
    refine Zh ?_
    refine Zd (l := [0]) rfl ?_
    refine Za rfl rfl rfl rfl (Xn rfl rfl rfl) ?_
    refine Zg ?_
    refine Zh ?_
    refine Yk rfl (fun hc2 => ?_) (fun hc2 => ?_)
    ·
     refine Zu ?_
     refine Zh ?_
     refine Zs ?_
     refine Zh ?_
     refine Zd (l := [0, 1]) rfl ?_
     refine Za rfl rfl rfl rfl (Zc rfl rfl) ?_
     refine Za rfl rfl rfl rfl (Zk rfl rfl) ?_
     refine Zg ?_
     refine Zh ?_
     obtain ⟨x, hx⟩ := getI (show i < s.l.length by omega)
     obtain ⟨bi, hb1, hb2, hss⟩ := hs.isS (i := i) (by omega)
     have hxo := hok x (List.mem_of_getElem? hx)
     have hfl := fmap_len encLt s.l (i + 1)
     rw [← Yx encLt hx, List.length_append] at hfl
     have htl := congrArg List.length ht
     simp only [List.length_append] at htl
     refine Zd (l := [0, 1, 2, 3, 4, 5, 6, 7]) rfl ?_
     refine Za rfl rfl rfl rfl (Zc rfl rfl) ?_
     refine Za rfl rfl rfl rfl (Ze rfl rfl) ?_
     refine Za rfl rfl rfl rfl (Zj rfl rfl (Zf 0 rfl) (Zt hk) Try.underlying29 rfl) ?_
     rw [hb1]
     refine Za rfl rfl rfl rfl (Zc rfl rfl) ?_
     refine Za rfl rfl rfl rfl (Zo (s := 6) rfl Try.underlying29 i_143 rfl rfl rfl rfl (by omega)) ?_
     refine Za rfl rfl rfl rfl (Xp (s := 6) (vs := (cLt x).toArray) rfl rfl (by rw [← hb2]; exact Zf 1 rfl) Try.underlying143 rfl i_143 rfl (hss.elem cLt_len hx) (by rfl)) ?_
     refine Yw rfl rfl rfl rfl (Ym rfl i_143 rfl) (fun b7 => ?_)
     refine Yj (l1 := []) (L' := [_, _, _]) rfl rfl rfl rfl (Yv (s := 6) rfl rfl rfl (Zf 0 rfl) (by rfl) i_143 rfl (by rfl) (by simp [Value.oneCell', cOp, cWk, cIv, cHr, cLt, cWt, cIt])) rfl ?_
     refine Zg ?_
     refine Zd (l := [0, 1]) rfl ?_
     refine Za rfl rfl rfl rfl (Zc rfl rfl) ?_
     refine G_callB (L2 := [_]) rfl rfl rfl rfl rfl rfl Try.call108 rfl (cw_letter b _ _ _ _ hp hu _ x _ _ hxo (by omega)) [1, 1] [2] rfl rfl ?_
     rintro v post ⟨rfl, p1, u1, hp1, hu1, rfl⟩
     show G _ _ _ [_, _, _] _
     refine Zg ?_
     refine Zv ?_
     refine Zd (l := [0, 1]) rfl ?_
     refine Za rfl rfl rfl rfl ((Xe rfl rfl rfl).int (Zw (by omega))) ?_
     refine Za rfl rfl rfl rfl (Zc rfl rfl) ?_
     refine Zg ?_
     refine Yi ?_ [0, 0] ?_ (ih (i + 1, p1, u1, t ++ encLt x, v || badLt x) ?_ ?_)
     · (refine (And.intro ?_ (And.intro ?_ (And.intro ?_ (And.intro ?_ (And.intro ?_ trivial))))) <;> first | rfl | exact Zl (by omega) | exact Zl (by simp))
     · exact ⟨_, rfl⟩
     · exact ⟨by omega, hp1, hu1, by rw [← Yx encLt hx, ht]; simp only [List.append_assoc], by rw [hv, ← anyt_next hx]; simp only [Bool.or_assoc]⟩
     · (first | omega | (dsimp only; omega))
    refine Yr rfl ?_
    refine Yy (post := [_, _]) Try.func107 rfl Zp [0, 0] rfl ?_
    dsimp only [packed]
    have e : s.l.take i = s.l := List.take_of_length_le (by omega)
    rw [e] at ht hv
    subst ht hv
    exact ⟨rfl, p, u, hp, hu, rfl⟩

set_option maxRecDepth 100000 in
set_option maxHeartbeats 1000000 in
theorem cw_listWt (b : Nat) (p : Value) (u : Sl) (tx : List UInt8) (w : Bool) (hp : UsedOr b p) (hu : Txt u tx) (bx k : Nat) (cs : Array Value) (T : TypeId) (fz : Nat × Nat) (s : Ins Wt) (hs : InsOk 2 cWt s) (hok : ∀ x ∈ s.l, OkWt x) (hk : cs[k]? = some (.slice s.p s.l.length s.cap)) (hl : tx.length + (encL encWt s.l).length ≤ 140737488350000) :
    Ct Try.prog 109 [.pointer (some ⟨b, 0, none⟩), .pointer (some ⟨bx, k, none⟩), .func (.func 110) #[.pointer (some ⟨b, 0, none⟩)] #[]] [(some bx, .cells cs T fz), (s.ob, .cells s.cs s.T s.fr)] [(some b, .cells #[p, u.v (tx).length, .pointer none, .bool w] 80 (0, 0)), (u.ob, .cells u.cs 5 u.fz)] fun v post => v = .tuple #[] ∧ ∃ p1 u1, UsedOr b p1 ∧ Txt u1 (tx ++ encL encWt s.l) ∧ post = [(some b, .cells #[p1, u1.v (tx ++ encL encWt s.l).length, .pointer none, .bool (w || badL badWt s.l)] 80 (0, 0)), (u1.ob, .cells u1.cs 5 u1.fz)] := by
 have hl1 := hs.le
 have hl2 := hs.max
 have hln := hs.n
 have hcl := chainI_len (s.l.length : Int) (by omega) (by omega)
 have hl_ := hl
 unfold encL at hl_
 simp only [List.length_append] at hl_
 refine Yu Try.func109 rfl rfl (fun w0 => ?_)
 show G _ _ [(0, _), (1, _), (2, _)] _ _
 refine Zh ?_
 refine Zh ?_
 refine Zd (l := [0, 1, 2, 3, 4]) rfl ?_
 refine Za rfl rfl rfl rfl (Zc rfl rfl) ?_
 refine Za rfl rfl rfl rfl (Ze rfl rfl) ?_
 refine Za rfl rfl rfl rfl (Zb (fo := 2) rfl Try.underlying80 rfl i_74 rfl rfl rfl) ?_
 refine Za rfl rfl rfl rfl (Zj rfl rfl (Zf 2 rfl) rfl Try.underlying74 rfl) ?_
 refine Za rfl rfl rfl rfl (V_peqlN rfl Try.underlying74 rfl rfl) ?_
 refine Zg ?_
 refine G_then rfl ?_
 refine Zh ?_
 refine Zd (l := [0, 1, 2, 3, 4, 5, 6, 7, 8, 9, 10, 11, 12, 13, 14]) rfl ?_
 refine Za rfl rfl rfl rfl (Zc rfl rfl) ?_
 refine Za rfl rfl rfl rfl (Zc rfl rfl) ?_
 refine Za rfl rfl rfl rfl (Ze rfl rfl) ?_
 refine Za rfl rfl rfl rfl (Zb (fo := 3) rfl Try.underlying80 rfl i_4 rfl rfl rfl) ?_
 refine Za rfl rfl rfl rfl (Zj rfl rfl (Zf 2 rfl) rfl Try.underlying4 rfl) ?_
 refine Za rfl rfl rfl rfl (Zc rfl rfl) ?_
 refine G_split 19 rfl (fun hc1 => ?_) (fun hc1 => ?_)
 ·
  refine Yb rfl rfl rfl rfl ?_
  refine Yb rfl rfl rfl rfl ?_
  refine Yb rfl rfl rfl rfl ?_
  refine Yb rfl rfl rfl rfl ?_
  refine Yb rfl rfl rfl rfl ?_
  refine Za rfl rfl rfl rfl (Yz rfl rfl rfl) ?_
  refine Za rfl rfl rfl rfl (Ze rfl rfl) ?_
  refine Za rfl rfl rfl rfl (Zb (fo := 3) rfl Try.underlying80 rfl i_4 rfl rfl rfl) ?_
  refine Yj (l1 := []) (L' := [_, _]) rfl rfl rfl rfl (Zm rfl rfl rfl (Zf 0 rfl) (by first | exact of_decide_eq_true rfl | omega | (simp [cOp, cWk, cIv, cHr, cLt, cWt, cIt]; done) | (simp [cOp, cWk, cIv, cHr, cLt, cWt, cIt]; omega) | (simp [cOp, cWk, cIv, cHr, cLt, cWt, cIt] at *; omega)) i_4 rfl rfl) rfl ?_
  refine Zg ?_
  refine Zh ?_
  refine Yf (Lq := []) (isq := []) (m := 10) Yo rfl rfl ?_
  refine Zi 0 rfl rfl rfl rfl (by kernel_rfl) (fun _ _ => Zc rfl rfl) ?_
  refine Zi 1 rfl rfl rfl rfl (by kernel_rfl) (fun _ _ => Ze rfl rfl) ?_
  refine Zi 2 rfl rfl rfl rfl (by kernel_rfl) (fun _ _ => Zb (fo := 0) rfl Try.underlying80 rfl i_78 rfl rfl rfl) ?_
  refine Zi 3 rfl rfl rfl rfl (by kernel_rfl) (fun _ _ => Zc rfl rfl) ?_
  refine Zi 4 rfl rfl rfl rfl (by kernel_rfl) (fun _ _ => Ze rfl rfl) ?_
  refine Zi 5 rfl rfl rfl rfl (by kernel_rfl) (fun _ _ => Zj rfl rfl (Zf 0 rfl) (Zt hk) Try.underlying30 rfl) ?_
  refine Zi 6 rfl rfl rfl rfl (by kernel_rfl) (fun _ _ => Yp rfl rfl Try.underlying30 rfl) ?_
  refine Zi 7 rfl rfl rfl rfl (by kernel_rfl) (fun _ _ => (Xt rfl rfl Try.underlying3 Try.underlying23).int (Xm (by omega))) ?_
  refine GH_all [8] (by kernel_rfl) (by decide) ?_
  refine (And.intro ?_ trivial)
  ·
   refine Ye (L2 := [_, _]) rfl rfl rfl rfl rfl rfl Try.call80 (Xv _ (by omega) (by omega)) [] [] rfl rfl [] (by rintro v post ⟨rfl, rfl⟩; exact ⟨_, rfl⟩) ?_
   rintro v post ⟨rfl, rfl⟩
   show GH _ _ _ _ _ _ _ [_, _] _
   refine GH_all [9] (by kernel_rfl) (by decide) ?_
   refine (And.intro ?_ trivial)
   ·
    refine Ye (L2 := []) rfl rfl rfl rfl rfl rfl Try.call79 (Xl _ _ _ _ _ _ _ hp hu (by omega)) [0, 0] [] rfl rfl [] (by rintro v post ⟨rfl, u1, hu1, rfl⟩; exact ⟨_, rfl⟩) ?_
    rintro v post ⟨rfl, u1, hu1, rfl⟩
    show GH _ _ _ _ _ _ _ [_, _] _
    refine Ya (by kernel_rfl) ?_
    refine Zh ?_
    refine Zh ?_
    refine Zd (l := [0, 1, 2, 3, 4]) rfl ?_
    refine Za rfl rfl rfl rfl (Zc rfl rfl) ?_
    refine Za rfl rfl rfl rfl (Ze rfl rfl) ?_
    refine Za rfl rfl rfl rfl (Zj rfl rfl (Zf 0 rfl) (Zt hk) Try.underlying30 rfl) ?_
    refine Za rfl rfl rfl rfl (Yp rfl rfl Try.underlying30 rfl) ?_
    refine Za rfl rfl rfl rfl (Zc rfl rfl) ?_
    refine Zg ?_
    refine Zs ?_
    refine Yi ?he4 [0, 0] ?hl4 (Xb (X := Nat × Value × Sl × List UInt8 × Bool) (fun x_ => match x_ with | ⟨i, p, u, t, v⟩ => i ≤ s.l.length ∧ UsedOr b p ∧ Txt u t ∧ t = tx ++ (chainI (s.l.length : Int) ++ (s.l.take i).flatMap encWt) ∧ v = (w || (decide (1000 < (s.l.length : Int)) || (s.l.take i).any badWt))) (fun x_ => match x_ with | ⟨i, p, u, t, v⟩ => s.l.length - i) (fun x_ => match x_ with | ⟨i, p, u, t, v⟩ => [(0, .pointer (some ⟨b, 0, none⟩)), (1, .pointer (some ⟨bx, k, none⟩)), (2, .func (.func 110) #[.pointer (some ⟨b, 0, none⟩)] #[]), (41, .int .i64 (s.l.length : Int)), (42, .int .i64 (i : Int))]) (fun x_ => match x_ with | ⟨i, p, u, t, v⟩ => [(some b, .cells #[p, u.v (t).length, .pointer none, .bool v] 80 (0, 0)), (u.ob, .cells u.cs 5 u.fz)]) ?round4 (0, .pointer (some ⟨b, 0, none⟩), u1, tx ++ chainI (s.l.length : Int), true) ?h04)
    case he4 => exact (And.intro rfl (And.intro rfl (And.intro rfl (And.intro rfl (And.intro rfl trivial)))))
    case hl4 => exact ⟨_, rfl⟩
    case h04 => exact ⟨Nat.zero_le _, .inr rfl, hu1, by simp, by simp [*]⟩
    case round4 =>
     intro x_ hJ ih
     try dsimp only at hJ ih
     obtain ⟨i, p, u, t, v⟩ := x_
     try dsimp only at hJ ih
     obtain ⟨hi, hp, hu, ht, hv⟩ := hJ
     show G _ _ [(0, .pointer (some ⟨b, 0, none⟩)), (1, .pointer (some ⟨bx, k, none⟩)), (2, .func (.func 110) #[.pointer (some ⟨b, 0, none⟩)] #[]), (41, .int .i64 (s.l.length : Int)), (42, .int .i64 (i : Int))] [(some b, .cells #[p, u.v (t).length, .pointer none, .bool v] 80 (0, 0)), (u.ob, .cells u.cs 5 u.fz)] _
     refine Zh ?_
     refine Zd (l := [0]) rfl ?_
     refine Za rfl rfl rfl rfl (Xn rfl rfl rfl) ?_
     refine Zg ?_
     refine Zh ?_
     refine Yk rfl (fun hc2 => ?_) (fun hc2 => ?_)
     ·
      refine Zu ?_
      refine Zh ?_
      refine Zs ?_
      refine Zh ?_
      refine Zd (l := [0, 1]) rfl ?_
      refine Za rfl rfl rfl rfl (Zc rfl rfl) ?_
      refine Za rfl rfl rfl rfl (Zk rfl rfl) ?_
      refine Zg ?_
      refine Zh ?_
      obtain ⟨x, hx⟩ := getI (show i < s.l.length by omega)
      obtain ⟨bi, hb1, hb2, hss⟩ := hs.isS (i := i) (by omega)
      have hxo := hok x (List.mem_of_getElem? hx)
      have hfl := fmap_len encWt s.l (i + 1)
      rw [← Yx encWt hx, List.length_append] at hfl
      have htl := congrArg List.length ht
      simp only [List.length_append] at htl
      refine Zd (l := [0, 1, 2, 3, 4, 5, 6, 7]) rfl ?_
      refine Za rfl rfl rfl rfl (Zc rfl rfl) ?_
      refine Za rfl rfl rfl rfl (Ze rfl rfl) ?_
      refine Za rfl rfl rfl rfl (Zj rfl rfl (Zf 0 rfl) (Zt hk) Try.underlying30 rfl) ?_
      rw [hb1]
      refine Za rfl rfl rfl rfl (Zc rfl rfl) ?_
      refine Za rfl rfl rfl rfl (Zo (s := 2) rfl Try.underlying30 i_145 rfl rfl rfl rfl (by omega)) ?_
      refine Za rfl rfl rfl rfl (Xp (s := 2) (vs := (cWt x).toArray) rfl rfl (by rw [← hb2]; exact Zf 1 rfl) Try.underlying145 rfl i_145 rfl (hss.elem cWt_len hx) (by rfl)) ?_
      refine Yw rfl rfl rfl rfl (Ym rfl i_145 rfl) (fun b7 => ?_)
      refine Yj (l1 := []) (L' := [_, _, _]) rfl rfl rfl rfl (Yv (s := 2) rfl rfl rfl (Zf 0 rfl) (by rfl) i_145 rfl (by rfl) (by simp [Value.oneCell', cOp, cWk, cIv, cHr, cLt, cWt, cIt])) rfl ?_
      refine Zg ?_
      refine Zd (l := [0, 1]) rfl ?_
      refine Za rfl rfl rfl rfl (Zc rfl rfl) ?_
      refine G_callB (L2 := [_]) rfl rfl rfl rfl rfl rfl Try.call110 rfl (cw_watcher b _ _ _ _ hp hu _ x _ _ hxo (by omega)) [1, 1] [2] rfl rfl ?_
      rintro v post ⟨rfl, p1, u1, hp1, hu1, rfl⟩
      show G _ _ _ [_, _, _] _
      refine Zg ?_
      refine Zv ?_
      refine Zd (l := [0, 1]) rfl ?_
      refine Za rfl rfl rfl rfl ((Xe rfl rfl rfl).int (Zw (by omega))) ?_
      refine Za rfl rfl rfl rfl (Zc rfl rfl) ?_
      refine Zg ?_
      refine Yi ?_ [0, 0] ?_ (ih (i + 1, p1, u1, t ++ encWt x, v || badWt x) ?_ ?_)
      · (refine (And.intro ?_ (And.intro ?_ (And.intro ?_ (And.intro ?_ (And.intro ?_ trivial))))) <;> first | rfl | exact Zl (by omega) | exact Zl (by simp))
      · exact ⟨_, rfl⟩
      · exact ⟨by omega, hp1, hu1, by rw [← Yx encWt hx, ht]; simp only [List.append_assoc], by rw [hv, ← anyt_next hx]; simp only [Bool.or_assoc]⟩
      · (first | omega | (dsimp only; omega))
     refine Yr rfl ?_
     refine Yy (post := [_, _]) Try.func109 rfl Zp [0, 0] rfl ?_
     dsimp only [packed]
     have e : s.l.take i = s.l := List.take_of_length_le (by omega)
     rw [e] at ht hv
     subst ht hv
     exact ⟨rfl, p, u, hp, hu, rfl⟩
 refine Za rfl rfl rfl rfl (Zc rfl rfl) ?_
 refine Za rfl rfl rfl rfl (Ze rfl rfl) ?_
 refine Za rfl rfl rfl rfl (Zj rfl rfl (Zf 0 rfl) (Zt hk) Try.underlying30 rfl) ?_
 refine Za rfl rfl rfl rfl (Yp rfl rfl Try.underlying30 rfl) ?_
 refine Za rfl rfl rfl rfl (V_gtr rfl rfl rfl) ?_
 refine Za rfl rfl rfl rfl (Xg rfl rfl rfl) ?_
 refine Za rfl rfl rfl rfl (Ze rfl rfl) ?_
 refine Za rfl rfl rfl rfl (Zb (fo := 3) rfl Try.underlying80 rfl i_4 rfl rfl rfl) ?_
 refine Yj (l1 := []) (L' := [_, _]) rfl rfl rfl rfl (Zm rfl rfl rfl (Zf 0 rfl) (by first | exact of_decide_eq_true rfl | omega | (simp [cOp, cWk, cIv, cHr, cLt, cWt, cIt]; done) | (simp [cOp, cWk, cIv, cHr, cLt, cWt, cIt]; omega) | (simp [cOp, cWk, cIv, cHr, cLt, cWt, cIt] at *; omega)) i_4 rfl rfl) rfl ?_
 refine Zg ?_
 refine Zh ?_
 refine Yf (Lq := []) (isq := []) (m := 10) Yo rfl rfl ?_
 refine Zi 0 rfl rfl rfl rfl (by kernel_rfl) (fun _ _ => Zc rfl rfl) ?_
 refine Zi 1 rfl rfl rfl rfl (by kernel_rfl) (fun _ _ => Ze rfl rfl) ?_
 refine Zi 2 rfl rfl rfl rfl (by kernel_rfl) (fun _ _ => Zb (fo := 0) rfl Try.underlying80 rfl i_78 rfl rfl rfl) ?_
 refine Zi 3 rfl rfl rfl rfl (by kernel_rfl) (fun _ _ => Zc rfl rfl) ?_
 refine Zi 4 rfl rfl rfl rfl (by kernel_rfl) (fun _ _ => Ze rfl rfl) ?_
 refine Zi 5 rfl rfl rfl rfl (by kernel_rfl) (fun _ _ => Zj rfl rfl (Zf 0 rfl) (Zt hk) Try.underlying30 rfl) ?_
 refine Zi 6 rfl rfl rfl rfl (by kernel_rfl) (fun _ _ => Yp rfl rfl Try.underlying30 rfl) ?_
 refine Zi 7 rfl rfl rfl rfl (by kernel_rfl) (fun _ _ => (Xt rfl rfl Try.underlying3 Try.underlying23).int (Xm (by omega))) ?_
 refine GH_all [8] (by kernel_rfl) (by decide) ?_
 refine (And.intro ?_ trivial)
 ·
  refine Ye (L2 := [_, _]) rfl rfl rfl rfl rfl rfl Try.call80 (Xv _ (by omega) (by omega)) [] [] rfl rfl [] (by rintro v post ⟨rfl, rfl⟩; exact ⟨_, rfl⟩) ?_
  rintro v post ⟨rfl, rfl⟩
  show GH _ _ _ _ _ _ _ [_, _] _
  refine GH_all [9] (by kernel_rfl) (by decide) ?_
  refine (And.intro ?_ trivial)
  ·
   refine Ye (L2 := []) rfl rfl rfl rfl rfl rfl Try.call79 (Xl _ _ _ _ _ _ _ hp hu (by omega)) [0, 0] [] rfl rfl [] (by rintro v post ⟨rfl, u1, hu1, rfl⟩; exact ⟨_, rfl⟩) ?_
   rintro v post ⟨rfl, u1, hu1, rfl⟩
   show GH _ _ _ _ _ _ _ [_, _] _
   refine Ya (by kernel_rfl) ?_
   refine Zh ?_
   refine Zh ?_
   refine Zd (l := [0, 1, 2, 3, 4]) rfl ?_
   refine Za rfl rfl rfl rfl (Zc rfl rfl) ?_
   refine Za rfl rfl rfl rfl (Ze rfl rfl) ?_
   refine Za rfl rfl rfl rfl (Zj rfl rfl (Zf 0 rfl) (Zt hk) Try.underlying30 rfl) ?_
   refine Za rfl rfl rfl rfl (Yp rfl rfl Try.underlying30 rfl) ?_
   refine Za rfl rfl rfl rfl (Zc rfl rfl) ?_
   refine Zg ?_
   refine Zs ?_
   refine Yi ?he4 [0, 0] ?hl4 (Xb (X := Nat × Value × Sl × List UInt8 × Bool) (fun x_ => match x_ with | ⟨i, p, u, t, v⟩ => i ≤ s.l.length ∧ UsedOr b p ∧ Txt u t ∧ t = tx ++ (chainI (s.l.length : Int) ++ (s.l.take i).flatMap encWt) ∧ v = (w || (decide (1000 < (s.l.length : Int)) || (s.l.take i).any badWt))) (fun x_ => match x_ with | ⟨i, p, u, t, v⟩ => s.l.length - i) (fun x_ => match x_ with | ⟨i, p, u, t, v⟩ => [(0, .pointer (some ⟨b, 0, none⟩)), (1, .pointer (some ⟨bx, k, none⟩)), (2, .func (.func 110) #[.pointer (some ⟨b, 0, none⟩)] #[]), (41, .int .i64 (s.l.length : Int)), (42, .int .i64 (i : Int))]) (fun x_ => match x_ with | ⟨i, p, u, t, v⟩ => [(some b, .cells #[p, u.v (t).length, .pointer none, .bool v] 80 (0, 0)), (u.ob, .cells u.cs 5 u.fz)]) ?round4 (0, .pointer (some ⟨b, 0, none⟩), u1, tx ++ chainI (s.l.length : Int), (decide (1000 < (s.l.length : Int)))) ?h04)
   case he4 => exact (And.intro rfl (And.intro rfl (And.intro rfl (And.intro rfl (And.intro rfl trivial)))))
   case hl4 => exact ⟨_, rfl⟩
   case h04 => exact ⟨Nat.zero_le _, .inr rfl, hu1, by simp, by simp [*]⟩
   case round4 =>
    intro x_ hJ ih
    try dsimp only at hJ ih
    obtain ⟨i, p, u, t, v⟩ := x_
    try dsimp only at hJ ih
    obtain ⟨hi, hp, hu, ht, hv⟩ := hJ
    show G _ _ [(0, .pointer (some ⟨b, 0, none⟩)), (1, .pointer (some ⟨bx, k, none⟩)), (2, .func (.func 110) #[.pointer (some ⟨b, 0, none⟩)] #[]), (41, .int .i64 (s.l.length : Int)), (42, .int .i64 (i : Int))] [(some b, .cells #[p, u.v (t).length, .pointer none, .bool v] 80 (0, 0)), (u.ob, .cells u.cs 5 u.fz)] _
    refine Zh ?_
    refine Zd (l := [0]) rfl ?_
    refine Za rfl rfl rfl rfl (Xn rfl rfl rfl) ?_
    refine Zg ?_
    refine Zh ?_
    refine Yk rfl (fun hc2 => ?_) (fun hc2 => ?_)
    ·
     refine Zu ?_
     refine Zh ?_
     refine Zs ?_
     refine Zh ?_
     refine Zd (l := [0, 1]) rfl ?_
     refine Za rfl rfl rfl rfl (Zc rfl rfl) ?_
     refine Za rfl rfl rfl rfl (Zk rfl rfl) ?_
     refine Zg ?_
     refine Zh ?_
     obtain ⟨x, hx⟩ := getI (show i < s.l.length by omega)
     obtain ⟨bi, hb1, hb2, hss⟩ := hs.isS (i := i) (by omega)
     have hxo := hok x (List.mem_of_getElem? hx)
     have hfl := fmap_len encWt s.l (i + 1)
     rw [← Yx encWt hx, List.length_append] at hfl
     have htl := congrArg List.length ht
     simp only [List.length_append] at htl
     refine Zd (l := [0, 1, 2, 3, 4, 5, 6, 7]) rfl ?_
     refine Za rfl rfl rfl rfl (Zc rfl rfl) ?_
     refine Za rfl rfl rfl rfl (Ze rfl rfl) ?_
     refine Za rfl rfl rfl rfl (Zj rfl rfl (Zf 0 rfl) (Zt hk) Try.underlying30 rfl) ?_
     rw [hb1]
     refine Za rfl rfl rfl rfl (Zc rfl rfl) ?_
     refine Za rfl rfl rfl rfl (Zo (s := 2) rfl Try.underlying30 i_145 rfl rfl rfl rfl (by omega)) ?_
     refine Za rfl rfl rfl rfl (Xp (s := 2) (vs := (cWt x).toArray) rfl rfl (by rw [← hb2]; exact Zf 1 rfl) Try.underlying145 rfl i_145 rfl (hss.elem cWt_len hx) (by rfl)) ?_
     refine Yw rfl rfl rfl rfl (Ym rfl i_145 rfl) (fun b7 => ?_)
     refine Yj (l1 := []) (L' := [_, _, _]) rfl rfl rfl rfl (Yv (s := 2) rfl rfl rfl (Zf 0 rfl) (by rfl) i_145 rfl (by rfl) (by simp [Value.oneCell', cOp, cWk, cIv, cHr, cLt, cWt, cIt])) rfl ?_
     refine Zg ?_
     refine Zd (l := [0, 1]) rfl ?_
     refine Za rfl rfl rfl rfl (Zc rfl rfl) ?_
     refine G_callB (L2 := [_]) rfl rfl rfl rfl rfl rfl Try.call110 rfl (cw_watcher b _ _ _ _ hp hu _ x _ _ hxo (by omega)) [1, 1] [2] rfl rfl ?_
     rintro v post ⟨rfl, p1, u1, hp1, hu1, rfl⟩
     show G _ _ _ [_, _, _] _
     refine Zg ?_
     refine Zv ?_
     refine Zd (l := [0, 1]) rfl ?_
     refine Za rfl rfl rfl rfl ((Xe rfl rfl rfl).int (Zw (by omega))) ?_
     refine Za rfl rfl rfl rfl (Zc rfl rfl) ?_
     refine Zg ?_
     refine Yi ?_ [0, 0] ?_ (ih (i + 1, p1, u1, t ++ encWt x, v || badWt x) ?_ ?_)
     · (refine (And.intro ?_ (And.intro ?_ (And.intro ?_ (And.intro ?_ (And.intro ?_ trivial))))) <;> first | rfl | exact Zl (by omega) | exact Zl (by simp))
     · exact ⟨_, rfl⟩
     · exact ⟨by omega, hp1, hu1, by rw [← Yx encWt hx, ht]; simp only [List.append_assoc], by rw [hv, ← anyt_next hx]; simp only [Bool.or_assoc]⟩
     · (first | omega | (dsimp only; omega))
    refine Yr rfl ?_
    refine Yy (post := [_, _]) Try.func109 rfl Zp [0, 0] rfl ?_
    dsimp only [packed]
    have e : s.l.take i = s.l := List.take_of_length_le (by omega)
    rw [e] at ht hv
    subst ht hv
    exact ⟨rfl, p, u, hp, hu, rfl⟩

end
end Go.Proofs.Ytjnaeoelnmhjfaa
