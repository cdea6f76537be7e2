/- The law DumpDecodes: of any bytes of at most 4000 the program says as the document does which state they are, or that they are none; a state that was read is written as just these bytes; the call returns true and leaves nothing turned. -/
import Derived.Test.YtjnaeoelnmhjfaaPkDumpDecodes1
import Derived.Test.YtjnaeoelnmhjfaaPkDumpDecodes2
import Derived.Test.YtjnaeoelnmhjfaaPkDumpDecodes3
import Derived.Test.YtjnaeoelnmhjfaaPkDumpDecodes4
import Derived.Test.YtjnaeoelnmhjfaaPkDumpDecodes5
import Derived.Test.YtjnaeoelnmhjfaaPkDumpDecodes6
import Derived.Test.YtjnaeoelnmhjfaaRows
import Derived.WalkKit
import Derived.ProofKit
import Derived.OpenShut
import Derived.ShutString
import Derived.ChangeOld
import Derived.Below
import Derived.Deep.Slices

set_option linter.unusedSimpArgs false
set_option linter.unusedVariables false
namespace Go.Proofs.Ytjnaeoelnmhjfaa
open Go Go.RowKit

section
theorem i_107 : Try.prog.info? 107 = some Try.t107 := by kernel_rfl
theorem zip_v0 : ∀ (l : List Int) (r : List Ds), l.length = r.length → (List.zipWith mkPC l r).map PC.v0 = l
  | [], _, _ => by simp
  | a :: l, [], h => by simp at h
  | a :: l, d :: r, h => by
    show a :: _ = a :: l
    rw [zip_v0 l r (by simpa using h)]
theorem zip_r : ∀ (l : List Int) (r : List Ds), l.length = r.length → (List.zipWith mkPC l r).map (fun c => (c.g, c.l)) = r.map fun s => (s.g, s.s.l.map vDt)
  | [], [], _ => rfl
  | [], d :: r, h => by simp at h
  | a :: l, [], h => by simp at h
  | a :: l, d :: r, h => by
    show (d.g, d.s.l.map vDt) :: _ = _
    rw [zip_r l r (by simpa using h)]; rfl
structure DpEq (y y2 : Dp) : Prop where
  n : y.n = y2.n
  u : y.u = y2.u
  sv : y.sv.l = y2.sv.l
  len : y.sv.l.length = y.sh.l.length
  len2 : y2.sv.l.length = y2.sh.l.length
  sh : y.sh.l.map (fun s => (s.g, s.s.l.map vDt)) = y2.sh.l.map fun s => (s.g, s.s.l.map vDt)
theorem dp_eq {y y2 : Dp} (he : vDp y = vDp y2) (hev : (vDp y).ev = true) : DpEq y y2 := by
  have e1 : EvenDp y := of_decide_eq_true hev
  have e2 : EvenDp y2 := of_decide_eq_true (by rw [he] at hev; exact hev)
  unfold vDp at he
  rw [if_pos e1, if_pos e2] at he
  simp only [PP.mk.injEq] at he
  obtain ⟨h1, h2, _, h4⟩ := he
  refine ⟨h1, h2, ?_, e1, e2, ?_⟩
  · rw [← zip_v0 y.sv.l y.sh.l e1, h4, zip_v0 _ _ e2]
  · rw [← zip_r y.sv.l y.sh.l e1, h4, zip_r _ _ e2]
theorem dp_good {y : Dp} (hg : GPP (vDp y)) {i : Nat} {s : Ds} (hs : y.sh.l[i]? = some s) : ∀ t ∈ s.s.l.map vDt, GPT t := by
  have hev : EvenDp y := of_decide_eq_true hg.2
  have h1 := (gPP_iff.1 hg).2.2.1.2
  have hl : i < y.sv.l.length := by have := (List.getElem?_eq_some_iff.1 hs).1; have := hev; unfold EvenDp at this; omega
  have h2 := h1 (mkPC (y.sv.l[i]) s) (by
    unfold vDp
    rw [if_pos hev]
    refine List.mem_of_getElem? (i := i) ?_
    rw [List.getElem?_zipWith, List.getElem?_eq_getElem hl, hs])
  exact fun t ht => (gPC_iff.1 h2).2.2 t ht

set_option maxRecDepth 100000 in
set_option maxHeartbeats 4000000 in
theorem rs_Dp (s1 s2 : Ins Dp) (hs1 : InsOk 4 cDp s1) (hs2 : InsOk 4 cDp s2) (ok1 : ∀ y ∈ s1.l, OkDp y) (ok2 : ∀ y ∈ s2.l, OkDp y) (he : s1.l.map vDp = s2.l.map vDp) (hg : ∀ y ∈ s1.l, GPP (vDp y)) :
    Ct Try.prog 52 [.slice s1.p s1.l.length s1.cap, .slice s2.p s2.l.length s2.cap] (insK s1 :: insK s2 :: (s1.l.flatMap kDp ++ s2.l.flatMap kDp)) [] fun v post => v = .bool true ∧ post = [] := by
 have hl1 := hs1.le
 have hl2 := hs1.max
 have hl3 := hs2.le
 have hl4 := hs2.max
 have hln := len_of_map he
 refine Yu Try.func52 rfl rfl (fun w0 => ?_)
 show G _ _ [(0, _), (1, _)] _ _
 refine Zh ?_
 refine Zd (l := [0]) rfl ?_
 refine Za rfl rfl rfl rfl (Zk rfl rfl) ?_
 refine Zg ?_
 refine Zh ?_
 refine Zh ?_
 refine Zd (l := [0, 1, 2, 3, 4]) rfl ?_
 refine Za rfl rfl rfl rfl (Zc rfl rfl) ?_
 refine Za rfl rfl rfl rfl (Yp rfl rfl Try.underlying36 rfl) ?_
 refine Za rfl rfl rfl rfl (Zc rfl rfl) ?_
 refine Za rfl rfl rfl rfl (Yp rfl rfl Try.underlying36 rfl) ?_
 refine Za rfl rfl rfl rfl (V_neq rfl rfl rfl) ?_
 refine Zg ?_
 refine Yk rfl (fun hc1 => ?_) (fun hc1 => ?_)
 · (first | contradiction | (exact absurd rfl hc1) | (exfalso; omega))
 refine Zu ?_
 refine Zh ?_
 refine Zh ?_
 refine Zd (l := [0]) rfl ?_
 refine Za rfl rfl rfl rfl (Zk rfl rfl) ?_
 refine Zg ?_
 refine Zs ?_
 refine Yi ?he4 [] ?hl4 (Xb (X := Nat) (fun i => i ≤ s1.l.length) (fun i => s1.l.length - i) (fun i => [(0, .slice s1.p s1.l.length s1.cap), (1, .slice s2.p s2.l.length s2.cap), (5, .int .i64 (i : Int))]) (fun i => []) ?round4 0 ?h04)
 case he4 => exact (And.intro rfl (And.intro rfl (And.intro rfl trivial)))
 case hl4 => exact ⟨_, rfl⟩
 case h04 => exact Nat.zero_le _
 case round4 =>
  intro i hJ ih
  try dsimp only at hJ ih
  refine Zh ?_
  refine Zh ?_
  refine Zd (l := [0, 1, 2, 3]) rfl ?_
  refine Za rfl rfl rfl rfl (Zc rfl rfl) ?_
  refine Za rfl rfl rfl rfl (Zc rfl rfl) ?_
  refine Za rfl rfl rfl rfl (Yp rfl rfl Try.underlying36 rfl) ?_
  refine Za rfl rfl rfl rfl (Xn rfl rfl rfl) ?_
  refine Zg ?_
  refine Yk rfl (fun hc2 => ?_) (fun hc2 => ?_)
  ·
   refine Zu ?_
   refine Zh ?_
   refine Zs ?_
   refine Zh ?_
   obtain ⟨y, hy⟩ := getI (show i < s1.l.length by omega)
   obtain ⟨y2, hy2⟩ := getI (show i < s2.l.length by omega)
   obtain ⟨c1, p1, q1, ss1⟩ := hs1.isS (i := i) (by omega)
   obtain ⟨c2, p2, q2, ss2⟩ := hs2.isS (i := i) (by omega)
   rw [p1, p2]
   have hgy := hg y (List.mem_of_getElem? hy)
   have hv := dp_eq (map_at he hy hy2) hgy.2
   have e0 := hv.n
   have e1 := hv.u
   have e2 := hv.sv
   have e3 := hv.len
   have e4 := hv.len2
   have e5 := len_of_map hv.sh
   have e6 := congrArg List.length e2
   have o1 := ok1 y (List.mem_of_getElem? hy)
   have o2 := ok2 y2 (List.mem_of_getElem? hy2)
   have m1_ := o1.1.le
   have m2_ := o1.1.max
   have m3_ := o2.1.le
   have m4_ := o2.1.max
   have m5_ := o1.2.1.le
   have m6_ := o1.2.1.max
   have m7_ := o2.2.1.le
   have m8_ := o2.2.1.max
   refine Yf (Lq := []) (isq := []) (m := 12) Yo rfl rfl ?_
   refine GH_join (X := Nat × Nat) (fun xj => match xj with | ⟨b6, b7⟩ => [(0, .slice (some ⟨c1, s1.off, none⟩) s1.l.length s1.cap), (1, .slice (some ⟨c2, s2.off, none⟩) s2.l.length s2.cap), (5, .int .i64 (i : Int)), (6, .pointer (some ⟨b6, 0, none⟩)), (7, .pointer (some ⟨b7, 0, none⟩))]) (fun xj => match xj with | ⟨b6, b7⟩ => [(some b6, .cells (cDp y).toArray 106 (0, 0)), (some b7, .cells (cDp y2).toArray 106 (0, 0))]) ?rest6 (fun jn6 => ?main6)
   case rest6 =>
    intro xj
    obtain ⟨b6, b7⟩ := xj
    show G _ _ [(0, .slice (some ⟨c1, s1.off, none⟩) s1.l.length s1.cap), (1, .slice (some ⟨c2, s2.off, none⟩) s2.l.length s2.cap), (5, .int .i64 (i : Int)), (6, .pointer (some ⟨b6, 0, none⟩)), (7, .pointer (some ⟨b7, 0, none⟩))] [(some b6, .cells (cDp y).toArray 106 (0, 0)), (some b7, .cells (cDp y2).toArray 106 (0, 0))] _
    refine Zh ?_
    refine Zh ?_
    refine Zd (l := [0, 1, 2, 3, 4, 5, 6, 7, 8, 9, 10, 11, 12, 13, 14, 15, 16, 17, 18, 19, 20, 21, 22, 23, 24, 25, 26, 27, 28, 29]) rfl ?_
    refine Za rfl rfl rfl rfl (Zb (fo := 0) rfl Try.underlying106 rfl i_9 rfl rfl rfl) ?_
    refine Za rfl rfl rfl rfl (Zj rfl rfl (List.mem_append_right _ (Zf 0 rfl)) rfl Try.underlying9 rfl) ?_
    refine Za rfl rfl rfl rfl (Zb (fo := 0) rfl Try.underlying106 rfl i_9 rfl rfl rfl) ?_
    refine Za rfl rfl rfl rfl (Zj rfl rfl (List.mem_append_right _ (Zf 1 rfl)) rfl Try.underlying9 rfl) ?_
    refine Za rfl rfl rfl rfl (V_sneq rfl rfl rfl) ?_
    refine Za rfl rfl rfl rfl (Zc rfl rfl) ?_
    refine Xa 34 rfl (fun hc3 => ?_) (fun hc3 => ?_)
    · (first | contradiction | (exact absurd rfl hc3) | (exfalso; omega))
    refine Za rfl rfl rfl rfl (Zb (fo := 1) rfl Try.underlying106 rfl i_3 rfl rfl rfl) ?_
    refine Za rfl rfl rfl rfl (Zj rfl rfl (List.mem_append_right _ (Zf 0 rfl)) rfl Try.underlying3 rfl) ?_
    refine Za rfl rfl rfl rfl (Zb (fo := 1) rfl Try.underlying106 rfl i_3 rfl rfl rfl) ?_
    refine Za rfl rfl rfl rfl (Zj rfl rfl (List.mem_append_right _ (Zf 1 rfl)) rfl Try.underlying3 rfl) ?_
    refine Za rfl rfl rfl rfl (V_neq rfl rfl rfl) ?_
    refine Za rfl rfl rfl rfl (Xg rfl rfl rfl) ?_
    refine Za rfl rfl rfl rfl (Zc rfl rfl) ?_
    refine Xa 41 rfl (fun hc4 => ?_) (fun hc4 => ?_)
    · (first | contradiction | (exact absurd rfl hc4) | (exfalso; omega))
    refine Za rfl rfl rfl rfl (Zb (fo := 2) rfl Try.underlying106 rfl i_99 rfl rfl rfl) ?_
    refine Za rfl rfl rfl rfl (Zj rfl rfl (List.mem_append_right _ (Zf 0 rfl)) rfl Try.underlying99 rfl) ?_
    refine Za rfl rfl rfl rfl (Yp rfl rfl Try.underlying99 rfl) ?_
    refine Za rfl rfl rfl rfl (Zb (fo := 2) rfl Try.underlying106 rfl i_99 rfl rfl rfl) ?_
    refine Za rfl rfl rfl rfl (Zj rfl rfl (List.mem_append_right _ (Zf 1 rfl)) rfl Try.underlying99 rfl) ?_
    refine Za rfl rfl rfl rfl (Yp rfl rfl Try.underlying99 rfl) ?_
    refine Za rfl rfl rfl rfl (V_neq rfl rfl rfl) ?_
    refine Za rfl rfl rfl rfl (Xg rfl rfl rfl) ?_
    refine Za rfl rfl rfl rfl (Zc rfl rfl) ?_
    refine Xa 50 rfl (fun hc5 => ?_) (fun hc5 => ?_)
    · (first | contradiction | (exact absurd rfl hc5) | (exfalso; omega))
    refine Za rfl rfl rfl rfl (Zb (fo := 3) rfl Try.underlying106 rfl i_104 rfl rfl rfl) ?_
    refine Za rfl rfl rfl rfl (Zj rfl rfl (List.mem_append_right _ (Zf 0 rfl)) rfl Try.underlying104 rfl) ?_
    refine Za rfl rfl rfl rfl (Yp rfl rfl Try.underlying104 rfl) ?_
    refine Za rfl rfl rfl rfl (Zb (fo := 3) rfl Try.underlying106 rfl i_104 rfl rfl rfl) ?_
    refine Za rfl rfl rfl rfl (Zj rfl rfl (List.mem_append_right _ (Zf 1 rfl)) rfl Try.underlying104 rfl) ?_
    refine Za rfl rfl rfl rfl (Yp rfl rfl Try.underlying104 rfl) ?_
    refine Za rfl rfl rfl rfl (V_neq rfl rfl rfl) ?_
    refine Za rfl rfl rfl rfl (Xg rfl rfl rfl) ?_
    refine Zg ?_
    refine Yk rfl (fun hc6 => ?_) (fun hc6 => ?_)
    · (first | contradiction | (exact absurd rfl hc6) | (exfalso; omega))
    refine Zu ?_
    refine Zh ?_
    refine Zh ?_
    refine Zd (l := [0]) rfl ?_
    refine Za rfl rfl rfl rfl (Zk rfl rfl) ?_
    refine Zg ?_
    refine Zs ?_
    refine Yi ?he10 [0, 0] ?hl10 (Xb (X := Nat) (fun k => k ≤ y.sv.l.length) (fun k => y.sv.l.length - k) (fun k => [(0, .slice (some ⟨c1, s1.off, none⟩) s1.l.length s1.cap), (1, .slice (some ⟨c2, s2.off, none⟩) s2.l.length s2.cap), (5, .int .i64 (i : Int)), (6, .pointer (some ⟨b6, 0, none⟩)), (7, .pointer (some ⟨b7, 0, none⟩)), (8, .int .i64 (k : Int))]) (fun k => [(some b6, .cells (cDp y).toArray 106 (0, 0)), (some b7, .cells (cDp y2).toArray 106 (0, 0))]) ?round10 0 ?h010)
    case he10 => exact (And.intro rfl (And.intro rfl (And.intro rfl (And.intro rfl (And.intro rfl (And.intro rfl trivial))))))
    case hl10 => exact ⟨_, rfl⟩
    case h010 => exact Nat.zero_le _
    case round10 =>
     intro k hJ ih2
     try dsimp only at hJ ih2
     refine Zh ?_
     refine Zh ?_
     refine Zd (l := [0, 1, 2, 3, 4]) rfl ?_
     refine Za rfl rfl rfl rfl (Zc rfl rfl) ?_
     refine Za rfl rfl rfl rfl (Zb (fo := 2) rfl Try.underlying106 rfl i_99 rfl rfl rfl) ?_
     refine Za rfl rfl rfl rfl (Zj rfl rfl (List.mem_append_right _ (Zf 0 rfl)) rfl Try.underlying99 rfl) ?_
     refine Za rfl rfl rfl rfl (Yp rfl rfl Try.underlying99 rfl) ?_
     refine Za rfl rfl rfl rfl (Xn rfl rfl rfl) ?_
     refine Zg ?_
     refine Yk rfl (fun hc7 => ?_) (fun hc7 => ?_)
     ·
      refine Zu ?_
      refine Zh ?_
      refine Zs ?_
      refine Zh ?_
      obtain ⟨a, ha⟩ := getI (show k < y.sv.l.length by omega)
      have ha2 : y2.sv.l[k]? = some a := by rw [← e2]; exact ha
      obtain ⟨c3, p3, q3, ss3⟩ := ins_nil o1.1 ha
      obtain ⟨c4, p4, q4, ss4⟩ := ins_nil o2.1 ha2
      refine Yf (Lq := [_, _]) (isq := [0, 0]) (m := 11) Yo rfl rfl ?_
      refine Zi 0 rfl rfl rfl rfl (by kernel_rfl) (fun _ _ => Zb (fo := 2) rfl Try.underlying106 rfl i_99 rfl rfl rfl) ?_
      refine Zi 1 rfl rfl rfl rfl (by kernel_rfl) (fun _ _ => Zj rfl rfl (List.mem_append_right _ (Zf 0 rfl)) rfl Try.underlying99 rfl) ?_
      rw [p3]
      refine Zi 2 rfl rfl rfl rfl (by kernel_rfl) (fun _ _ => Zc rfl rfl) ?_
      refine Zi 3 rfl rfl rfl rfl (by kernel_rfl) (fun _ _ => Zo (s := 1) rfl Try.underlying99 i_3 rfl rfl rfl rfl (by omega)) ?_
      refine Zi 4 rfl rfl rfl rfl (by kernel_rfl) (fun _ _ => Zj rfl rfl (by rw [← Xc q3]; exact List.mem_append_left _ (in_a1 hy (by unfold kDp; simp))) (Zt (Xr ss3 i1_len ha 0 (by omega) rfl)) Try.underlying3 rfl) ?_
      refine Zi 5 rfl rfl rfl rfl (by kernel_rfl) (fun _ _ => Zb (fo := 2) rfl Try.underlying106 rfl i_99 rfl rfl rfl) ?_
      refine Zi 6 rfl rfl rfl rfl (by kernel_rfl) (fun _ _ => Zj rfl rfl (List.mem_append_right _ (Zf 1 rfl)) rfl Try.underlying99 rfl) ?_
      rw [p4]
      refine Zi 7 rfl rfl rfl rfl (by kernel_rfl) (fun _ _ => Zc rfl rfl) ?_
      refine Zi 8 rfl rfl rfl rfl (by kernel_rfl) (fun _ _ => Zo (s := 1) rfl Try.underlying99 i_3 rfl rfl rfl rfl (by omega)) ?_
      refine Zi 9 rfl rfl rfl rfl (by kernel_rfl) (fun _ _ => Zj rfl rfl (by rw [← Xc q4]; exact List.mem_append_left _ (in_a2 hy2 (by unfold kDp; simp))) (Zt (Xr ss4 i1_len ha2 0 (by omega) rfl)) Try.underlying3 rfl) ?_
      refine Zi 10 rfl rfl rfl rfl (by kernel_rfl) (fun _ _ => V_neq rfl rfl rfl) ?_
      refine Ya (by kernel_rfl) ?_
      refine Yk rfl (fun hc8 => ?_) (fun hc8 => ?_)
      · (first | contradiction | (exact absurd rfl hc8) | (exfalso; omega))
      refine Zu ?_
      refine Zv ?_
      refine Zd (l := [0, 1, 2]) rfl ?_
      refine Za rfl rfl rfl rfl (Zc rfl rfl) ?_
      refine Za rfl rfl rfl rfl ((Xe rfl rfl rfl).int (Zw (by omega))) ?_
      refine Za rfl rfl rfl rfl (Zk rfl rfl) ?_
      refine Zg ?_
      refine Yi ?_ [0, 0] ?_ (ih2 (k + 1) ?_ ?_)
      · (refine (And.intro ?_ (And.intro ?_ (And.intro ?_ (And.intro ?_ (And.intro ?_ (And.intro ?_ trivial)))))) <;> first | rfl | exact Zl (by omega) | exact Zl (by simp))
      · exact ⟨_, rfl⟩
      · omega
      · (first | omega | (dsimp only; omega))
     refine Yr rfl ?_
     refine Zh ?_
     refine Zd (l := [0]) rfl ?_
     refine Za rfl rfl rfl rfl (Zk rfl rfl) ?_
     refine Zg ?_
     refine Zs ?_
     refine Yi ?he15 [0, 0] ?hl15 (Xb (X := Nat) (fun k => k ≤ y.sh.l.length) (fun k => y.sh.l.length - k) (fun k => [(0, .slice (some ⟨c1, s1.off, none⟩) s1.l.length s1.cap), (1, .slice (some ⟨c2, s2.off, none⟩) s2.l.length s2.cap), (5, .int .i64 (i : Int)), (6, .pointer (some ⟨b6, 0, none⟩)), (7, .pointer (some ⟨b7, 0, none⟩)), (9, .int .i64 (k : Int))]) (fun k => [(some b6, .cells (cDp y).toArray 106 (0, 0)), (some b7, .cells (cDp y2).toArray 106 (0, 0))]) ?round15 0 ?h015)
     case he15 => exact (And.intro rfl (And.intro rfl (And.intro rfl (And.intro rfl (And.intro rfl (And.intro rfl trivial))))))
     case hl15 => exact ⟨_, rfl⟩
     case h015 => exact Nat.zero_le _
     case round15 =>
      intro k hJ ih3
      try dsimp only at hJ ih3
      refine Zh ?_
      refine Zh ?_
      refine Zd (l := [0, 1, 2, 3, 4]) rfl ?_
      refine Za rfl rfl rfl rfl (Zc rfl rfl) ?_
      refine Za rfl rfl rfl rfl (Zb (fo := 3) rfl Try.underlying106 rfl i_104 rfl rfl rfl) ?_
      refine Za rfl rfl rfl rfl (Zj rfl rfl (List.mem_append_right _ (Zf 0 rfl)) rfl Try.underlying104 rfl) ?_
      refine Za rfl rfl rfl rfl (Yp rfl rfl Try.underlying104 rfl) ?_
      refine Za rfl rfl rfl rfl (Xn rfl rfl rfl) ?_
      refine Zg ?_
      refine Yk rfl (fun hc8 => ?_) (fun hc8 => ?_)
      ·
       refine Zu ?_
       refine Zh ?_
       refine Zs ?_
       refine Zh ?_
       obtain ⟨a, ha⟩ := getI (show k < y.sh.l.length by omega)
       obtain ⟨a2, ha2⟩ := getI (show k < y2.sh.l.length by omega)
       obtain ⟨c3, p3, q3, ss3⟩ := ins_nil o1.2.1 ha
       obtain ⟨c4, p4, q4, ss4⟩ := ins_nil o2.2.1 ha2
       have hm := map_at hv.sh ha ha2
       simp only [Prod.mk.injEq] at hm
       obtain ⟨hm1, hm2⟩ := hm
       have oa := o1.2.2 a (List.mem_of_getElem? ha)
       have oa2 := o2.2.2 a2 (List.mem_of_getElem? ha2)
       have hgt := fun t ht => dp_good hgy ha _ (List.mem_map.2 ⟨t, ht, rfl⟩)
       refine Yf (Lq := [_, _]) (isq := [0, 0]) (m := 29) Yo rfl rfl ?_
       refine Zi 0 rfl rfl rfl rfl (by kernel_rfl) (fun _ _ => Zb (fo := 3) rfl Try.underlying106 rfl i_104 rfl rfl rfl) ?_
       refine Zi 1 rfl rfl rfl rfl (by kernel_rfl) (fun _ _ => Zj rfl rfl (List.mem_append_right _ (Zf 0 rfl)) rfl Try.underlying104 rfl) ?_
       rw [p3]
       refine Zi 2 rfl rfl rfl rfl (by kernel_rfl) (fun _ _ => Zc rfl rfl) ?_
       refine Zi 3 rfl rfl rfl rfl (by kernel_rfl) (fun _ _ => Zo (s := 3) rfl Try.underlying104 i_111 rfl rfl rfl rfl (by omega)) ?_
       refine Zi 4 rfl rfl rfl rfl (by kernel_rfl) (fun _ _ => Zb (fo := _ + 2) rfl Try.underlying111 rfl i_4 rfl rfl rfl) ?_
       refine Zi 5 rfl rfl rfl rfl (by kernel_rfl) (fun _ _ => Zj rfl rfl (by rw [← Xc q3]; exact List.mem_append_left _ (in_a1 hy (by unfold kDp; simp))) (Zt (Xr ss3 cDs_len ha 2 (by omega) rfl)) Try.underlying4 rfl) ?_
       refine Zi 6 rfl rfl rfl rfl (by kernel_rfl) (fun _ _ => Zb (fo := 3) rfl Try.underlying106 rfl i_104 rfl rfl rfl) ?_
       refine Zi 7 rfl rfl rfl rfl (by kernel_rfl) (fun _ _ => Zj rfl rfl (List.mem_append_right _ (Zf 1 rfl)) rfl Try.underlying104 rfl) ?_
       rw [p4]
       refine Zi 8 rfl rfl rfl rfl (by kernel_rfl) (fun _ _ => Zc rfl rfl) ?_
       refine Zi 9 rfl rfl rfl rfl (by kernel_rfl) (fun _ _ => Zo (s := 3) rfl Try.underlying104 i_111 rfl rfl rfl rfl (by omega)) ?_
       refine Zi 10 rfl rfl rfl rfl (by kernel_rfl) (fun _ _ => Zb (fo := _ + 2) rfl Try.underlying111 rfl i_4 rfl rfl rfl) ?_
       refine Zi 11 rfl rfl rfl rfl (by kernel_rfl) (fun _ _ => Zj rfl rfl (by rw [← Xc q4]; exact List.mem_append_left _ (in_a2 hy2 (by unfold kDp; simp))) (Zt (Xr ss4 cDs_len ha2 2 (by omega) rfl)) Try.underlying4 rfl) ?_
       refine Zi 12 rfl rfl rfl rfl (by kernel_rfl) (fun _ _ => V_bneq rfl Try.underlying4 rfl rfl) ?_
       refine Zi 13 rfl rfl rfl rfl (by kernel_rfl) (fun _ _ => Zc rfl rfl) ?_
       refine GH_splitD 97 rfl (fun hc9 => ?_) (fun hc9 => ?_)
       · (first | contradiction | (exact absurd rfl hc9) | (exfalso; omega))
       refine Zi 14 rfl rfl rfl rfl (by kernel_rfl) (fun _ _ => Zb (fo := 3) rfl Try.underlying106 rfl i_104 rfl rfl rfl) ?_
       refine Zi 15 rfl rfl rfl rfl (by kernel_rfl) (fun _ _ => Zj rfl rfl (List.mem_append_right _ (Zf 0 rfl)) rfl Try.underlying104 rfl) ?_
       rw [p3]
       refine Zi 16 rfl rfl rfl rfl (by kernel_rfl) (fun _ _ => Zc rfl rfl) ?_
       refine Zi 17 rfl rfl rfl rfl (by kernel_rfl) (fun _ _ => Zo (s := 3) rfl Try.underlying104 i_111 rfl rfl rfl rfl (by omega)) ?_
       refine Zi 18 rfl rfl rfl rfl (by kernel_rfl) (fun _ _ => Zb (fo := _ + 1) rfl Try.underlying111 rfl i_107 rfl rfl rfl) ?_
       refine Zi 19 rfl rfl rfl rfl (by kernel_rfl) (fun _ _ => Zj rfl rfl (by rw [← Xc q3]; exact List.mem_append_left _ (in_a1 hy (by unfold kDp; simp))) (Zt (Xr ss3 cDs_len ha 1 (by omega) rfl)) Try.underlying107 rfl) ?_
       refine Zi 20 rfl rfl rfl rfl (by kernel_rfl) (fun _ _ => Zb (fo := 3) rfl Try.underlying106 rfl i_104 rfl rfl rfl) ?_
       refine Zi 21 rfl rfl rfl rfl (by kernel_rfl) (fun _ _ => Zj rfl rfl (List.mem_append_right _ (Zf 1 rfl)) rfl Try.underlying104 rfl) ?_
       rw [p4]
       refine Zi 22 rfl rfl rfl rfl (by kernel_rfl) (fun _ _ => Zc rfl rfl) ?_
       refine Zi 23 rfl rfl rfl rfl (by kernel_rfl) (fun _ _ => Zo (s := 3) rfl Try.underlying104 i_111 rfl rfl rfl rfl (by omega)) ?_
       refine Zi 24 rfl rfl rfl rfl (by kernel_rfl) (fun _ _ => Zb (fo := _ + 1) rfl Try.underlying111 rfl i_107 rfl rfl rfl) ?_
       refine Zi 25 rfl rfl rfl rfl (by kernel_rfl) (fun _ _ => Zj rfl rfl (by rw [← Xc q4]; exact List.mem_append_left _ (in_a2 hy2 (by unfold kDp; simp))) (Zt (Xr ss4 cDs_len ha2 1 (by omega) rfl)) Try.underlying107 rfl) ?_
       refine GH_all [26] (by kernel_rfl) (by decide) ?_
       refine (And.intro ?_ trivial)
       ·
        refine Xy (L2 := [_, _]) rfl rfl rfl rfl rfl rfl Try.call116 (rs_Dt a.s a2.s oa.1 oa2.1 oa.2 oa2.2 hm2 hgt) [] rfl (sub_2 (fun z hz => List.mem_append_left _ (in_a1 hy (List.mem_cons_of_mem _ (List.mem_cons_of_mem _ (List.mem_flatMap.2 ⟨a, List.mem_of_getElem? ha, hz⟩))))) (fun z hz => List.mem_append_left _ (in_a2 hy2 (List.mem_cons_of_mem _ (List.mem_cons_of_mem _ (List.mem_flatMap.2 ⟨a2, List.mem_of_getElem? ha2, hz⟩)))))) [0, 0] (by rintro v post ⟨rfl, rfl⟩; exact ⟨_, rfl⟩) ?_
        rintro v post ⟨rfl, rfl⟩
        show GH _ _ _ _ _ _ _ [_, _] _
        refine Zi 27 rfl rfl rfl rfl (by kernel_rfl) (fun _ _ => V_not rfl rfl) ?_
        refine Zi 28 rfl rfl rfl rfl (by kernel_rfl) (fun _ _ => Xg rfl rfl rfl) ?_
        refine Ya (by kernel_rfl) ?_
        refine Xu rfl ?_
        refine Zu ?_
        refine Zv ?_
        refine Zd (l := [0, 1, 2]) rfl ?_
        refine Za rfl rfl rfl rfl (Zc rfl rfl) ?_
        refine Za rfl rfl rfl rfl ((Xe rfl rfl rfl).int (Zw (by omega))) ?_
        refine Za rfl rfl rfl rfl (Zk rfl rfl) ?_
        refine Zg ?_
        refine Yi ?_ [0, 0] ?_ (ih3 (k + 1) ?_ ?_)
        · (refine (And.intro ?_ (And.intro ?_ (And.intro ?_ (And.intro ?_ (And.intro ?_ (And.intro ?_ trivial)))))) <;> first | rfl | exact Zl (by omega) | exact Zl (by simp))
        · exact ⟨_, rfl⟩
        · omega
        · (first | omega | (dsimp only; omega))
      refine Yr rfl ?_
      refine Zv ?_
      refine Zd (l := [0, 1, 2]) rfl ?_
      refine Za rfl rfl rfl rfl (Zc rfl rfl) ?_
      refine Za rfl rfl rfl rfl ((Xe rfl rfl rfl).int (Zw (by omega))) ?_
      refine Za rfl rfl rfl rfl (Zk rfl rfl) ?_
      refine Zg ?_
      refine Yi ?_ [] ?_ (ih (i + 1) ?_ ?_)
      · (refine (And.intro ?_ (And.intro ?_ (And.intro ?_ trivial))) <;> first | rfl | exact Zl (by omega) | (rw [p1]; rfl) | (rw [p2]; rfl))
      · exact ⟨_, rfl⟩
      · omega
      · (first | omega | (dsimp only; omega))
   case main6 =>
    refine Zi 0 rfl rfl rfl rfl (by kernel_rfl) (fun _ _ => Zc rfl rfl) ?_
    refine Zi 1 rfl rfl rfl rfl (by kernel_rfl) (fun _ _ => Zc rfl rfl) ?_
    refine Zi 2 rfl rfl rfl rfl (by kernel_rfl) (fun _ _ => Zo (s := 4) rfl Try.underlying36 i_106 rfl rfl rfl rfl (by omega)) ?_
    refine Zi 3 rfl rfl rfl rfl (by kernel_rfl) (fun _ _ => Xp (s := 4) (vs := (cDp y).toArray) rfl rfl (by rw [← Xc q1]; exact List.mem_append_left _ (Zf 0 rfl)) Try.underlying106 rfl i_106 rfl (ss1.elem cDp_len hy) (by rfl)) ?_
    refine Zi 4 rfl rfl rfl rfl (by kernel_rfl) (fun _ _ => Zc rfl rfl) ?_
    refine Zi 5 rfl rfl rfl rfl (by kernel_rfl) (fun _ _ => Zc rfl rfl) ?_
    refine Zi 6 rfl rfl rfl rfl (by kernel_rfl) (fun _ _ => Zo (s := 4) rfl Try.underlying36 i_106 rfl rfl rfl rfl (by omega)) ?_
    refine Zi 7 rfl rfl rfl rfl (by kernel_rfl) (fun _ _ => Xp (s := 4) (vs := (cDp y2).toArray) rfl rfl (by rw [← Xc q2]; exact List.mem_append_left _ (Zf 1 rfl)) Try.underlying106 rfl i_106 rfl (ss2.elem cDp_len hy2) (by rfl)) ?_
    refine GH_all [8, 9] (by kernel_rfl) (by decide) ?_
    refine (And.intro ?_ (And.intro ?_ trivial))
    ·
     refine Yl rfl rfl rfl rfl (Ym rfl i_106 rfl) [] (fun _ => ⟨_, rfl⟩) (fun b6 => ?_)
     refine GH_all [9] (by kernel_rfl) (by decide) ?_
     refine (And.intro ?_ trivial)
     ·
      refine Yl rfl rfl rfl rfl (Ym rfl i_106 rfl) [] (fun _ => ⟨_, rfl⟩) (fun b7 => ?_)
      refine GH_all [10] (by kernel_rfl) (by decide) ?_
      refine (And.intro ?_ trivial)
      ·
       refine Xk (l1 := [_]) (L' := [_, _]) rfl rfl rfl rfl (Yv (s := 4) rfl rfl rfl (Zf 1 rfl) (by rfl) i_106 rfl (by rfl) (by simp [Value.oneCell', cOp, cWk, cIv, cHr, cLt, cWt, cIt, cFl, cTn, cCl, cPo, cSt, cDt, cDs, Sl.v, zIns, insV, cDp, cDst])) rfl [] rfl ?_
       refine GH_all [11] (by kernel_rfl) (by decide) ?_
       refine (And.intro ?_ trivial)
       ·
        refine Xk (l1 := []) (L' := [_, _]) rfl rfl rfl rfl (Yv (s := 4) rfl rfl rfl (Zf 0 rfl) (by rfl) i_106 rfl (by rfl) (by simp [Value.oneCell', cOp, cWk, cIv, cHr, cLt, cWt, cIt, cFl, cTn, cCl, cPo, cSt, cDt, cDs, Sl.v, zIns, insV, cDp, cDst])) rfl [] rfl ?_
        refine Ya (by kernel_rfl) ?_
        exact Yi (by exact (And.intro rfl (And.intro rfl (And.intro rfl (And.intro rfl (And.intro rfl trivial)))))) [1, 0] (by exact ⟨_, rfl⟩) (jn6 (b6, b7))
    ·
     refine Yl rfl rfl rfl rfl (Ym rfl i_106 rfl) [] (fun _ => ⟨_, rfl⟩) (fun b7 => ?_)
     refine GH_all [8] (by kernel_rfl) (by decide) ?_
     refine (And.intro ?_ trivial)
     ·
      refine Yl rfl rfl rfl rfl (Ym rfl i_106 rfl) [] (fun _ => ⟨_, rfl⟩) (fun b6 => ?_)
      refine GH_all [10] (by kernel_rfl) (by decide) ?_
      refine (And.intro ?_ trivial)
      ·
       refine Xk (l1 := []) (L' := [_, _]) rfl rfl rfl rfl (Yv (s := 4) rfl rfl rfl (Zf 0 rfl) (by rfl) i_106 rfl (by rfl) (by simp [Value.oneCell', cOp, cWk, cIv, cHr, cLt, cWt, cIt, cFl, cTn, cCl, cPo, cSt, cDt, cDs, Sl.v, zIns, insV, cDp, cDst])) rfl [] rfl ?_
       refine GH_all [11] (by kernel_rfl) (by decide) ?_
       refine (And.intro ?_ trivial)
       ·
        refine Xk (l1 := [_]) (L' := [_, _]) rfl rfl rfl rfl (Yv (s := 4) rfl rfl rfl (Zf 1 rfl) (by rfl) i_106 rfl (by rfl) (by simp [Value.oneCell', cOp, cWk, cIv, cHr, cLt, cWt, cIt, cFl, cTn, cCl, cPo, cSt, cDt, cDs, Sl.v, zIns, insV, cDp, cDst])) rfl [] rfl ?_
        refine Ya (by kernel_rfl) ?_
        exact Yi (by exact (And.intro rfl (And.intro rfl (And.intro rfl (And.intro rfl (And.intro rfl trivial)))))) [0, 0] (by exact ⟨_, rfl⟩) (jn6 (b6, b7))
  refine Yr rfl ?_
  refine Zh ?_
  refine Zd (l := [0]) rfl ?_
  refine Za rfl rfl rfl rfl (Zk rfl rfl) ?_
  refine Zg ?_
  refine Yy (post := []) Try.func52 rfl (Zy (Yt rfl) Zp) [] rfl ?_
  dsimp only [packed]
  exact ⟨rfl, rfl⟩


theorem po_in {x : Dst} {z : HBk} (hz : z ∈ insK x.po :: x.po.l.flatMap kDp) : z ∈ kDst x := by
  unfold kDst
  simp only [List.mem_cons] at hz ⊢
  grind

set_option maxRecDepth 100000 in
set_option maxHeartbeats 4000000 in
theorem rs_state (x y : Dst) (hx : MkDst x) (hy : MkDst y) (he : vDst x = vDst y) (hg : GPS (vDst x)) :
    Ct Try.prog 13 [.agg (cDst x).toArray, .agg (cDst y).toArray] ((kDst x ++ kDst y)) [] fun v post => v = .bool true ∧ post = [] := by
 have e_v0 := congrArg PS.v0 he
 have e_g := congrArg PS.g he
 have e_v2 := congrArg PS.v2 he
 have e_v3 := congrArg PS.v3 he
 have e_v4 := congrArg PS.v4 he
 have e_v5 := congrArg PS.v5 he
 have e_v6 := congrArg PS.v6 he
 have e_li := congrArg PS.li he
 have e_en := congrArg PS.en he
 have e_wo := congrArg PS.wo he
 have e_iv := congrArg PS.iv he
 have e_po := congrArg PS.po he
 have e_hi := congrArg PS.hi he
 have e_le := congrArg PS.le he
 have e_wa := congrArg PS.wa he
 simp only [vDst] at e_v0 e_g e_v2 e_v3 e_v4 e_v5 e_v6 e_li e_en e_wo e_iv e_po e_hi e_le e_wa
 obtain ⟨_, _, g_li, g_en, g_wo, g_iv, g_po, g_hi, g_le, g_wa⟩ := gPS_iff.1 hg
 replace g_li := g_li.2
 replace g_en := g_en.2
 replace g_wo := g_wo.2
 replace g_iv := g_iv.2
 replace g_po := g_po.2
 replace g_hi := g_hi.2
 replace g_le := g_le.2
 replace g_wa := g_wa.2
 replace g_po : ∀ p ∈ x.po.l, GPP (vDp p) := fun p hp => g_po _ (List.mem_map.2 ⟨p, hp, rfl⟩)
 have e_v0 : (x.v0 : Int) = (y.v0 : Int) := by rw [e_v0]
 refine Yu Try.func13 rfl rfl (fun w0 => ?_)
 show G _ _ [(0, _), (1, _)] _ _
 refine Zh ?_
 refine Zd (l := [0, 1, 2]) rfl ?_
 refine Yw rfl rfl rfl rfl (N_boxA rfl rfl) (fun b2 => ?_)
 refine Yw rfl rfl rfl rfl (N_boxA rfl rfl) (fun b3 => ?_)
 refine Za rfl rfl rfl rfl (Zk rfl rfl) ?_
 refine Zg ?_
 refine Zh ?_
 refine Zd (l := [0, 1, 2, 3, 4, 5, 6, 7, 8, 9, 10, 11, 12, 13, 14, 15, 16, 17, 18, 19, 20, 21, 22, 23, 24, 25, 26, 27, 28, 29, 30, 31, 32, 33, 34, 35, 36, 37, 38, 39, 40, 41, 42, 43, 44, 45, 46, 47]) rfl ?_
 refine Za rfl rfl rfl rfl (Zb (fo := 0) rfl Try.underlying38 rfl i_23 rfl rfl rfl) ?_
 refine Za rfl rfl rfl rfl (Zj rfl rfl (List.mem_append_right _ (Zf 1 rfl)) rfl Try.underlying23 rfl) ?_
 refine Za rfl rfl rfl rfl (Zb (fo := 0) rfl Try.underlying38 rfl i_23 rfl rfl rfl) ?_
 refine Za rfl rfl rfl rfl (Zj rfl rfl (List.mem_append_right _ (Zf 0 rfl)) rfl Try.underlying23 rfl) ?_
 refine Za rfl rfl rfl rfl (V_eql rfl rfl rfl) ?_
 refine Za rfl rfl rfl rfl (Zc rfl rfl) ?_
 refine Xa 12 rfl (fun hc1 => ?_) (fun hc1 => ?_)
 rotate_left
 · (first | contradiction | (exact absurd rfl hc1) | (exfalso; omega))
 refine Za rfl rfl rfl rfl (Zb (fo := 1) rfl Try.underlying38 rfl i_4 rfl rfl rfl) ?_
 refine Za rfl rfl rfl rfl (Zj rfl rfl (List.mem_append_right _ (Zf 1 rfl)) rfl Try.underlying4 rfl) ?_
 refine Za rfl rfl rfl rfl (Zb (fo := 1) rfl Try.underlying38 rfl i_4 rfl rfl rfl) ?_
 refine Za rfl rfl rfl rfl (Zj rfl rfl (List.mem_append_right _ (Zf 0 rfl)) rfl Try.underlying4 rfl) ?_
 refine Za rfl rfl rfl rfl (V_beql rfl Try.underlying4 rfl rfl) ?_
 refine Za rfl rfl rfl rfl (Yz rfl rfl rfl) ?_
 refine Za rfl rfl rfl rfl (Zc rfl rfl) ?_
 refine Xa 19 rfl (fun hc2 => ?_) (fun hc2 => ?_)
 rotate_left
 · (first | contradiction | (exact absurd rfl hc2) | (exfalso; omega))
 refine Za rfl rfl rfl rfl (Zb (fo := 2) rfl Try.underlying38 rfl i_3 rfl rfl rfl) ?_
 refine Za rfl rfl rfl rfl (Zj rfl rfl (List.mem_append_right _ (Zf 1 rfl)) rfl Try.underlying3 rfl) ?_
 refine Za rfl rfl rfl rfl (Zb (fo := 2) rfl Try.underlying38 rfl i_3 rfl rfl rfl) ?_
 refine Za rfl rfl rfl rfl (Zj rfl rfl (List.mem_append_right _ (Zf 0 rfl)) rfl Try.underlying3 rfl) ?_
 refine Za rfl rfl rfl rfl (V_eql rfl rfl rfl) ?_
 refine Za rfl rfl rfl rfl (Yz rfl rfl rfl) ?_
 refine Za rfl rfl rfl rfl (Zc rfl rfl) ?_
 refine Xa 26 rfl (fun hc3 => ?_) (fun hc3 => ?_)
 rotate_left
 · (first | contradiction | (exact absurd rfl hc3) | (exfalso; omega))
 refine Za rfl rfl rfl rfl (Zb (fo := 3) rfl Try.underlying38 rfl i_3 rfl rfl rfl) ?_
 refine Za rfl rfl rfl rfl (Zj rfl rfl (List.mem_append_right _ (Zf 1 rfl)) rfl Try.underlying3 rfl) ?_
 refine Za rfl rfl rfl rfl (Zb (fo := 3) rfl Try.underlying38 rfl i_3 rfl rfl rfl) ?_
 refine Za rfl rfl rfl rfl (Zj rfl rfl (List.mem_append_right _ (Zf 0 rfl)) rfl Try.underlying3 rfl) ?_
 refine Za rfl rfl rfl rfl (V_eql rfl rfl rfl) ?_
 refine Za rfl rfl rfl rfl (Yz rfl rfl rfl) ?_
 refine Za rfl rfl rfl rfl (Zc rfl rfl) ?_
 refine Xa 33 rfl (fun hc4 => ?_) (fun hc4 => ?_)
 rotate_left
 · (first | contradiction | (exact absurd rfl hc4) | (exfalso; omega))
 refine Za rfl rfl rfl rfl (Zb (fo := 4) rfl Try.underlying38 rfl i_3 rfl rfl rfl) ?_
 refine Za rfl rfl rfl rfl (Zj rfl rfl (List.mem_append_right _ (Zf 1 rfl)) rfl Try.underlying3 rfl) ?_
 refine Za rfl rfl rfl rfl (Zb (fo := 4) rfl Try.underlying38 rfl i_3 rfl rfl rfl) ?_
 refine Za rfl rfl rfl rfl (Zj rfl rfl (List.mem_append_right _ (Zf 0 rfl)) rfl Try.underlying3 rfl) ?_
 refine Za rfl rfl rfl rfl (V_eql rfl rfl rfl) ?_
 refine Za rfl rfl rfl rfl (Yz rfl rfl rfl) ?_
 refine Za rfl rfl rfl rfl (Zc rfl rfl) ?_
 refine Xa 40 rfl (fun hc5 => ?_) (fun hc5 => ?_)
 rotate_left
 · (first | contradiction | (exact absurd rfl hc5) | (exfalso; omega))
 refine Za rfl rfl rfl rfl (Zb (fo := 5) rfl Try.underlying38 rfl i_3 rfl rfl rfl) ?_
 refine Za rfl rfl rfl rfl (Zj rfl rfl (List.mem_append_right _ (Zf 1 rfl)) rfl Try.underlying3 rfl) ?_
 refine Za rfl rfl rfl rfl (Zb (fo := 5) rfl Try.underlying38 rfl i_3 rfl rfl rfl) ?_
 refine Za rfl rfl rfl rfl (Zj rfl rfl (List.mem_append_right _ (Zf 0 rfl)) rfl Try.underlying3 rfl) ?_
 refine Za rfl rfl rfl rfl (V_eql rfl rfl rfl) ?_
 refine Za rfl rfl rfl rfl (Yz rfl rfl rfl) ?_
 refine Za rfl rfl rfl rfl (Zc rfl rfl) ?_
 refine Xa 47 rfl (fun hc6 => ?_) (fun hc6 => ?_)
 rotate_left
 · (first | contradiction | (exact absurd rfl hc6) | (exfalso; omega))
 refine Za rfl rfl rfl rfl (Zb (fo := 6) rfl Try.underlying38 rfl i_3 rfl rfl rfl) ?_
 refine Za rfl rfl rfl rfl (Zj rfl rfl (List.mem_append_right _ (Zf 1 rfl)) rfl Try.underlying3 rfl) ?_
 refine Za rfl rfl rfl rfl (Zb (fo := 6) rfl Try.underlying38 rfl i_3 rfl rfl rfl) ?_
 refine Za rfl rfl rfl rfl (Zj rfl rfl (List.mem_append_right _ (Zf 0 rfl)) rfl Try.underlying3 rfl) ?_
 refine Za rfl rfl rfl rfl (V_eql rfl rfl rfl) ?_
 refine Za rfl rfl rfl rfl (Yz rfl rfl rfl) ?_
 refine Za rfl rfl rfl rfl (Zk rfl rfl) ?_
 refine Zg ?_
 refine Zh ?_
 refine Zd (l := [0, 1, 2, 3, 4, 5, 6, 7, 8, 9, 10, 11, 12, 13, 14, 15, 16, 17, 18, 19, 20, 21, 22, 23, 24, 25, 26]) rfl ?_
 refine Za rfl rfl rfl rfl (Zb (fo := 7) rfl Try.underlying38 rfl i_24 rfl rfl rfl) ?_
 refine Za rfl rfl rfl rfl (Zj rfl rfl (List.mem_append_right _ (Zf 1 rfl)) rfl Try.underlying24 rfl) ?_
 refine Za rfl rfl rfl rfl (Zb (fo := 7) rfl Try.underlying38 rfl i_24 rfl rfl rfl) ?_
 refine Za rfl rfl rfl rfl (Zj rfl rfl (List.mem_append_right _ (Zf 0 rfl)) rfl Try.underlying24 rfl) ?_
 refine Xx (L2 := [_, _]) rfl rfl rfl rfl rfl rfl Try.call46 (rs_Op x.li y.li hx.li hy.li e_li g_li) [] rfl (Ys (List.mem_append_left _ (List.mem_append_left _ (by simp [kDst]))) (Ys (List.mem_append_left _ (List.mem_append_right _ (by simp [kDst]))) Xh)) ?_
 rintro v post ⟨rfl, rfl⟩
 show G _ _ _ [_, _] _
 refine Za rfl rfl rfl rfl (Zc rfl rfl) ?_
 refine Za rfl rfl rfl rfl (Zb (fo := 8) rfl Try.underlying38 rfl i_24 rfl rfl rfl) ?_
 refine Za rfl rfl rfl rfl (Zj rfl rfl (List.mem_append_right _ (Zf 1 rfl)) rfl Try.underlying24 rfl) ?_
 refine Za rfl rfl rfl rfl (Zb (fo := 8) rfl Try.underlying38 rfl i_24 rfl rfl rfl) ?_
 refine Za rfl rfl rfl rfl (Zj rfl rfl (List.mem_append_right _ (Zf 0 rfl)) rfl Try.underlying24 rfl) ?_
 refine Xx (L2 := [_, _]) rfl rfl rfl rfl rfl rfl Try.call46 (rs_Op x.en y.en hx.en hy.en e_en g_en) [] rfl (Ys (List.mem_append_left _ (List.mem_append_left _ (by simp [kDst]))) (Ys (List.mem_append_left _ (List.mem_append_right _ (by simp [kDst]))) Xh)) ?_
 rintro v post ⟨rfl, rfl⟩
 show G _ _ _ [_, _] _
 refine Za rfl rfl rfl rfl (Yz rfl rfl rfl) ?_
 refine Za rfl rfl rfl rfl (Zc rfl rfl) ?_
 refine Za rfl rfl rfl rfl (Zb (fo := 9) rfl Try.underlying38 rfl i_25 rfl rfl rfl) ?_
 refine Za rfl rfl rfl rfl (Zj rfl rfl (List.mem_append_right _ (Zf 1 rfl)) rfl Try.underlying25 rfl) ?_
 refine Za rfl rfl rfl rfl (Zb (fo := 9) rfl Try.underlying38 rfl i_25 rfl rfl rfl) ?_
 refine Za rfl rfl rfl rfl (Zj rfl rfl (List.mem_append_right _ (Zf 0 rfl)) rfl Try.underlying25 rfl) ?_
 refine Xx (L2 := [_, _]) rfl rfl rfl rfl rfl rfl Try.call47 (rs_Wk x.wo y.wo hx.wo hy.wo e_wo g_wo) [] rfl (Ys (List.mem_append_left _ (List.mem_append_left _ (by simp [kDst]))) (Ys (List.mem_append_left _ (List.mem_append_right _ (by simp [kDst]))) Xh)) ?_
 rintro v post ⟨rfl, rfl⟩
 show G _ _ _ [_, _] _
 refine Za rfl rfl rfl rfl (Yz rfl rfl rfl) ?_
 refine Za rfl rfl rfl rfl (Zc rfl rfl) ?_
 refine Za rfl rfl rfl rfl (Zb (fo := 10) rfl Try.underlying38 rfl i_26 rfl rfl rfl) ?_
 refine Za rfl rfl rfl rfl (Zj rfl rfl (List.mem_append_right _ (Zf 1 rfl)) rfl Try.underlying26 rfl) ?_
 refine Za rfl rfl rfl rfl (Zb (fo := 10) rfl Try.underlying38 rfl i_26 rfl rfl rfl) ?_
 refine Za rfl rfl rfl rfl (Zj rfl rfl (List.mem_append_right _ (Zf 0 rfl)) rfl Try.underlying26 rfl) ?_
 refine Xx (L2 := [_, _]) rfl rfl rfl rfl rfl rfl Try.call48 (rs_Iv x.iv y.iv hx.iv hy.iv e_iv g_iv) [] rfl (Ys (List.mem_append_left _ (List.mem_append_left _ (by simp [kDst]))) (Ys (List.mem_append_left _ (List.mem_append_right _ (by simp [kDst]))) Xh)) ?_
 rintro v post ⟨rfl, rfl⟩
 show G _ _ _ [_, _] _
 refine Za rfl rfl rfl rfl (Yz rfl rfl rfl) ?_
 refine Za rfl rfl rfl rfl (Zk rfl rfl) ?_
 refine Zg ?_
 refine Zh ?_
 refine Zd (l := [0, 1, 2, 3, 4, 5, 6, 7, 8, 9, 10, 11, 12, 13, 14, 15, 16, 17, 18, 19, 20, 21, 22, 23, 24, 25, 26, 27, 28, 29, 30, 31, 32]) rfl ?_
 refine Za rfl rfl rfl rfl (Zc rfl rfl) ?_
 refine Za rfl rfl rfl rfl (Zc rfl rfl) ?_
 refine Xa 81 rfl (fun hc7 => ?_) (fun hc7 => ?_)
 rotate_left
 · (first | contradiction | (exact absurd rfl hc7) | (exfalso; omega))
 refine Za rfl rfl rfl rfl (Zc rfl rfl) ?_
 refine Za rfl rfl rfl rfl (Yz rfl rfl rfl) ?_
 refine Za rfl rfl rfl rfl (Zc rfl rfl) ?_
 refine Za rfl rfl rfl rfl (Zb (fo := 12) rfl Try.underlying38 rfl i_28 rfl rfl rfl) ?_
 refine Za rfl rfl rfl rfl (Zj rfl rfl (List.mem_append_right _ (Zf 1 rfl)) rfl Try.underlying28 rfl) ?_
 refine Za rfl rfl rfl rfl (Zb (fo := 12) rfl Try.underlying38 rfl i_28 rfl rfl rfl) ?_
 refine Za rfl rfl rfl rfl (Zj rfl rfl (List.mem_append_right _ (Zf 0 rfl)) rfl Try.underlying28 rfl) ?_
 refine Xx (L2 := [_, _]) rfl rfl rfl rfl rfl rfl Try.call49 (rs_Hr x.hi y.hi hx.hi hy.hi e_hi g_hi) [] rfl (Ys (List.mem_append_left _ (List.mem_append_left _ (by simp [kDst]))) (Ys (List.mem_append_left _ (List.mem_append_right _ (by simp [kDst]))) Xh)) ?_
 rintro v post ⟨rfl, rfl⟩
 show G _ _ _ [_, _] _
 refine Za rfl rfl rfl rfl (Yz rfl rfl rfl) ?_
 refine Za rfl rfl rfl rfl (Zc rfl rfl) ?_
 refine Za rfl rfl rfl rfl (Zb (fo := 13) rfl Try.underlying38 rfl i_29 rfl rfl rfl) ?_
 refine Za rfl rfl rfl rfl (Zj rfl rfl (List.mem_append_right _ (Zf 1 rfl)) rfl Try.underlying29 rfl) ?_
 refine Za rfl rfl rfl rfl (Zb (fo := 13) rfl Try.underlying38 rfl i_29 rfl rfl rfl) ?_
 refine Za rfl rfl rfl rfl (Zj rfl rfl (List.mem_append_right _ (Zf 0 rfl)) rfl Try.underlying29 rfl) ?_
 refine Xx (L2 := [_, _]) rfl rfl rfl rfl rfl rfl Try.call50 (rs_Lt x.le y.le hx.le hy.le e_le g_le) [] rfl (Ys (List.mem_append_left _ (List.mem_append_left _ (by simp [kDst]))) (Ys (List.mem_append_left _ (List.mem_append_right _ (by simp [kDst]))) Xh)) ?_
 rintro v post ⟨rfl, rfl⟩
 show G _ _ _ [_, _] _
 refine Za rfl rfl rfl rfl (Yz rfl rfl rfl) ?_
 refine Za rfl rfl rfl rfl (Zc rfl rfl) ?_
 refine Za rfl rfl rfl rfl (Zb (fo := 14) rfl Try.underlying38 rfl i_30 rfl rfl rfl) ?_
 refine Za rfl rfl rfl rfl (Zj rfl rfl (List.mem_append_right _ (Zf 1 rfl)) rfl Try.underlying30 rfl) ?_
 refine Za rfl rfl rfl rfl (Zb (fo := 14) rfl Try.underlying38 rfl i_30 rfl rfl rfl) ?_
 refine Za rfl rfl rfl rfl (Zj rfl rfl (List.mem_append_right _ (Zf 0 rfl)) rfl Try.underlying30 rfl) ?_
 refine Xx (L2 := [_, _]) rfl rfl rfl rfl rfl rfl Try.call51 (rs_Wt x.wa y.wa hx.wa hy.wa e_wa g_wa) [] rfl (Ys (List.mem_append_left _ (List.mem_append_left _ (by simp [kDst]))) (Ys (List.mem_append_left _ (List.mem_append_right _ (by simp [kDst]))) Xh)) ?_
 rintro v post ⟨rfl, rfl⟩
 show G _ _ _ [_, _] _
 refine Za rfl rfl rfl rfl (Yz rfl rfl rfl) ?_
 refine Za rfl rfl rfl rfl (Zc rfl rfl) ?_
 refine Za rfl rfl rfl rfl (Zb (fo := 11) rfl Try.underlying38 rfl i_36 rfl rfl rfl) ?_
 refine Za rfl rfl rfl rfl (Zj rfl rfl (List.mem_append_right _ (Zf 1 rfl)) rfl Try.underlying36 rfl) ?_
 refine Za rfl rfl rfl rfl (Zb (fo := 11) rfl Try.underlying38 rfl i_36 rfl rfl rfl) ?_
 refine Za rfl rfl rfl rfl (Zj rfl rfl (List.mem_append_right _ (Zf 0 rfl)) rfl Try.underlying36 rfl) ?_
 refine Xx (L2 := [_, _]) rfl rfl rfl rfl rfl rfl Try.call52 (rs_Dp x.po y.po hx.po hy.po hx.po2 hy.po2 e_po g_po) [] rfl (sub_2 (fun z hz => List.mem_append_left _ (List.mem_append_left _ (po_in hz))) (fun z hz => List.mem_append_left _ (List.mem_append_right _ (po_in hz)))) ?_
 rintro v post ⟨rfl, rfl⟩
 show G _ _ _ [_, _] _
 refine Za rfl rfl rfl rfl (Yz rfl rfl rfl) ?_
 refine Za rfl rfl rfl rfl (Zk rfl rfl) ?_
 refine Zg ?_
 refine Yy (post := []) Try.func13 rfl (Zy (Yt rfl) Zp) [] rfl ?_
 dsimp only [packed]
 exact ⟨rfl, rfl⟩

end
end Go.Proofs.Ytjnaeoelnmhjfaa

set_option linter.unusedSimpArgs false
set_option linter.unusedVariables false
namespace Go.Proofs.Ytjnaeoelnmhjfaa
open Go Go.RowKit

section
theorem i_86 : Try.prog.info? 86 = some Try.t86 := by kernel_rfl
theorem p_86 : placesOf Try.prog (Try.prog.fieldsOf 86) = some [(0, 1), (1, 1)] := by kernel_rfl
theorem p_92 : placesOf Try.prog (Try.prog.fieldsOf 92) = some [(0, 1), (1, 1), (2, 1), (3, 1), (4, 1), (5, 1), (6, 1)] := by kernel_rfl
theorem p_95 : placesOf Try.prog (Try.prog.fieldsOf 95) = some [(0, 1), (1, 1), (2, 1), (3, 1), (4, 1)] := by kernel_rfl

set_option maxRecDepth 100000 in
set_option maxHeartbeats 4000000 in
theorem rq_decode (l : List UInt8) (hl : l.length ≤ 140737488350000) :
    Ct Try.prog 10 [.string (bs l)] [] [] fun v post => ∃ (x : Dst) (c : Int) (M : List HBk), MkDst x ∧ (∀ z ∈ kDst x, z ∈ M) ∧ DecP l (vDst x) c ∧ v = .tuple #[.agg (cDst x).toArray, .int .i64 c] ∧ post = M := by
 refine Yu Try.func10 rfl rfl (fun w0 => ?_)
 show G _ _ [(0, _)] _ _
 refine Zh ?_
 refine Zd (l := [0, 1]) rfl ?_
 refine Yw rfl rfl rfl rfl (Ym rfl i_38 rfl) (fun b2 => ?_)
 refine Za rfl rfl rfl rfl (Zk rfl rfl) ?_
 refine Zg ?_
 refine Zh ?_
 refine Zd (l := [0, 1, 2, 3]) rfl ?_
 refine Za rfl rfl rfl rfl (Zc rfl rfl) ?_
 refine Za rfl rfl rfl rfl (Xw (cs := [_, _]) rfl Try.underlying86 i_86 rfl p_86 rfl rfl rfl) ?_
 refine Yw rfl rfl rfl rfl (N_boxA rfl rfl) (fun b13 => ?_)
 refine Za rfl rfl rfl rfl (Zk rfl rfl) ?_
 refine Zg ?_
 refine Zh ?_
 refine Zd (l := [0, 1, 2, 3, 4]) rfl ?_
 refine Za rfl rfl rfl rfl (Zc rfl rfl) ?_
 refine Zq (L2 := [_]) rfl rfl rfl rfl rfl rfl Try.call36 (rq_U b13 l 0 (by omega) (by omega)) [0] [] rfl rfl ?_
 rintro v post ⟨a0, l1, e1, r1, rfl, rfl⟩
 show G _ _ _ [_, _] _
 have hl1_ := r1.len
 have he1_ := r1.err
 refine Za rfl rfl rfl rfl (Xw (cs := [_, _, _, _, _, _, _, _, _, _, _, _, _, _, _]) rfl Try.underlying38 i_38 rfl p_38 rfl rfl rfl) ?_
 refine Yw rfl rfl rfl rfl (Ym rfl i_38 rfl) (fun b5 => ?_)
 refine Yj (l1 := []) (L' := [_, _, _]) rfl rfl rfl rfl (Yv (s := 15) rfl rfl rfl (Zf 0 rfl) (by rfl) i_38 rfl (by rfl) (by simp [Value.oneCell', cOp, cWk, cIv, cHr, cLt, cWt, cIt, cFl, cTn, cCl, cPo, cSt, cDt, cDs, Sl.v, zIns, insV, cDp, cDst])) rfl ?_
 refine Zg ?_
 refine Zh ?_
 show G _ _ _ [(some b5, .cells (cDst (⟨a0, false, 0, 0, 0, 0, 0, zIns Op, zIns Op, zIns Wk, zIns Iv, zIns Dp, zIns Hr, zIns Lt, zIns Wt⟩ : Dst)).toArray 38 (0, 0)), _, _] _
 refine Zd (l := [0, 1, 2, 3]) rfl ?_
 refine Za rfl rfl rfl rfl (Zc rfl rfl) ?_
 refine Zq (L2 := [_, _]) rfl rfl rfl rfl rfl rfl Try.call37 (rq_B b13 l1 e1 (by omega) (by omega)) [1] [] rfl rfl ?_
 rintro v post ⟨a1, l2, e2, r2, rfl, rfl⟩
 show G _ _ _ [_, _, _] _
 have hl2_ := r2.len
 have he2_ := r2.err
 refine Za rfl rfl rfl rfl (Zb (fo := 1) rfl Try.underlying38 rfl i_4 rfl rfl rfl) ?_
 refine Yj (l1 := [_]) (L' := [_, _, _]) rfl rfl rfl rfl (Zm rfl rfl rfl (Zf 1 rfl) (by first | exact of_decide_eq_true rfl | omega | (simp [cOp, cWk, cIv, cHr, cLt, cWt, cIt, cFl, cTn, cCl, cPo, cSt, cDt, cDs, Sl.v, zIns, insV, cDp, cDst]; done) | (simp [cOp, cWk, cIv, cHr, cLt, cWt, cIt, cFl, cTn, cCl, cPo, cSt, cDt, cDs, Sl.v, zIns, insV, cDp, cDst]; omega) | (simp [cOp, cWk, cIv, cHr, cLt, cWt, cIt, cFl, cTn, cCl, cPo, cSt, cDt, cDs, Sl.v, zIns, insV, cDp, cDst] at *; omega)) i_4 rfl rfl) rfl ?_
 rw [show ((cDst (⟨a0, false, 0, 0, 0, 0, 0, zIns Op, zIns Op, zIns Wk, zIns Iv, zIns Dp, zIns Hr, zIns Lt, zIns Wt⟩ : Dst)).toArray).setIfInBounds 1 (.bool a1) = (cDst (⟨a0, a1, 0, 0, 0, 0, 0, zIns Op, zIns Op, zIns Wk, zIns Iv, zIns Dp, zIns Hr, zIns Lt, zIns Wt⟩ : Dst)).toArray from rfl]
 refine Zg ?_
 refine Zh ?_
 refine Zd (l := [0, 1, 2, 3]) rfl ?_
 refine Za rfl rfl rfl rfl (Zc rfl rfl) ?_
 refine Zq (L2 := [_, _]) rfl rfl rfl rfl rfl rfl Try.call38 (rq_I b13 l2 e2 (by omega) (by omega)) [0] [] rfl rfl ?_
 rintro v post ⟨a2, l3, e3, r3, rfl, rfl⟩
 show G _ _ _ [_, _, _] _
 have hl3_ := r3.len
 have he3_ := r3.err
 refine Za rfl rfl rfl rfl (Zb (fo := 2) rfl Try.underlying38 rfl i_3 rfl rfl rfl) ?_
 refine Yj (l1 := [_]) (L' := [_, _, _]) rfl rfl rfl rfl (Zm rfl rfl rfl (Zf 1 rfl) (by first | exact of_decide_eq_true rfl | omega | (simp [cOp, cWk, cIv, cHr, cLt, cWt, cIt, cFl, cTn, cCl, cPo, cSt, cDt, cDs, Sl.v, zIns, insV, cDp, cDst]; done) | (simp [cOp, cWk, cIv, cHr, cLt, cWt, cIt, cFl, cTn, cCl, cPo, cSt, cDt, cDs, Sl.v, zIns, insV, cDp, cDst]; omega) | (simp [cOp, cWk, cIv, cHr, cLt, cWt, cIt, cFl, cTn, cCl, cPo, cSt, cDt, cDs, Sl.v, zIns, insV, cDp, cDst] at *; omega)) i_3 rfl rfl) rfl ?_
 rw [show ((cDst (⟨a0, a1, 0, 0, 0, 0, 0, zIns Op, zIns Op, zIns Wk, zIns Iv, zIns Dp, zIns Hr, zIns Lt, zIns Wt⟩ : Dst)).toArray).setIfInBounds 2 (.int .i64 (a2 : Int)) = (cDst (⟨a0, a1, (a2 : Nat), 0, 0, 0, 0, zIns Op, zIns Op, zIns Wk, zIns Iv, zIns Dp, zIns Hr, zIns Lt, zIns Wt⟩ : Dst)).toArray from rfl]
 refine Zg ?_
 refine Zh ?_
 refine Zd (l := [0, 1, 2, 3]) rfl ?_
 refine Za rfl rfl rfl rfl (Zc rfl rfl) ?_
 refine Zq (L2 := [_, _]) rfl rfl rfl rfl rfl rfl Try.call38 (rq_I b13 l3 e3 (by omega) (by omega)) [0] [] rfl rfl ?_
 rintro v post ⟨a3, l4, e4, r4, rfl, rfl⟩
 show G _ _ _ [_, _, _] _
 have hl4_ := r4.len
 have he4_ := r4.err
 refine Za rfl rfl rfl rfl (Zb (fo := 3) rfl Try.underlying38 rfl i_3 rfl rfl rfl) ?_
 refine Yj (l1 := [_]) (L' := [_, _, _]) rfl rfl rfl rfl (Zm rfl rfl rfl (Zf 1 rfl) (by first | exact of_decide_eq_true rfl | omega | (simp [cOp, cWk, cIv, cHr, cLt, cWt, cIt, cFl, cTn, cCl, cPo, cSt, cDt, cDs, Sl.v, zIns, insV, cDp, cDst]; done) | (simp [cOp, cWk, cIv, cHr, cLt, cWt, cIt, cFl, cTn, cCl, cPo, cSt, cDt, cDs, Sl.v, zIns, insV, cDp, cDst]; omega) | (simp [cOp, cWk, cIv, cHr, cLt, cWt, cIt, cFl, cTn, cCl, cPo, cSt, cDt, cDs, Sl.v, zIns, insV, cDp, cDst] at *; omega)) i_3 rfl rfl) rfl ?_
 rw [show ((cDst (⟨a0, a1, (a2 : Nat), 0, 0, 0, 0, zIns Op, zIns Op, zIns Wk, zIns Iv, zIns Dp, zIns Hr, zIns Lt, zIns Wt⟩ : Dst)).toArray).setIfInBounds 3 (.int .i64 (a3 : Int)) = (cDst (⟨a0, a1, (a2 : Nat), (a3 : Nat), 0, 0, 0, zIns Op, zIns Op, zIns Wk, zIns Iv, zIns Dp, zIns Hr, zIns Lt, zIns Wt⟩ : Dst)).toArray from rfl]
 refine Zg ?_
 refine Zh ?_
 refine Zd (l := [0, 1, 2, 3]) rfl ?_
 refine Za rfl rfl rfl rfl (Zc rfl rfl) ?_
 refine Zq (L2 := [_, _]) rfl rfl rfl rfl rfl rfl Try.call38 (rq_I b13 l4 e4 (by omega) (by omega)) [0] [] rfl rfl ?_
 rintro v post ⟨a4, l5, e5, r5, rfl, rfl⟩
 show G _ _ _ [_, _, _] _
 have hl5_ := r5.len
 have he5_ := r5.err
 refine Za rfl rfl rfl rfl (Zb (fo := 4) rfl Try.underlying38 rfl i_3 rfl rfl rfl) ?_
 refine Yj (l1 := [_]) (L' := [_, _, _]) rfl rfl rfl rfl (Zm rfl rfl rfl (Zf 1 rfl) (by first | exact of_decide_eq_true rfl | omega | (simp [cOp, cWk, cIv, cHr, cLt, cWt, cIt, cFl, cTn, cCl, cPo, cSt, cDt, cDs, Sl.v, zIns, insV, cDp, cDst]; done) | (simp [cOp, cWk, cIv, cHr, cLt, cWt, cIt, cFl, cTn, cCl, cPo, cSt, cDt, cDs, Sl.v, zIns, insV, cDp, cDst]; omega) | (simp [cOp, cWk, cIv, cHr, cLt, cWt, cIt, cFl, cTn, cCl, cPo, cSt, cDt, cDs, Sl.v, zIns, insV, cDp, cDst] at *; omega)) i_3 rfl rfl) rfl ?_
 rw [show ((cDst (⟨a0, a1, (a2 : Nat), (a3 : Nat), 0, 0, 0, zIns Op, zIns Op, zIns Wk, zIns Iv, zIns Dp, zIns Hr, zIns Lt, zIns Wt⟩ : Dst)).toArray).setIfInBounds 4 (.int .i64 (a4 : Int)) = (cDst (⟨a0, a1, (a2 : Nat), (a3 : Nat), (a4 : Nat), 0, 0, zIns Op, zIns Op, zIns Wk, zIns Iv, zIns Dp, zIns Hr, zIns Lt, zIns Wt⟩ : Dst)).toArray from rfl]
 refine Zg ?_
 refine Zh ?_
 refine Zd (l := [0, 1, 2, 3]) rfl ?_
 refine Za rfl rfl rfl rfl (Zc rfl rfl) ?_
 refine Zq (L2 := [_, _]) rfl rfl rfl rfl rfl rfl Try.call38 (rq_I b13 l5 e5 (by omega) (by omega)) [0] [] rfl rfl ?_
 rintro v post ⟨a5, l6, e6, r6, rfl, rfl⟩
 show G _ _ _ [_, _, _] _
 have hl6_ := r6.len
 have he6_ := r6.err
 refine Za rfl rfl rfl rfl (Zb (fo := 5) rfl Try.underlying38 rfl i_3 rfl rfl rfl) ?_
 refine Yj (l1 := [_]) (L' := [_, _, _]) rfl rfl rfl rfl (Zm rfl rfl rfl (Zf 1 rfl) (by first | exact of_decide_eq_true rfl | omega | (simp [cOp, cWk, cIv, cHr, cLt, cWt, cIt, cFl, cTn, cCl, cPo, cSt, cDt, cDs, Sl.v, zIns, insV, cDp, cDst]; done) | (simp [cOp, cWk, cIv, cHr, cLt, cWt, cIt, cFl, cTn, cCl, cPo, cSt, cDt, cDs, Sl.v, zIns, insV, cDp, cDst]; omega) | (simp [cOp, cWk, cIv, cHr, cLt, cWt, cIt, cFl, cTn, cCl, cPo, cSt, cDt, cDs, Sl.v, zIns, insV, cDp, cDst] at *; omega)) i_3 rfl rfl) rfl ?_
 rw [show ((cDst (⟨a0, a1, (a2 : Nat), (a3 : Nat), (a4 : Nat), 0, 0, zIns Op, zIns Op, zIns Wk, zIns Iv, zIns Dp, zIns Hr, zIns Lt, zIns Wt⟩ : Dst)).toArray).setIfInBounds 5 (.int .i64 (a5 : Int)) = (cDst (⟨a0, a1, (a2 : Nat), (a3 : Nat), (a4 : Nat), (a5 : Nat), 0, zIns Op, zIns Op, zIns Wk, zIns Iv, zIns Dp, zIns Hr, zIns Lt, zIns Wt⟩ : Dst)).toArray from rfl]
 refine Zg ?_
 refine Zh ?_
 refine Zd (l := [0, 1, 2, 3]) rfl ?_
 refine Za rfl rfl rfl rfl (Zc rfl rfl) ?_
 refine Zq (L2 := [_, _]) rfl rfl rfl rfl rfl rfl Try.call38 (rq_I b13 l6 e6 (by omega) (by omega)) [0] [] rfl rfl ?_
 rintro v post ⟨a6, l7, e7, r7, rfl, rfl⟩
 show G _ _ _ [_, _, _] _
 have hl7_ := r7.len
 have he7_ := r7.err
 refine Za rfl rfl rfl rfl (Zb (fo := 6) rfl Try.underlying38 rfl i_3 rfl rfl rfl) ?_
 refine Yj (l1 := [_]) (L' := [_, _, _]) rfl rfl rfl rfl (Zm rfl rfl rfl (Zf 1 rfl) (by first | exact of_decide_eq_true rfl | omega | (simp [cOp, cWk, cIv, cHr, cLt, cWt, cIt, cFl, cTn, cCl, cPo, cSt, cDt, cDs, Sl.v, zIns, insV, cDp, cDst]; done) | (simp [cOp, cWk, cIv, cHr, cLt, cWt, cIt, cFl, cTn, cCl, cPo, cSt, cDt, cDs, Sl.v, zIns, insV, cDp, cDst]; omega) | (simp [cOp, cWk, cIv, cHr, cLt, cWt, cIt, cFl, cTn, cCl, cPo, cSt, cDt, cDs, Sl.v, zIns, insV, cDp, cDst] at *; omega)) i_3 rfl rfl) rfl ?_
 rw [show ((cDst (⟨a0, a1, (a2 : Nat), (a3 : Nat), (a4 : Nat), (a5 : Nat), 0, zIns Op, zIns Op, zIns Wk, zIns Iv, zIns Dp, zIns Hr, zIns Lt, zIns Wt⟩ : Dst)).toArray).setIfInBounds 6 (.int .i64 (a6 : Int)) = (cDst (⟨a0, a1, (a2 : Nat), (a3 : Nat), (a4 : Nat), (a5 : Nat), (a6 : Nat), zIns Op, zIns Op, zIns Wk, zIns Iv, zIns Dp, zIns Hr, zIns Lt, zIns Wt⟩ : Dst)).toArray from rfl]
 refine Zg ?_
 refine Zh ?_
 refine Zd (l := [0, 1, 2, 3]) rfl ?_
 refine Za rfl rfl rfl rfl (Zc rfl rfl) ?_
 refine Zq (L2 := [_, _]) rfl rfl rfl rfl rfl rfl Try.call39 (rq_ops b13 l7 e7 (by omega) (by omega)) [0] [] rfl rfl ?_
 rintro v post ⟨sli, l8, e8, hsli, hlli, rli, rfl, rfl⟩
 show G _ _ _ [_, _, _, _] _
 have hl8_ := rli.len
 have he8_ := rli.err
 refine Za rfl rfl rfl rfl (Zb (fo := 7) rfl Try.underlying38 rfl i_24 rfl rfl rfl) ?_
 refine Yj (l1 := [_, _]) (L' := [_, _, _, _]) rfl rfl rfl rfl (Zm rfl rfl rfl (Zf 2 rfl) (by first | exact of_decide_eq_true rfl | omega | (simp [cOp, cWk, cIv, cHr, cLt, cWt, cIt, cFl, cTn, cCl, cPo, cSt, cDt, cDs, Sl.v, zIns, insV, cDp, cDst]; done) | (simp [cOp, cWk, cIv, cHr, cLt, cWt, cIt, cFl, cTn, cCl, cPo, cSt, cDt, cDs, Sl.v, zIns, insV, cDp, cDst]; omega) | (simp [cOp, cWk, cIv, cHr, cLt, cWt, cIt, cFl, cTn, cCl, cPo, cSt, cDt, cDs, Sl.v, zIns, insV, cDp, cDst] at *; omega)) i_24 rfl rfl) rfl ?_
 rw [show ((cDst (⟨a0, a1, (a2 : Nat), (a3 : Nat), (a4 : Nat), (a5 : Nat), (a6 : Nat), zIns Op, zIns Op, zIns Wk, zIns Iv, zIns Dp, zIns Hr, zIns Lt, zIns Wt⟩ : Dst)).toArray).setIfInBounds 7 (insV sli) = (cDst (⟨a0, a1, (a2 : Nat), (a3 : Nat), (a4 : Nat), (a5 : Nat), (a6 : Nat), sli, zIns Op, zIns Wk, zIns Iv, zIns Dp, zIns Hr, zIns Lt, zIns Wt⟩ : Dst)).toArray from rfl]
 refine Zg ?_
 refine Zh ?_
 refine Zd (l := [0, 1, 2, 3]) rfl ?_
 refine Za rfl rfl rfl rfl (Zc rfl rfl) ?_
 refine Zq (L2 := [_, _, _]) rfl rfl rfl rfl rfl rfl Try.call39 (rq_ops b13 l8 e8 (by omega) (by omega)) [0] [] rfl rfl ?_
 rintro v post ⟨sen, l9, e9, hsen, hlen, ren, rfl, rfl⟩
 show G _ _ _ [_, _, _, _, _] _
 have hl9_ := ren.len
 have he9_ := ren.err
 refine Za rfl rfl rfl rfl (Zb (fo := 8) rfl Try.underlying38 rfl i_24 rfl rfl rfl) ?_
 refine Yj (l1 := [_, _, _]) (L' := [_, _, _, _, _]) rfl rfl rfl rfl (Zm rfl rfl rfl (Zf 3 rfl) (by first | exact of_decide_eq_true rfl | omega | (simp [cOp, cWk, cIv, cHr, cLt, cWt, cIt, cFl, cTn, cCl, cPo, cSt, cDt, cDs, Sl.v, zIns, insV, cDp, cDst]; done) | (simp [cOp, cWk, cIv, cHr, cLt, cWt, cIt, cFl, cTn, cCl, cPo, cSt, cDt, cDs, Sl.v, zIns, insV, cDp, cDst]; omega) | (simp [cOp, cWk, cIv, cHr, cLt, cWt, cIt, cFl, cTn, cCl, cPo, cSt, cDt, cDs, Sl.v, zIns, insV, cDp, cDst] at *; omega)) i_24 rfl rfl) rfl ?_
 rw [show ((cDst (⟨a0, a1, (a2 : Nat), (a3 : Nat), (a4 : Nat), (a5 : Nat), (a6 : Nat), sli, zIns Op, zIns Wk, zIns Iv, zIns Dp, zIns Hr, zIns Lt, zIns Wt⟩ : Dst)).toArray).setIfInBounds 8 (insV sen) = (cDst (⟨a0, a1, (a2 : Nat), (a3 : Nat), (a4 : Nat), (a5 : Nat), (a6 : Nat), sli, sen, zIns Wk, zIns Iv, zIns Dp, zIns Hr, zIns Lt, zIns Wt⟩ : Dst)).toArray from rfl]
 refine Zg ?_
 refine Zh ?_
 refine Zd (l := [0, 1, 2]) rfl ?_
 refine Za rfl rfl rfl rfl (Zc rfl rfl) ?_
 refine Zq (L2 := [_, _, _, _]) rfl rfl rfl rfl rfl rfl Try.call40 (rq_N b13 l9 e9 (by omega) (by omega)) [0] [] rfl rfl ?_
 rintro v post ⟨na, la0, ea0, ha0, rfl, rfl⟩
 show G _ _ _ [_, _, _, _, _] _
 obtain ⟨hna, hla0, hea0⟩ := rd_n (by omega) ha0
 refine Za rfl rfl rfl rfl (Zk rfl rfl) ?_
 refine Zg ?_
 refine Zh ?_
 refine Zh ?_
 refine Xq (.cells #[] 92 (0, 0)) ?_
 refine Zd (l := [0]) rfl ?_
 refine Za rfl rfl rfl rfl (Zk rfl rfl) ?_
 refine Zg ?_
 refine G_joinB (X := Ins Wk × List UInt8 × Nat) (fun xj => match xj with | ⟨swo, la2, ea2⟩ => InsOk 7 cWk swo ∧ Rdg (encL encWk) (GL GWk) l9 e9 swo.l la2 ea2) (fun xj => match xj with | ⟨swo, la2, ea2⟩ => [(2, .pointer (some ⟨b2, 0, none⟩)), (3, .int .i64 0), (4, .pointer (some ⟨b13, 0, none⟩)), (5, .pointer (some ⟨b5, 0, none⟩))]) (fun xj => match xj with | ⟨swo, la2, ea2⟩ => [(some b13, .cells #[.string (bs la2), .int .i64 ((ea2 : Nat) : Int)] 86 (0, 0)), (some b5, .cells ((cDst (⟨a0, a1, (a2 : Nat), (a3 : Nat), (a4 : Nat), (a5 : Nat), (a6 : Nat), sli, sen, swo, zIns Iv, zIns Dp, zIns Hr, zIns Lt, zIns Wt⟩ : Dst)).toArray) 38 (0, 0)), insK swo, (some b2, .cells (cDst zDst).toArray 38 (0, 0)), insK sli, insK sen]) ?restB0 (fun jnB0 => ?mainB0)
 case restB0 =>
  intro xj hjB
  obtain ⟨swo, la2, ea2⟩ := xj
  dsimp only at hjB
  obtain ⟨hswo, rwo⟩ := hjB
  show G _ _ [(2, .pointer (some ⟨b2, 0, none⟩)), (3, .int .i64 0), (4, .pointer (some ⟨b13, 0, none⟩)), (5, .pointer (some ⟨b5, 0, none⟩))] [(some b13, .cells #[.string (bs la2), .int .i64 ((ea2 : Nat) : Int)] 86 (0, 0)), (some b5, .cells ((cDst (⟨a0, a1, (a2 : Nat), (a3 : Nat), (a4 : Nat), (a5 : Nat), (a6 : Nat), sli, sen, swo, zIns Iv, zIns Dp, zIns Hr, zIns Lt, zIns Wt⟩ : Dst)).toArray) 38 (0, 0)), insK swo, (some b2, .cells (cDst zDst).toArray 38 (0, 0)), insK sli, insK sen] _
  have hla2 := rwo.len
  have hea2 := rwo.err
  refine Zh ?_
  refine Zd (l := [0, 1, 2]) rfl ?_
  refine Za rfl rfl rfl rfl (Zc rfl rfl) ?_
  refine Zq (L2 := [_, _, _, _, _]) rfl rfl rfl rfl rfl rfl Try.call40 (rq_N b13 la2 ea2 (by omega) (by omega)) [0] [] rfl rfl ?_
  rintro v post ⟨nb, lb0, eb0, hb0, rfl, rfl⟩
  show G _ _ _ [_, _, _, _, _, _] _
  obtain ⟨hnb, hlb0, heb0⟩ := rd_n (by omega) hb0
  refine Za rfl rfl rfl rfl (Zk rfl rfl) ?_
  refine Zg ?_
  refine Zh ?_
  refine Zh ?_
  refine Xq (.cells #[] 95 (0, 0)) ?_
  refine Zd (l := [0]) rfl ?_
  refine Za rfl rfl rfl rfl (Zk rfl rfl) ?_
  refine Zg ?_
  refine G_joinB (X := Ins Iv × List UInt8 × Nat) (fun xj => match xj with | ⟨siv, lb2, eb2⟩ => InsOk 5 cIv siv ∧ Rdg (encL encIv) (GL GIv) la2 ea2 siv.l lb2 eb2) (fun xj => match xj with | ⟨siv, lb2, eb2⟩ => [(2, .pointer (some ⟨b2, 0, none⟩)), (3, .int .i64 0), (4, .pointer (some ⟨b13, 0, none⟩)), (5, .pointer (some ⟨b5, 0, none⟩))]) (fun xj => match xj with | ⟨siv, lb2, eb2⟩ => [(some b13, .cells #[.string (bs lb2), .int .i64 ((eb2 : Nat) : Int)] 86 (0, 0)), (some b5, .cells ((cDst (⟨a0, a1, (a2 : Nat), (a3 : Nat), (a4 : Nat), (a5 : Nat), (a6 : Nat), sli, sen, swo, siv, zIns Dp, zIns Hr, zIns Lt, zIns Wt⟩ : Dst)).toArray) 38 (0, 0)), insK siv, (some b2, .cells (cDst zDst).toArray 38 (0, 0)), insK sli, insK sen, insK swo]) ?restB2 (fun jnB2 => ?mainB2)
  case restB2 =>
   intro xj hjB
   obtain ⟨siv, lb2, eb2⟩ := xj
   dsimp only at hjB
   obtain ⟨hsiv, riv⟩ := hjB
   show G _ _ [(2, .pointer (some ⟨b2, 0, none⟩)), (3, .int .i64 0), (4, .pointer (some ⟨b13, 0, none⟩)), (5, .pointer (some ⟨b5, 0, none⟩))] [(some b13, .cells #[.string (bs lb2), .int .i64 ((eb2 : Nat) : Int)] 86 (0, 0)), (some b5, .cells ((cDst (⟨a0, a1, (a2 : Nat), (a3 : Nat), (a4 : Nat), (a5 : Nat), (a6 : Nat), sli, sen, swo, siv, zIns Dp, zIns Hr, zIns Lt, zIns Wt⟩ : Dst)).toArray) 38 (0, 0)), insK siv, (some b2, .cells (cDst zDst).toArray 38 (0, 0)), insK sli, insK sen, insK swo] _
   have hlb2 := riv.len
   have heb2 := riv.err
   refine Zh ?_
   refine Zd (l := [0, 1, 2, 3]) rfl ?_
   refine Za rfl rfl rfl rfl (Zc rfl rfl) ?_
   refine Zq (L2 := [_, _, _, _, _, _]) rfl rfl rfl rfl rfl rfl Try.call42 (rq_pools b13 lb2 eb2 (by omega) (by omega)) [0] [] rfl rfl ?_
   rintro v post ⟨spo, lc, ec, Mp, hspo, hlpo, rpo, hoks, hMp, rfl, rfl⟩
   refine G_perm (perm_in0 [_] [_, _, _, _, _, _] _) ?_
   show G _ _ _ (_ :: _ :: _ :: _ :: _ :: _ :: _ :: _) _
   have hlc_ := rpo.len
   have hec_ := rpo.err
   refine Za rfl rfl rfl rfl (Zb (fo := 11) rfl Try.underlying38 rfl i_36 rfl rfl rfl) ?_
   refine Yj (l1 := [_]) (L' := (_ :: _ :: _ :: _ :: _ :: _ :: _ :: _)) rfl rfl rfl rfl (Zm rfl rfl rfl (Zf 1 rfl) (by first | exact of_decide_eq_true rfl | omega | (simp [cOp, cWk, cIv, cHr, cLt, cWt, cIt, cFl, cTn, cCl, cPo, cSt, cDt, cDs, Sl.v, zIns, insV, cDp, cDst]; done) | (simp [cOp, cWk, cIv, cHr, cLt, cWt, cIt, cFl, cTn, cCl, cPo, cSt, cDt, cDs, Sl.v, zIns, insV, cDp, cDst]; omega) | (simp [cOp, cWk, cIv, cHr, cLt, cWt, cIt, cFl, cTn, cCl, cPo, cSt, cDt, cDs, Sl.v, zIns, insV, cDp, cDst] at *; omega)) i_36 rfl rfl) rfl ?_
   rw [show ((cDst (⟨a0, a1, (a2 : Nat), (a3 : Nat), (a4 : Nat), (a5 : Nat), (a6 : Nat), sli, sen, swo, siv, zIns Dp, zIns Hr, zIns Lt, zIns Wt⟩ : Dst)).toArray).setIfInBounds 11 (insV spo) = (cDst (⟨a0, a1, (a2 : Nat), (a3 : Nat), (a4 : Nat), (a5 : Nat), (a6 : Nat), sli, sen, swo, siv, spo, zIns Hr, zIns Lt, zIns Wt⟩ : Dst)).toArray from rfl]
   refine Zg ?_
   refine Zh ?_
   refine Zd (l := [0, 1, 2, 3]) rfl ?_
   refine Za rfl rfl rfl rfl (Zc rfl rfl) ?_
   refine Za rfl rfl rfl rfl (V_loadW (s := 15) rfl rfl (Zf 1 rfl) Try.underlying38 rfl i_38 rfl (by rfl)) ?_
   refine Zq (L2 := (_ :: _ :: _ :: _ :: _ :: _ :: _)) rfl rfl rfl rfl rfl rfl Try.call43 (rq_rest b13 lc ec (by omega) (by omega) (⟨a0, a1, (a2 : Nat), (a3 : Nat), (a4 : Nat), (a5 : Nat), (a6 : Nat), sli, sen, swo, siv, spo, zIns Hr, zIns Lt, zIns Wt⟩ : Dst)) [0] [] rfl rfl ?_
   rintro v post ⟨shi, sle, swa, ld, lf, lg, ed, ef, eg, hshi, hsle, hswa, rhi, rle, rwa, rfl, rfl⟩
   show G _ _ _ (_ :: _ :: _ :: _ :: _ :: _ :: _ :: _ :: _ :: _ :: _) _
   refine Yj (l1 := [_, _, _, _]) (L' := (_ :: _ :: _ :: _ :: _ :: _ :: _ :: _ :: _ :: _ :: _)) rfl rfl rfl rfl (Yv (s := 15) rfl rfl rfl (Zf 4 rfl) (by rfl) i_38 rfl (by rfl) (by simp [Value.oneCell', cOp, cWk, cIv, cHr, cLt, cWt, cIt, cFl, cTn, cCl, cPo, cSt, cDt, cDs, Sl.v, zIns, insV, cDp, cDst])) rfl ?_
   refine Zg ?_
   refine Zh ?_
   refine Zh ?_
   have hr : Rdg encPS GPS l 0 (vDst (⟨a0, a1, (a2 : Nat), (a3 : Nat), (a4 : Nat), (a5 : Nat), (a6 : Nat), sli, sen, swo, siv, spo, shi, sle, swa⟩ : Dst)) lg eg := rdgPS r1 r2 (rdg_is5 (by omega) r3 r4 r5 r6 r7) rli ren rwo riv rpo rhi rle rwa
   obtain ⟨hd0, hd1⟩ := decP_of hr
   refine Zd (l := [0, 1, 2]) rfl ?_
   refine Za rfl rfl rfl rfl (Zc rfl rfl) ?_
   refine Zq (L2 := (_ :: _ :: _ :: _ :: _ :: _ :: _ :: _ :: _ :: _ :: _)) rfl rfl rfl rfl rfl rfl Try.call44 (rrd_end _ _ _) [] [0] rfl rfl ?_
   rintro v post ⟨rfl, rfl⟩
   show G _ _ _ (_ :: _ :: _ :: _ :: _ :: _ :: _ :: _ :: _ :: _ :: _) _
   refine Za rfl rfl rfl rfl (V_neq rfl rfl rfl) ?_
   refine Zg ?_
   refine Yk rfl (fun hc1 => ?_) (fun hc1 => ?_)
   ·
    refine Zh ?_
    refine Xq (.cells #[] 0 (0, 0)) ?_
    refine Zd (l := [0, 1, 2]) rfl ?_
    refine Za rfl rfl rfl rfl (Xw (cs := [_, _, _, _, _, _, _, _, _, _, _, _, _, _, _]) rfl Try.underlying38 i_38 rfl p_38 rfl rfl rfl) ?_
    refine Yj (l1 := [_, _, _, _, _, _, _]) (L' := (_ :: _ :: _ :: _ :: _ :: _ :: _ :: _ :: _ :: _ :: _ :: _)) rfl rfl rfl rfl (Yv (s := 15) rfl rfl rfl (Zf 7 rfl) (by rfl) i_38 rfl (by rfl) (by simp [Value.oneCell', cOp, cWk, cIv, cHr, cLt, cWt, cIt, cFl, cTn, cCl, cPo, cSt, cDt, cDs, Sl.v, zIns, insV, cDp, cDst])) rfl ?_
    refine Za rfl rfl rfl rfl (Zk rfl rfl) ?_
    refine Zg ?_
    refine G_retT (p1 := [_]) (T := []) Try.func10 rfl (Zy (RV_cell (s := 15) rfl (Zf 7 rfl) Try.underlying38 rfl i_38 rfl (by rfl)) (Zy (Yt rfl) Zp)) [0] ⟨_, _, rfl, .refl _⟩ ?_
    dsimp only [packed]
    first
      | exact ⟨zDst, 3, _, zDst_ok, zDst_k, hd1 (by omega), rfl, rfl⟩
      | exact ⟨(⟨a0, a1, (a2 : Nat), (a3 : Nat), (a4 : Nat), (a5 : Nat), (a6 : Nat), sli, sen, swo, siv, spo, shi, sle, swa⟩ : Dst), 0, _, ⟨hsli, hsen, hswo, hsiv, hspo, hshi, hsle, hswa, hoks⟩, dst_sub hMp, hd0 (by omega), rfl, rfl⟩
   refine Zu ?_
   refine Zh ?_
   refine Zd (l := [0, 1, 2]) rfl ?_
   refine Za rfl rfl rfl rfl (V_loadW (s := 15) rfl rfl (Zf 4 rfl) Try.underlying38 rfl i_38 rfl (by rfl)) ?_
   refine Yj (l1 := [_, _, _, _, _, _]) (L' := (_ :: _ :: _ :: _ :: _ :: _ :: _ :: _ :: _ :: _ :: _)) rfl rfl rfl rfl (Yv (s := 15) rfl rfl rfl (Zf 6 rfl) (by rfl) i_38 rfl (by rfl) (by simp [Value.oneCell', cOp, cWk, cIv, cHr, cLt, cWt, cIt, cFl, cTn, cCl, cPo, cSt, cDt, cDs, Sl.v, zIns, insV, cDp, cDst])) rfl ?_
   refine Za rfl rfl rfl rfl (Zk rfl rfl) ?_
   refine Zg ?_
   refine G_retT (p1 := [_, _, _, _, _, _, _]) (T := _) Try.func10 rfl (Zy (RV_cell (s := 15) rfl (Zf 6 rfl) Try.underlying38 rfl i_38 rfl (by rfl)) (Zy (Yt rfl) Zp)) [7, 7, 7, 5, 1, 1, 1] ⟨_, _, rfl, List.perm_append_comm (l₁ := [_, _, _])⟩ ?_
   dsimp only [packed]
   first
     | exact ⟨zDst, 3, _, zDst_ok, zDst_k, hd1 (by omega), rfl, rfl⟩
     | exact ⟨(⟨a0, a1, (a2 : Nat), (a3 : Nat), (a4 : Nat), (a5 : Nat), (a6 : Nat), sli, sen, swo, siv, spo, shi, sle, swa⟩ : Dst), 0, _, ⟨hsli, hsen, hswo, hsiv, hspo, hshi, hsle, hswa, hoks⟩, dst_sub hMp, hd0 (by omega), rfl, rfl⟩
  case mainB2 =>
   refine Zs ?_
   refine Yi ?he25 [1, 1, 0, 1, 1, 1, 0] ?hl25 (Xb (X := Nat × Sl × List Iv × List UInt8 × Nat) (fun x_ => match x_ with | ⟨i, ub, msb, lb1, eb1⟩ => i ≤ nb ∧ msb.length = i ∧ Own 5 ub (msb.flatMap cIv) msb.length ∧ RdgL encIv GIv nb lb0 eb0 i msb lb1 eb1) (fun x_ => match x_ with | ⟨i, ub, msb, lb1, eb1⟩ => nb - i) (fun x_ => match x_ with | ⟨i, ub, msb, lb1, eb1⟩ => [(2, .pointer (some ⟨b2, 0, none⟩)), (3, .int .i64 0), (4, .pointer (some ⟨b13, 0, none⟩)), (5, .pointer (some ⟨b5, 0, none⟩)), (6, .int .i64 (nb : Int)), (9, .int .i64 (i : Int))]) (fun x_ => match x_ with | ⟨i, ub, msb, lb1, eb1⟩ => [(some b13, .cells #[.string (bs lb1), .int .i64 ((eb1 : Nat) : Int)] 86 (0, 0)), (some b5, .cells ((cDst (⟨a0, a1, (a2 : Nat), (a3 : Nat), (a4 : Nat), (a5 : Nat), (a6 : Nat), sli, sen, swo, insOf ub 95 msb, zIns Dp, zIns Hr, zIns Lt, zIns Wt⟩ : Dst)).toArray) 38 (0, 0)), (ub.ob, .cells ub.cs 95 ub.fz), (some b2, .cells (cDst zDst).toArray 38 (0, 0)), insK sli, insK sen, insK swo]) ?round25 (0, slNil, [], lb0, eb0) ?h025)
   case he25 => exact (And.intro rfl (And.intro rfl (And.intro rfl (And.intro rfl (And.intro rfl (And.intro rfl trivial))))))
   case hl25 => exact ⟨_, rfl⟩
   case h025 => exact ⟨Nat.zero_le _, rfl, own_nil 5, .zero heb0⟩
   case round25 =>
    intro x_ hJ ihb
    try dsimp only at hJ ihb
    obtain ⟨i, ub, msb, lb1, eb1⟩ := x_
    try dsimp only at hJ ihb
    obtain ⟨hib, hmlb, hub, hxb⟩ := hJ
    show G _ _ [(2, .pointer (some ⟨b2, 0, none⟩)), (3, .int .i64 0), (4, .pointer (some ⟨b13, 0, none⟩)), (5, .pointer (some ⟨b5, 0, none⟩)), (6, .int .i64 (nb : Int)), (9, .int .i64 (i : Int))] [(some b13, .cells #[.string (bs lb1), .int .i64 ((eb1 : Nat) : Int)] 86 (0, 0)), (some b5, .cells ((cDst (⟨a0, a1, (a2 : Nat), (a3 : Nat), (a4 : Nat), (a5 : Nat), (a6 : Nat), sli, sen, swo, insOf ub 95 msb, zIns Dp, zIns Hr, zIns Lt, zIns Wt⟩ : Dst)).toArray) 38 (0, 0)), (ub.ob, .cells ub.cs 95 ub.fz), (some b2, .cells (cDst zDst).toArray 38 (0, 0)), insK sli, insK sen, insK swo] _
    have hlb1 := hxb.len
    have heb1 := hxb.err
    refine Zh ?_
    refine Zh ?_
    refine Zd (l := [0, 1, 2, 3, 4, 5, 6, 7, 8, 9]) rfl ?_
    refine Za rfl rfl rfl rfl (Zc rfl rfl) ?_
    refine Za rfl rfl rfl rfl (Zc rfl rfl) ?_
    refine Za rfl rfl rfl rfl (Xn rfl rfl rfl) ?_
    refine Za rfl rfl rfl rfl (Zc rfl rfl) ?_
    refine Xa 87 rfl (fun hc1 => ?_) (fun hc1 => ?_)
    ·
     refine Za rfl rfl rfl rfl (Zc rfl rfl) ?_
     refine Za rfl rfl rfl rfl (Ze rfl rfl) ?_
     refine Za rfl rfl rfl rfl (Zb (fo := 1) rfl Try.underlying86 rfl i_3 rfl rfl rfl) ?_
     refine Za rfl rfl rfl rfl (Zj rfl rfl (Zf 0 rfl) rfl Try.underlying3 rfl) ?_
     refine Za rfl rfl rfl rfl (V_eql rfl rfl rfl) ?_
     refine Za rfl rfl rfl rfl (Yz rfl rfl rfl) ?_
     refine Zg ?_
     refine Yk rfl (fun hc2 => ?_) (fun hc2 => ?_)
     ·
      refine Zu ?_
      refine Zh ?_
      refine Zs ?_
      refine Zh ?_
      refine Zd (l := [0, 1, 2, 3, 4]) rfl ?_
      refine Za rfl rfl rfl rfl (Zc rfl rfl) ?_
      refine Zq (L2 := [_, _, _, _, _, _]) rfl rfl rfl rfl rfl rfl Try.call38 (rq_I b13 lb1 eb1 (by omega) (by omega)) [0] [] rfl rfl ?_
      rintro v post ⟨a0_, lq1, eq1, rq1, rfl, rfl⟩
      show G _ _ _ [_, _, _, _, _, _, _] _
      have hlq1_ := rq1.len
      have heq1_ := rq1.err
      refine Za rfl rfl rfl rfl (Xw (cs := [_, _, _, _, _]) rfl Try.underlying95 i_95 rfl p_95 rfl rfl rfl) ?_
      refine Yw rfl rfl rfl rfl (Ym rfl i_95 rfl) (fun b10 => ?_)
      refine Yj (l1 := []) (L' := [_, _, _, _, _, _, _, _]) rfl rfl rfl rfl (Yv (s := 5) rfl rfl rfl (Zf 0 rfl) (by rfl) i_95 rfl (by rfl) (by simp [Value.oneCell', cOp, cWk, cIv, cHr, cLt, cWt, cIt, cFl, cTn, cCl, cPo, cSt, cDt, cDs, Sl.v, zIns, insV, cDp, cDst])) rfl ?_
      refine Zg ?_
      refine Zh ?_
      refine Zd (l := [0, 1, 2, 3]) rfl ?_
      refine Za rfl rfl rfl rfl (Zc rfl rfl) ?_
      refine Zq (L2 := [_, _, _, _, _, _, _]) rfl rfl rfl rfl rfl rfl Try.call38 (rq_I b13 lq1 eq1 (by omega) (by omega)) [1] [] rfl rfl ?_
      rintro v post ⟨a1_, lq2, eq2, rq2, rfl, rfl⟩
      show G _ _ _ [_, _, _, _, _, _, _, _] _
      have hlq2_ := rq2.len
      have heq2_ := rq2.err
      refine Za rfl rfl rfl rfl (Zb (fo := 1) rfl Try.underlying95 rfl i_3 rfl rfl rfl) ?_
      refine Yj (l1 := [_]) (L' := [_, _, _, _, _, _, _, _]) rfl rfl rfl rfl (Zm rfl rfl rfl (Zf 1 rfl) (by first | exact of_decide_eq_true rfl | omega | (simp [cOp, cWk, cIv, cHr, cLt, cWt, cIt, cFl, cTn, cCl, cPo, cSt, cDt, cDs, Sl.v, zIns, insV, cDp, cDst]; done) | (simp [cOp, cWk, cIv, cHr, cLt, cWt, cIt, cFl, cTn, cCl, cPo, cSt, cDt, cDs, Sl.v, zIns, insV, cDp, cDst]; omega) | (simp [cOp, cWk, cIv, cHr, cLt, cWt, cIt, cFl, cTn, cCl, cPo, cSt, cDt, cDs, Sl.v, zIns, insV, cDp, cDst] at *; omega)) i_3 rfl rfl) rfl ?_
      refine Zg ?_
      refine Zh ?_
      refine Zd (l := [0, 1, 2, 3]) rfl ?_
      refine Za rfl rfl rfl rfl (Zc rfl rfl) ?_
      refine Zq (L2 := [_, _, _, _, _, _, _]) rfl rfl rfl rfl rfl rfl Try.call38 (rq_I b13 lq2 eq2 (by omega) (by omega)) [0] [] rfl rfl ?_
      rintro v post ⟨a3_, lq3, eq3, rq3, rfl, rfl⟩
      show G _ _ _ [_, _, _, _, _, _, _, _] _
      have hlq3_ := rq3.len
      have heq3_ := rq3.err
      refine Za rfl rfl rfl rfl (Zb (fo := 3) rfl Try.underlying95 rfl i_3 rfl rfl rfl) ?_
      refine Yj (l1 := [_]) (L' := [_, _, _, _, _, _, _, _]) rfl rfl rfl rfl (Zm rfl rfl rfl (Zf 1 rfl) (by first | exact of_decide_eq_true rfl | omega | (simp [cOp, cWk, cIv, cHr, cLt, cWt, cIt, cFl, cTn, cCl, cPo, cSt, cDt, cDs, Sl.v, zIns, insV, cDp, cDst]; done) | (simp [cOp, cWk, cIv, cHr, cLt, cWt, cIt, cFl, cTn, cCl, cPo, cSt, cDt, cDs, Sl.v, zIns, insV, cDp, cDst]; omega) | (simp [cOp, cWk, cIv, cHr, cLt, cWt, cIt, cFl, cTn, cCl, cPo, cSt, cDt, cDs, Sl.v, zIns, insV, cDp, cDst] at *; omega)) i_3 rfl rfl) rfl ?_
      refine Zg ?_
      refine Zh ?_
      refine Zd (l := [0, 1, 2, 3]) rfl ?_
      refine Za rfl rfl rfl rfl (Zc rfl rfl) ?_
      refine Zq (L2 := [_, _, _, _, _, _, _]) rfl rfl rfl rfl rfl rfl Try.call38 (rq_I b13 lq3 eq3 (by omega) (by omega)) [0] [] rfl rfl ?_
      rintro v post ⟨a4_, lq4, eq4, rq4, rfl, rfl⟩
      show G _ _ _ [_, _, _, _, _, _, _, _] _
      have hlq4_ := rq4.len
      have heq4_ := rq4.err
      refine Za rfl rfl rfl rfl (Zb (fo := 4) rfl Try.underlying95 rfl i_3 rfl rfl rfl) ?_
      refine Yj (l1 := [_]) (L' := [_, _, _, _, _, _, _, _]) rfl rfl rfl rfl (Zm rfl rfl rfl (Zf 1 rfl) (by first | exact of_decide_eq_true rfl | omega | (simp [cOp, cWk, cIv, cHr, cLt, cWt, cIt, cFl, cTn, cCl, cPo, cSt, cDt, cDs, Sl.v, zIns, insV, cDp, cDst]; done) | (simp [cOp, cWk, cIv, cHr, cLt, cWt, cIt, cFl, cTn, cCl, cPo, cSt, cDt, cDs, Sl.v, zIns, insV, cDp, cDst]; omega) | (simp [cOp, cWk, cIv, cHr, cLt, cWt, cIt, cFl, cTn, cCl, cPo, cSt, cDt, cDs, Sl.v, zIns, insV, cDp, cDst] at *; omega)) i_3 rfl rfl) rfl ?_
      refine Zg ?_
      refine Zh ?_
      refine Zd (l := [0, 1, 2, 3]) rfl ?_
      refine Za rfl rfl rfl rfl (Zc rfl rfl) ?_
      refine Zq (L2 := [_, _, _, _, _, _, _]) rfl rfl rfl rfl rfl rfl Try.call41 (rq_T b13 lq4 eq4 (by omega) (by omega)) [0] [] rfl rfl ?_
      rintro v post ⟨a2_, lq5, eq5, rq5, rfl, rfl⟩
      show G _ _ _ [_, _, _, _, _, _, _, _] _
      have hlq5_ := rq5.len
      have heq5_ := rq5.err
      refine Za rfl rfl rfl rfl (Zb (fo := 2) rfl Try.underlying95 rfl i_9 rfl rfl rfl) ?_
      refine Yj (l1 := [_]) (L' := [_, _, _, _, _, _, _, _]) rfl rfl rfl rfl (Zm rfl rfl rfl (Zf 1 rfl) (by first | exact of_decide_eq_true rfl | omega | (simp [cOp, cWk, cIv, cHr, cLt, cWt, cIt, cFl, cTn, cCl, cPo, cSt, cDt, cDs, Sl.v, zIns, insV, cDp, cDst]; done) | (simp [cOp, cWk, cIv, cHr, cLt, cWt, cIt, cFl, cTn, cCl, cPo, cSt, cDt, cDs, Sl.v, zIns, insV, cDp, cDst]; omega) | (simp [cOp, cWk, cIv, cHr, cLt, cWt, cIt, cFl, cTn, cCl, cPo, cSt, cDt, cDs, Sl.v, zIns, insV, cDp, cDst] at *; omega)) i_9 rfl rfl) rfl ?_
      refine Zg ?_
      show G _ _ _ [_, (some b10, .cells (cIv (⟨(a0_ : Nat), (a1_ : Nat), a2_, (a3_ : Nat), (a4_ : Nat)⟩ : Iv)).toArray 95 (0, 0)), _, _, _, _, _, _] _
      refine Zd (l := [0, 1, 2, 3, 4, 5, 6]) rfl ?_
      refine Za rfl rfl rfl rfl (Zb (fo := 10) rfl Try.underlying38 rfl i_26 rfl rfl rfl) ?_
      refine Za rfl rfl rfl rfl (Zj rfl rfl (Zf 2 rfl) rfl Try.underlying26 rfl) ?_
      refine Za rfl rfl rfl rfl (V_loadW (s := 5) rfl rfl (Zf 1 rfl) Try.underlying95 rfl i_95 rfl (by rfl)) ?_
      refine Yw rfl rfl rfl rfl (Zn (s := 5) (cs := [_, _, _, _, _]) rfl Try.underlying26 i_95 rfl rfl rfl rfl rfl rfl rfl rfl rfl) (fun b114 => ?_)
      refine G_append (l1 := [_, _, _, _]) (s := ub) (nn := msb.length) (m := 1) (news := (cIv (⟨(a0_ : Nat), (a1_ : Nat), a2_, (a3_ : Nat), (a4_ : Nat)⟩ : Iv))) (bt := 48) rfl rfl rfl rfl Try.underlying26 Try.underlying26 (by first | exact .inl rfl | exact .inr ⟨_, rfl⟩) i_95 rfl rfl rfl rfl rfl rfl hub rfl (Yg (Zf 0 rfl) rfl rfl (by simp [cIv, Value.oneCell'])) (by omega) (by omega) ?_
      intro u1 hu1 _
      show G _ _ _ [_, _, _, _, _, _, _, _, _] _
      refine Za rfl rfl rfl rfl (Zb (fo := 10) rfl Try.underlying38 rfl i_26 rfl rfl rfl) ?_
      refine Yj (l1 := [_, _, _]) (L' := [_, _, _, _, _, _, _, _, _]) rfl rfl rfl rfl (Zm rfl rfl rfl (Zf 3 rfl) (by first | exact of_decide_eq_true rfl | omega | (simp [cOp, cWk, cIv, cHr, cLt, cWt, cIt, cFl, cTn, cCl, cPo, cSt, cDt, cDs, Sl.v, zIns, insV, cDp, cDst]; done) | (simp [cOp, cWk, cIv, cHr, cLt, cWt, cIt, cFl, cTn, cCl, cPo, cSt, cDt, cDs, Sl.v, zIns, insV, cDp, cDst]; omega) | (simp [cOp, cWk, cIv, cHr, cLt, cWt, cIt, cFl, cTn, cCl, cPo, cSt, cDt, cDs, Sl.v, zIns, insV, cDp, cDst] at *; omega)) i_26 rfl rfl) rfl ?_
      rw [dst_set10 (T := 95) (ms := msb ++ [(⟨(a0_ : Nat), (a1_ : Nat), a2_, (a3_ : Nat), (a4_ : Nat)⟩ : Iv)]) (by simp)]
      refine Zg ?_
      refine Zv ?_
      refine Zd (l := [0, 1, 2]) rfl ?_
      refine Za rfl rfl rfl rfl (Zc rfl rfl) ?_
      refine Za rfl rfl rfl rfl ((Xe rfl rfl rfl).int (Zw (by omega))) ?_
      refine Za rfl rfl rfl rfl (Zk rfl rfl) ?_
      refine Zg ?_
      refine Yi ?_ [1, 2, 2, 2, 2, 2, 2] ?_ (ihb (i + 1, u1, msb ++ [(⟨(a0_ : Nat), (a1_ : Nat), a2_, (a3_ : Nat), (a4_ : Nat)⟩ : Iv)], lq5, eq5) ?_ ?_)
      · (refine (And.intro ?_ (And.intro ?_ (And.intro ?_ (And.intro ?_ (And.intro ?_ (And.intro ?_ trivial)))))) <;> first | rfl | exact Zl (by omega) | exact Zl (by simp))
      · exact ⟨_, rfl⟩
      · exact ⟨by omega, by simp [hmlb], by rw [List.flatMap_append, List.flatMap_singleton, List.length_append, List.length_singleton]; exact hu1, hxb.next (rdgIv (rdg_is4 (by omega) rq1 rq2 rq3 rq4) (rdg_ts1 (by omega) rq5)) (by omega)⟩
      · (first | omega | (dsimp only; omega))
     refine Yr rfl ?_
     refine Yi ?_ [0, 0, 0, 0, 0, 0, 0] ?_ (jnB2 (insOf ub 95 msb, lb1, eb1) ?_)
     · (refine (And.intro ?_ (And.intro ?_ (And.intro ?_ (And.intro ?_ trivial)))) <;> first | rfl | exact Zl (by omega) | exact Zl (by simp))
     · exact ⟨_, rfl⟩
     · exact ⟨Yh hub (by omega), rdg_Le (by omega) hb0 hxb (by omega)⟩
    refine Yb rfl rfl rfl rfl ?_
    refine Yb rfl rfl rfl rfl ?_
    refine Yb rfl rfl rfl rfl ?_
    refine Yb rfl rfl rfl rfl ?_
    refine Yb rfl rfl rfl rfl ?_
    refine Za rfl rfl rfl rfl (Xg rfl rfl rfl) ?_
    refine Zg ?_
    refine Xu rfl ?_
    refine Yr rfl ?_
    refine Yi ?_ [0, 0, 0, 0, 0, 0, 0] ?_ (jnB2 (insOf ub 95 msb, lb1, eb1) ?_)
    · (refine (And.intro ?_ (And.intro ?_ (And.intro ?_ (And.intro ?_ trivial)))) <;> first | rfl | exact Zl (by omega) | exact Zl (by simp))
    · exact ⟨_, rfl⟩
    · exact ⟨Yh hub (by omega), rdg_Le (by omega) hb0 hxb (by omega)⟩
 case mainB0 =>
  refine Zs ?_
  refine Yi ?he13 [1, 3, 0, 2, 1, 0] ?hl13 (Xb (X := Nat × Sl × List Wk × List UInt8 × Nat) (fun x_ => match x_ with | ⟨i, ua, msa, la1, ea1⟩ => i ≤ na ∧ msa.length = i ∧ Own 7 ua (msa.flatMap cWk) msa.length ∧ RdgL encWk GWk na la0 ea0 i msa la1 ea1) (fun x_ => match x_ with | ⟨i, ua, msa, la1, ea1⟩ => na - i) (fun x_ => match x_ with | ⟨i, ua, msa, la1, ea1⟩ => [(2, .pointer (some ⟨b2, 0, none⟩)), (3, .int .i64 0), (4, .pointer (some ⟨b13, 0, none⟩)), (5, .pointer (some ⟨b5, 0, none⟩)), (6, .int .i64 (na : Int)), (7, .int .i64 (i : Int))]) (fun x_ => match x_ with | ⟨i, ua, msa, la1, ea1⟩ => [(some b13, .cells #[.string (bs la1), .int .i64 ((ea1 : Nat) : Int)] 86 (0, 0)), (some b5, .cells ((cDst (⟨a0, a1, (a2 : Nat), (a3 : Nat), (a4 : Nat), (a5 : Nat), (a6 : Nat), sli, sen, insOf ua 92 msa, zIns Iv, zIns Dp, zIns Hr, zIns Lt, zIns Wt⟩ : Dst)).toArray) 38 (0, 0)), (ua.ob, .cells ua.cs 92 ua.fz), (some b2, .cells (cDst zDst).toArray 38 (0, 0)), insK sli, insK sen]) ?round13 (0, slNil, [], la0, ea0) ?h013)
  case he13 => exact (And.intro rfl (And.intro rfl (And.intro rfl (And.intro rfl (And.intro rfl (And.intro rfl trivial))))))
  case hl13 => exact ⟨_, rfl⟩
  case h013 => exact ⟨Nat.zero_le _, rfl, own_nil 7, .zero hea0⟩
  case round13 =>
   intro x_ hJ iha
   try dsimp only at hJ iha
   obtain ⟨i, ua, msa, la1, ea1⟩ := x_
   try dsimp only at hJ iha
   obtain ⟨hia, hmla, hua, hxa⟩ := hJ
   show G _ _ [(2, .pointer (some ⟨b2, 0, none⟩)), (3, .int .i64 0), (4, .pointer (some ⟨b13, 0, none⟩)), (5, .pointer (some ⟨b5, 0, none⟩)), (6, .int .i64 (na : Int)), (7, .int .i64 (i : Int))] [(some b13, .cells #[.string (bs la1), .int .i64 ((ea1 : Nat) : Int)] 86 (0, 0)), (some b5, .cells ((cDst (⟨a0, a1, (a2 : Nat), (a3 : Nat), (a4 : Nat), (a5 : Nat), (a6 : Nat), sli, sen, insOf ua 92 msa, zIns Iv, zIns Dp, zIns Hr, zIns Lt, zIns Wt⟩ : Dst)).toArray) 38 (0, 0)), (ua.ob, .cells ua.cs 92 ua.fz), (some b2, .cells (cDst zDst).toArray 38 (0, 0)), insK sli, insK sen] _
   have hla1 := hxa.len
   have hea1 := hxa.err
   refine Zh ?_
   refine Zh ?_
   refine Zd (l := [0, 1, 2, 3, 4, 5, 6, 7, 8, 9]) rfl ?_
   refine Za rfl rfl rfl rfl (Zc rfl rfl) ?_
   refine Za rfl rfl rfl rfl (Zc rfl rfl) ?_
   refine Za rfl rfl rfl rfl (Xn rfl rfl rfl) ?_
   refine Za rfl rfl rfl rfl (Zc rfl rfl) ?_
   refine Xa 46 rfl (fun hc1 => ?_) (fun hc1 => ?_)
   ·
    refine Za rfl rfl rfl rfl (Zc rfl rfl) ?_
    refine Za rfl rfl rfl rfl (Ze rfl rfl) ?_
    refine Za rfl rfl rfl rfl (Zb (fo := 1) rfl Try.underlying86 rfl i_3 rfl rfl rfl) ?_
    refine Za rfl rfl rfl rfl (Zj rfl rfl (Zf 0 rfl) rfl Try.underlying3 rfl) ?_
    refine Za rfl rfl rfl rfl (V_eql rfl rfl rfl) ?_
    refine Za rfl rfl rfl rfl (Yz rfl rfl rfl) ?_
    refine Zg ?_
    refine Yk rfl (fun hc2 => ?_) (fun hc2 => ?_)
    ·
     refine Zu ?_
     refine Zh ?_
     refine Zs ?_
     refine Zh ?_
     refine Zd (l := [0, 1, 2, 3, 4]) rfl ?_
     refine Za rfl rfl rfl rfl (Zc rfl rfl) ?_
     refine Zq (L2 := [_, _, _, _, _]) rfl rfl rfl rfl rfl rfl Try.call38 (rq_I b13 la1 ea1 (by omega) (by omega)) [0] [] rfl rfl ?_
     rintro v post ⟨a0_, lp1, ep1, rp1, rfl, rfl⟩
     show G _ _ _ [_, _, _, _, _, _] _
     have hlp1_ := rp1.len
     have hep1_ := rp1.err
     refine Za rfl rfl rfl rfl (Xw (cs := [_, _, _, _, _, _, _]) rfl Try.underlying92 i_92 rfl p_92 rfl rfl rfl) ?_
     refine Yw rfl rfl rfl rfl (Ym rfl i_92 rfl) (fun b8 => ?_)
     refine Yj (l1 := []) (L' := [_, _, _, _, _, _, _]) rfl rfl rfl rfl (Yv (s := 7) rfl rfl rfl (Zf 0 rfl) (by rfl) i_92 rfl (by rfl) (by simp [Value.oneCell', cOp, cWk, cIv, cHr, cLt, cWt, cIt, cFl, cTn, cCl, cPo, cSt, cDt, cDs, Sl.v, zIns, insV, cDp, cDst])) rfl ?_
     refine Zg ?_
     refine Zh ?_
     refine Zd (l := [0, 1, 2, 3]) rfl ?_
     refine Za rfl rfl rfl rfl (Zc rfl rfl) ?_
     refine Zq (L2 := [_, _, _, _, _, _]) rfl rfl rfl rfl rfl rfl Try.call38 (rq_I b13 lp1 ep1 (by omega) (by omega)) [1] [] rfl rfl ?_
     rintro v post ⟨a1_, lp2, ep2, rp2, rfl, rfl⟩
     show G _ _ _ [_, _, _, _, _, _, _] _
     have hlp2_ := rp2.len
     have hep2_ := rp2.err
     refine Za rfl rfl rfl rfl (Zb (fo := 1) rfl Try.underlying92 rfl i_3 rfl rfl rfl) ?_
     refine Yj (l1 := [_]) (L' := [_, _, _, _, _, _, _]) rfl rfl rfl rfl (Zm rfl rfl rfl (Zf 1 rfl) (by first | exact of_decide_eq_true rfl | omega | (simp [cOp, cWk, cIv, cHr, cLt, cWt, cIt, cFl, cTn, cCl, cPo, cSt, cDt, cDs, Sl.v, zIns, insV, cDp, cDst]; done) | (simp [cOp, cWk, cIv, cHr, cLt, cWt, cIt, cFl, cTn, cCl, cPo, cSt, cDt, cDs, Sl.v, zIns, insV, cDp, cDst]; omega) | (simp [cOp, cWk, cIv, cHr, cLt, cWt, cIt, cFl, cTn, cCl, cPo, cSt, cDt, cDs, Sl.v, zIns, insV, cDp, cDst] at *; omega)) i_3 rfl rfl) rfl ?_
     refine Zg ?_
     refine Zh ?_
     refine Zd (l := [0, 1, 2, 3]) rfl ?_
     refine Za rfl rfl rfl rfl (Zc rfl rfl) ?_
     refine Zq (L2 := [_, _, _, _, _, _]) rfl rfl rfl rfl rfl rfl Try.call38 (rq_I b13 lp2 ep2 (by omega) (by omega)) [0] [] rfl rfl ?_
     rintro v post ⟨a2_, lp3, ep3, rp3, rfl, rfl⟩
     show G _ _ _ [_, _, _, _, _, _, _] _
     have hlp3_ := rp3.len
     have hep3_ := rp3.err
     refine Za rfl rfl rfl rfl (Zb (fo := 2) rfl Try.underlying92 rfl i_3 rfl rfl rfl) ?_
     refine Yj (l1 := [_]) (L' := [_, _, _, _, _, _, _]) rfl rfl rfl rfl (Zm rfl rfl rfl (Zf 1 rfl) (by first | exact of_decide_eq_true rfl | omega | (simp [cOp, cWk, cIv, cHr, cLt, cWt, cIt, cFl, cTn, cCl, cPo, cSt, cDt, cDs, Sl.v, zIns, insV, cDp, cDst]; done) | (simp [cOp, cWk, cIv, cHr, cLt, cWt, cIt, cFl, cTn, cCl, cPo, cSt, cDt, cDs, Sl.v, zIns, insV, cDp, cDst]; omega) | (simp [cOp, cWk, cIv, cHr, cLt, cWt, cIt, cFl, cTn, cCl, cPo, cSt, cDt, cDs, Sl.v, zIns, insV, cDp, cDst] at *; omega)) i_3 rfl rfl) rfl ?_
     refine Zg ?_
     refine Zh ?_
     refine Zd (l := [0, 1, 2, 3]) rfl ?_
     refine Za rfl rfl rfl rfl (Zc rfl rfl) ?_
     refine Zq (L2 := [_, _, _, _, _, _]) rfl rfl rfl rfl rfl rfl Try.call41 (rq_T b13 lp3 ep3 (by omega) (by omega)) [0] [] rfl rfl ?_
     rintro v post ⟨a3_, lp4, ep4, rp4, rfl, rfl⟩
     show G _ _ _ [_, _, _, _, _, _, _] _
     have hlp4_ := rp4.len
     have hep4_ := rp4.err
     refine Za rfl rfl rfl rfl (Zb (fo := 3) rfl Try.underlying92 rfl i_9 rfl rfl rfl) ?_
     refine Yj (l1 := [_]) (L' := [_, _, _, _, _, _, _]) rfl rfl rfl rfl (Zm rfl rfl rfl (Zf 1 rfl) (by first | exact of_decide_eq_true rfl | omega | (simp [cOp, cWk, cIv, cHr, cLt, cWt, cIt, cFl, cTn, cCl, cPo, cSt, cDt, cDs, Sl.v, zIns, insV, cDp, cDst]; done) | (simp [cOp, cWk, cIv, cHr, cLt, cWt, cIt, cFl, cTn, cCl, cPo, cSt, cDt, cDs, Sl.v, zIns, insV, cDp, cDst]; omega) | (simp [cOp, cWk, cIv, cHr, cLt, cWt, cIt, cFl, cTn, cCl, cPo, cSt, cDt, cDs, Sl.v, zIns, insV, cDp, cDst] at *; omega)) i_9 rfl rfl) rfl ?_
     refine Zg ?_
     refine Zh ?_
     refine Zd (l := [0, 1, 2, 3]) rfl ?_
     refine Za rfl rfl rfl rfl (Zc rfl rfl) ?_
     refine Zq (L2 := [_, _, _, _, _, _]) rfl rfl rfl rfl rfl rfl Try.call41 (rq_T b13 lp4 ep4 (by omega) (by omega)) [0] [] rfl rfl ?_
     rintro v post ⟨a4_, lp5, ep5, rp5, rfl, rfl⟩
     show G _ _ _ [_, _, _, _, _, _, _] _
     have hlp5_ := rp5.len
     have hep5_ := rp5.err
     refine Za rfl rfl rfl rfl (Zb (fo := 4) rfl Try.underlying92 rfl i_9 rfl rfl rfl) ?_
     refine Yj (l1 := [_]) (L' := [_, _, _, _, _, _, _]) rfl rfl rfl rfl (Zm rfl rfl rfl (Zf 1 rfl) (by first | exact of_decide_eq_true rfl | omega | (simp [cOp, cWk, cIv, cHr, cLt, cWt, cIt, cFl, cTn, cCl, cPo, cSt, cDt, cDs, Sl.v, zIns, insV, cDp, cDst]; done) | (simp [cOp, cWk, cIv, cHr, cLt, cWt, cIt, cFl, cTn, cCl, cPo, cSt, cDt, cDs, Sl.v, zIns, insV, cDp, cDst]; omega) | (simp [cOp, cWk, cIv, cHr, cLt, cWt, cIt, cFl, cTn, cCl, cPo, cSt, cDt, cDs, Sl.v, zIns, insV, cDp, cDst] at *; omega)) i_9 rfl rfl) rfl ?_
     refine Zg ?_
     refine Zh ?_
     refine Zd (l := [0, 1, 2, 3]) rfl ?_
     refine Za rfl rfl rfl rfl (Zc rfl rfl) ?_
     refine Zq (L2 := [_, _, _, _, _, _]) rfl rfl rfl rfl rfl rfl Try.call37 (rq_B b13 lp5 ep5 (by omega) (by omega)) [0] [] rfl rfl ?_
     rintro v post ⟨a5_, lp6, ep6, rp6, rfl, rfl⟩
     show G _ _ _ [_, _, _, _, _, _, _] _
     have hlp6_ := rp6.len
     have hep6_ := rp6.err
     refine Za rfl rfl rfl rfl (Zb (fo := 5) rfl Try.underlying92 rfl i_4 rfl rfl rfl) ?_
     refine Yj (l1 := [_]) (L' := [_, _, _, _, _, _, _]) rfl rfl rfl rfl (Zm rfl rfl rfl (Zf 1 rfl) (by first | exact of_decide_eq_true rfl | omega | (simp [cOp, cWk, cIv, cHr, cLt, cWt, cIt, cFl, cTn, cCl, cPo, cSt, cDt, cDs, Sl.v, zIns, insV, cDp, cDst]; done) | (simp [cOp, cWk, cIv, cHr, cLt, cWt, cIt, cFl, cTn, cCl, cPo, cSt, cDt, cDs, Sl.v, zIns, insV, cDp, cDst]; omega) | (simp [cOp, cWk, cIv, cHr, cLt, cWt, cIt, cFl, cTn, cCl, cPo, cSt, cDt, cDs, Sl.v, zIns, insV, cDp, cDst] at *; omega)) i_4 rfl rfl) rfl ?_
     refine Zg ?_
     refine Zh ?_
     refine Zd (l := [0, 1, 2, 3]) rfl ?_
     refine Za rfl rfl rfl rfl (Zc rfl rfl) ?_
     refine Zq (L2 := [_, _, _, _, _, _]) rfl rfl rfl rfl rfl rfl Try.call36 (rq_U b13 lp6 ep6 (by omega) (by omega)) [0] [] rfl rfl ?_
     rintro v post ⟨a6_, lp7, ep7, rp7, rfl, rfl⟩
     show G _ _ _ [_, _, _, _, _, _, _] _
     have hlp7_ := rp7.len
     have hep7_ := rp7.err
     refine Za rfl rfl rfl rfl (Zb (fo := 6) rfl Try.underlying92 rfl i_23 rfl rfl rfl) ?_
     refine Yj (l1 := [_]) (L' := [_, _, _, _, _, _, _]) rfl rfl rfl rfl (Zm rfl rfl rfl (Zf 1 rfl) (by first | exact of_decide_eq_true rfl | omega | (simp [cOp, cWk, cIv, cHr, cLt, cWt, cIt, cFl, cTn, cCl, cPo, cSt, cDt, cDs, Sl.v, zIns, insV, cDp, cDst]; done) | (simp [cOp, cWk, cIv, cHr, cLt, cWt, cIt, cFl, cTn, cCl, cPo, cSt, cDt, cDs, Sl.v, zIns, insV, cDp, cDst]; omega) | (simp [cOp, cWk, cIv, cHr, cLt, cWt, cIt, cFl, cTn, cCl, cPo, cSt, cDt, cDs, Sl.v, zIns, insV, cDp, cDst] at *; omega)) i_23 rfl rfl) rfl ?_
     refine Zg ?_
     show G _ _ _ [_, (some b8, .cells (cWk (⟨(a0_ : Nat), (a1_ : Nat), (a2_ : Nat), a3_, a4_, a5_, a6_⟩ : Wk)).toArray 92 (0, 0)), _, _, _, _, _] _
     refine Zd (l := [0, 1, 2, 3, 4, 5, 6]) rfl ?_
     refine Za rfl rfl rfl rfl (Zb (fo := 9) rfl Try.underlying38 rfl i_25 rfl rfl rfl) ?_
     refine Za rfl rfl rfl rfl (Zj rfl rfl (Zf 2 rfl) rfl Try.underlying25 rfl) ?_
     refine Za rfl rfl rfl rfl (V_loadW (s := 7) rfl rfl (Zf 1 rfl) Try.underlying92 rfl i_92 rfl (by rfl)) ?_
     refine Yw rfl rfl rfl rfl (Zn (s := 7) (cs := [_, _, _, _, _, _, _]) rfl Try.underlying25 i_92 rfl rfl rfl rfl rfl rfl rfl rfl rfl) (fun b79 => ?_)
     refine G_append (l1 := [_, _, _, _]) (s := ua) (nn := msa.length) (m := 1) (news := (cWk (⟨(a0_ : Nat), (a1_ : Nat), (a2_ : Nat), a3_, a4_, a5_, a6_⟩ : Wk))) (bt := 72) rfl rfl rfl rfl Try.underlying25 Try.underlying25 (by first | exact .inl rfl | exact .inr ⟨_, rfl⟩) i_92 rfl rfl rfl rfl rfl rfl hua rfl (Yg (Zf 0 rfl) rfl rfl (by simp [cWk, Value.oneCell'])) (by omega) (by omega) ?_
     intro u1 hu1 _
     show G _ _ _ [_, _, _, _, _, _, _, _] _
     refine Za rfl rfl rfl rfl (Zb (fo := 9) rfl Try.underlying38 rfl i_25 rfl rfl rfl) ?_
     refine Yj (l1 := [_, _, _]) (L' := [_, _, _, _, _, _, _, _]) rfl rfl rfl rfl (Zm rfl rfl rfl (Zf 3 rfl) (by first | exact of_decide_eq_true rfl | omega | (simp [cOp, cWk, cIv, cHr, cLt, cWt, cIt, cFl, cTn, cCl, cPo, cSt, cDt, cDs, Sl.v, zIns, insV, cDp, cDst]; done) | (simp [cOp, cWk, cIv, cHr, cLt, cWt, cIt, cFl, cTn, cCl, cPo, cSt, cDt, cDs, Sl.v, zIns, insV, cDp, cDst]; omega) | (simp [cOp, cWk, cIv, cHr, cLt, cWt, cIt, cFl, cTn, cCl, cPo, cSt, cDt, cDs, Sl.v, zIns, insV, cDp, cDst] at *; omega)) i_25 rfl rfl) rfl ?_
     rw [dst_set9 (T := 92) (ms := msa ++ [(⟨(a0_ : Nat), (a1_ : Nat), (a2_ : Nat), a3_, a4_, a5_, a6_⟩ : Wk)]) (by simp)]
     refine Zg ?_
     refine Zv ?_
     refine Zd (l := [0, 1, 2]) rfl ?_
     refine Za rfl rfl rfl rfl (Zc rfl rfl) ?_
     refine Za rfl rfl rfl rfl ((Xe rfl rfl rfl).int (Zw (by omega))) ?_
     refine Za rfl rfl rfl rfl (Zk rfl rfl) ?_
     refine Zg ?_
     refine Yi ?_ [1, 2, 2, 2, 2, 2] ?_ (iha (i + 1, u1, msa ++ [(⟨(a0_ : Nat), (a1_ : Nat), (a2_ : Nat), a3_, a4_, a5_, a6_⟩ : Wk)], lp7, ep7) ?_ ?_)
     · (refine (And.intro ?_ (And.intro ?_ (And.intro ?_ (And.intro ?_ (And.intro ?_ (And.intro ?_ trivial)))))) <;> first | rfl | exact Zl (by omega) | exact Zl (by simp))
     · exact ⟨_, rfl⟩
     · exact ⟨by omega, by simp [hmla], by rw [List.flatMap_append, List.flatMap_singleton, List.length_append, List.length_singleton]; exact hu1, hxa.next (rdgWk (rdg_is3 (by omega) rp1 rp2 rp3) (rdg_ts2 (by omega) rp4 rp5) rp6 rp7) (by omega)⟩
     · (first | omega | (dsimp only; omega))
    refine Yr rfl ?_
    refine Yi ?_ [0, 0, 0, 0, 0, 0] ?_ (jnB0 (insOf ua 92 msa, la1, ea1) ?_)
    · (refine (And.intro ?_ (And.intro ?_ (And.intro ?_ (And.intro ?_ trivial)))) <;> first | rfl | exact Zl (by omega) | exact Zl (by simp))
    · exact ⟨_, rfl⟩
    · exact ⟨Yh hua (by omega), rdg_Le (by omega) ha0 hxa (by omega)⟩
   refine Yb rfl rfl rfl rfl ?_
   refine Yb rfl rfl rfl rfl ?_
   refine Yb rfl rfl rfl rfl ?_
   refine Yb rfl rfl rfl rfl ?_
   refine Yb rfl rfl rfl rfl ?_
   refine Za rfl rfl rfl rfl (Xg rfl rfl rfl) ?_
   refine Zg ?_
   refine Xu rfl ?_
   refine Yr rfl ?_
   refine Yi ?_ [0, 0, 0, 0, 0, 0] ?_ (jnB0 (insOf ua 92 msa, la1, ea1) ?_)
   · (refine (And.intro ?_ (And.intro ?_ (And.intro ?_ (And.intro ?_ trivial)))) <;> first | rfl | exact Zl (by omega) | exact Zl (by simp))
   · exact ⟨_, rfl⟩
   · exact ⟨Yh hua (by omega), rdg_Le (by omega) ha0 hxa (by omega)⟩

end
end Go.Proofs.Ytjnaeoelnmhjfaa

namespace Go.Proofs.Ytjnaeoelnmhjfaa
open Go.ChangeShapes Go.WideShapes Go.ChangeAt Go.RowKit

theorem Try.ownK : ownKnob Try.prog.godebug = none := by kernel_rfl
theorem Try.laidOutK : laidOutB Try.prog = true := by kernel_rfl

theorem trodAll_below {H : Type} {enc : TypeId × Value → H} {P : Program} (hl : laidOutB P = true) {W W' : World} (hb : Below W.heap.size W W') :
    ∀ (ts : List TypeId) (vs : List Value) (ds : List (DataW H)) (ps : List MemPlace), (∀ t ∈ ts, P.readableRec t = true ∧ t < P.types.size) →
      DataW.TrodAll enc P W 0 (fun _ => true) true ts vs ds ps → DataW.TrodAll enc P W' 0 (fun b => decide (b < W.heap.size)) true ts vs ds ps
  | [], [], [], _, _, h => h
  | [], [], _ :: _, _, _, h => h.elim
  | [], _ :: _, [], _, _, h => h.elim
  | [], _ :: _, _ :: _, _, _, h => h.elim
  | _ :: _, [], [], _, _, h => h.elim
  | _ :: _, [], _ :: _, _, _, h => h.elim
  | _ :: _, _ :: _, [], _, _, h => h.elim
  | t :: ts, v :: vs, d :: ds, ps, hr, h => by
    obtain ⟨p, q, h1, h2, e⟩ := h
    have hlt : ∀ x ∈ p, x.block < W.heap.size := by
      obtain ⟨m, hm⟩ := h1
      exact DataW.trod_lt m _ _ _ hm
    exact ⟨p, q, Below.trod hl (hr t (by simp)).1 (hr t (by simp)).2 h1 hb hlt, trodAll_below hl hb ts vs ds q (fun t ht => hr t (by simp [ht])) h2, e⟩

/-- What a law's walk must show: called with whatever can be read at its parameters' types it returns true and writes nothing that was there. -/
def LawWalk (f : FuncId) (F : Func) : Prop :=
  ∀ (H : Type) (enc : TypeId × Value → H) (W : World) (base : Nat) (args : Array Value) (ds : List (DataW H)) (p : List MemPlace),
    (∀ (j : Nat) t v, F.params[j]? = some t → args[j]? = some v → Value.okWide Try.prog W .any base t v) →
    DataW.TrodAll enc Try.prog W 0 (fun _ => true) true F.params.toList args.toList ds p →
    Calls Try.prog f args W fun e W' => e = .returned (.bool true) ∧ Below W.heap.size W W'

theorem trodAll_len {H : Type} {enc : TypeId × Value → H} {P : Program} {w : World} {base : Nat} {spare : Nat → Bool} {held : Bool} :
    ∀ (ts : List TypeId) (vs : List Value) (ds : List (DataW H)) (ps : List MemPlace), DataW.TrodAll enc P w base spare held ts vs ds ps → ds.length = ts.length
  | [], [], [], _, _ => rfl
  | [], [], _ :: _, _, h => h.elim
  | [], _ :: _, [], _, h => h.elim
  | [], _ :: _, _ :: _, _, h => h.elim
  | _ :: _, [], [], _, h => h.elim
  | _ :: _, [], _ :: _, _, h => h.elim
  | _ :: _, _ :: _, [], _, h => h.elim
  | _ :: ts, _ :: vs, _ :: ds, _, h => by
    obtain ⟨p, q, _, h2, _⟩ := h
    simp [trodAll_len ts vs ds q h2]

set_option maxRecDepth 100000 in
theorem law_lifted {f : FuncId} {F : Func} {s : ChangeSpec} (os : Os) (started : os.Started) (H : Type) (enc : TypeId × Value → H)
    (hfn : Try.prog.funcs[f]? = some F) (hni : Try.checked.prog.inits.idxOf? f = none)
    (witness : ∃ (w : World) (tape : Tape) (i : Input), w.os = os ∧ (w.forCall tape i).Shaped Try.checked.prog ∧ i.vars = [] ∧ Input.okWide Try.checked.prog (w.forCall tape i) .any w.heap.size f i ∧
      s.pre6 enc Try.checked.prog F [] false (w.forCall tape i).memory i.args ∧ Assume.holds {} Try.checked.prog (lone (Frame.enter Try.checked.prog f i.args .normal) [] (w.forCall tape i)))
    (hvars : s.vars = []) (hrt : F.resultTypes.toList = [4]) (hrs : F.resultTypes.size = 1)
    (hread : ∀ t ∈ F.params.toList, Try.prog.readableRec t = true ∧ t < Try.prog.types.size)
    (hspec : ∀ ds : List (DataW H), ds.length = F.params.toList.length → s.fn H (ds ++ []) = { results := [.lit (.bool true)], args := ds })
    (walk : LawWalk f F) :
    ReturnsInHanded {} Try.checked os f .any (s.pre6 enc Try.prog F [] false) (s.post enc Try.prog F false true false false) := by
  refine returnsInHanded_of_change (C := Try.checked) Try.ownK started hni hfn witness ?_
  intro W base args ds gs before hval hW _ _
  have hW' := hW
  obtain ⟨p, q, hA, hV, rfl, hfz, hnd⟩ := hW
  rw [hvars] at hV
  obtain ⟨rfl, rfl⟩ := trodVars_none hV
  have hlen := trodAll_len _ _ _ _ hA
  refine (walk H enc W base args ds p hval hA).mono fun e W' ⟨he, hb⟩ => ?_
  subst he
  refine ⟨_, rfl, ds, [], _, [], p, [], hW', ?_, ?_, ?_, hb.frame _, fun h => by cases h⟩
  rotate_left
  · rw [hspec ds hlen]
    exact trodAll_below Try.laidOutK hb _ _ _ _ hread hA
  · rw [hvars, hspec ds hlen]
    rfl
  · rw [hspec ds hlen, hrt, hrs]
    exact trodAll_mk1 (shut_bool Try.underlying4 _)

end Go.Proofs.Ytjnaeoelnmhjfaa

set_option linter.unusedSimpArgs false
set_option linter.unusedVariables false
namespace Go.Proofs.Ytjnaeoelnmhjfaa
open Go.ChangeShapes Go.WideShapes Go.ChangeAt Go.RowKit

section
variable {P : Program} {w : World} {r : Reach} {b : Nat}
theorem okc_str {u : TypeId} {v : Value} (h : Cell.okWide P w r b u v) (hu : P.underlying u = some .string) : ∃ l : List UInt8, v = .string (bs l) ∧ l.length ≤ 9223372036854775807 := by
  unfold Cell.okWide at h
  rw [hu] at h
  have h : Cell.ok P w r b u v := by cases v <;> exact h
  unfold Cell.ok at h
  rw [hu] at h
  match v, h with
  | .string s, h =>
    have h : (s.size : Int) ≤ IntKind.i64.max := h
    rw [IntKind.max_i64] at h
    refine ⟨s.data.toList, rfl, ?_⟩
    have : s.data.toList.length = s.size := by simp
    omega
theorem okv_cell {t : TypeId} {d : TypeDesc} {v : Value} (h : Value.okWide P w r b t v) (hu : P.underlying t = some d) (hd : isAggD d = false) : Cell.okWide P w r b t v := by
  unfold Value.okWide at h
  rw [hu] at h
  cases d <;> first | exact h | exact Bool.noConfusion hd
end
end Go.Proofs.Ytjnaeoelnmhjfaa

set_option linter.unusedSimpArgs false
set_option linter.unusedVariables false
namespace Go.Proofs.Ytjnaeoelnmhjfaa
open Go.ChangeShapes Go.WideShapes Go.ChangeAt Go.RowKit Go.Deep

/-- It can be read, at a type. -/
def Reads (P : Program) (W : World) (t : TypeId) (cs : List Value) : Prop :=
  ∃ (H : Type) (enc : TypeId × Value → H) (n : Nat) (x : DataW H × List MemPlace), DataW.trod enc P W 0 (fun _ => true) true n t cs = some x

section
variable {P : Program} {W : World}
end

set_option maxRecDepth 100000 in
/-- A law's walk by a contract over its arguments, for what can be read at their types. -/
theorem lawwalk_reads {f : FuncId} {F : Func} (h : ∀ (W : World) (base : Nat) (args : Array Value), args.size = F.params.size → (∀ (j : Nat) t v, F.params[j]? = some t → args[j]? = some v → Value.okWide Try.prog W .any base t v ∧ Reads Try.prog W t v.cells.toList) → ∃ A, Has W A [] ∧ Ct Try.prog f args.toList A [] (fun v post => v = .bool true ∧ post = [])) : LawWalk f F := by
  intro H enc W base args ds p hval hA
  have hlen : ∀ (ts : List TypeId) (vs : List Value) (ds : List (DataW H)) (ps : List MemPlace), DataW.TrodAll enc Try.prog W 0 (fun _ => true) true ts vs ds ps → vs.length = ts.length ∧ ∀ (j : Nat) t v, ts[j]? = some t → vs[j]? = some v → Reads Try.prog W t v.cells.toList := by
    intro ts
    induction ts with
    | nil =>
      intro vs ds ps h
      cases vs with
      | nil => exact ⟨rfl, fun j t v ht => by simp at ht⟩
      | cons v vs => cases ds <;> exact h.elim
    | cons t ts ih =>
      intro vs ds ps h
      cases vs with
      | nil => cases ds <;> exact h.elim
      | cons v vs =>
        cases ds with
        | nil => exact h.elim
        | cons d ds =>
          obtain ⟨p, q, h1, h2, _⟩ := h
          obtain ⟨i1, i2⟩ := ih vs ds q h2
          refine ⟨by simp [i1], fun j t' v' ht hv => ?_⟩
          cases j with
          | zero =>
            simp at ht hv
            subst ht hv
            obtain ⟨m, hm⟩ := h1
            exact ⟨H, enc, m, _, by simpa using hm⟩
          | succ j => exact i2 j t' v' (by simpa using ht) (by simpa using hv)
  have hl := hlen _ _ _ _ hA
  obtain ⟨A, hw, hc⟩ := h W base args (by simpa using hl.1) (fun j t v ht hv => ⟨hval j t v ht hv, hl.2 j t v (by simpa using ht) (by simpa using hv)⟩)
  have := below_of_ct hc W hw
  rwa [Array.toArray_toList] at this
end Go.Proofs.Ytjnaeoelnmhjfaa

set_option linter.unusedSimpArgs false
set_option linter.unusedVariables false
namespace Go.Proofs.Ytjnaeoelnmhjfaa
open Go.Deep Go.ChangeShapes Go.WideShapes Go.ChangeAt Go.RowKit

end Go.Proofs.Ytjnaeoelnmhjfaa

set_option linter.unusedSimpArgs false
set_option linter.unusedVariables false
namespace Go.Proofs.Ytjnaeoelnmhjfaa
open Go.ChangeShapes Go.WideShapes Go.ChangeAt Go.RowKit

section
set_option maxRecDepth 100000 in
set_option maxHeartbeats 4000000 in
theorem dumpDecodes_all (l : List UInt8) (hl : l.length ≤ 9223372036854775807) :
    Ct Try.prog 3 [.string (bs l)] [] [] fun v post => v = .bool true ∧ post = [] := by
 refine Yu Try.func3 rfl rfl (fun w0 => ?_)
 show G _ _ [(0, _)] _ _
 refine Zh ?_
 refine Zd (l := [0]) rfl ?_
 refine Za rfl rfl rfl rfl (Zk rfl rfl) ?_
 refine Zg ?_
 refine Zh ?_
 refine Zh ?_
 refine Zd (l := [0, 1, 2]) rfl ?_
 refine Za rfl rfl rfl rfl (Zc rfl rfl) ?_
 refine Za rfl rfl rfl rfl (V_slen rfl rfl Try.underlying9 rfl) ?_
 refine Za rfl rfl rfl rfl (V_gtr rfl rfl rfl) ?_
 refine Zg ?_
 refine Yk rfl (fun hc1 => ?_) (fun hc1 => ?_)
 ·
  refine Zh ?_
  refine Zd (l := [0, 1]) rfl ?_
  refine Zq (L2 := []) rfl rfl rfl rfl rfl rfl Try.call8 dl_live [] [] rfl rfl ?_
  rintro v post ⟨rfl, rfl⟩
  refine Za rfl rfl rfl rfl (Zk rfl rfl) ?_
  refine Zg ?_
  refine Yy (post := []) Try.func3 rfl (Zy (Yt rfl) Zp) [] rfl ?_
  dsimp only [packed]
  exact ⟨rfl, rfl⟩
 refine Zu ?_
 refine Zh ?_
 refine Zd (l := [0, 1, 2, 3, 4, 5, 6, 7]) rfl ?_
 refine Za rfl rfl rfl rfl (Zc rfl rfl) ?_
 refine Zq (L2 := []) rfl rfl rfl rfl rfl rfl Try.call9 (du_decode l (by omega)) [] [] rfl rfl ?_
 rintro v M1 ⟨x, c, _, hx, hM1, hd1, rfl, rfl⟩
 refine G_perm (perm_in0 [] [] _) ?_
 refine Za rfl rfl rfl rfl (Zc rfl rfl) ?_
 refine Za rfl rfl rfl rfl (Yd rfl rfl rfl) ?_
 refine Za rfl rfl rfl rfl (Yd rfl rfl rfl) ?_
 refine Yw rfl rfl rfl rfl (Ym rfl i_32 rfl) (fun b3 => ?_)
 refine Yj (l1 := []) (L' := (_ :: _)) rfl rfl rfl rfl (Yv (s := 15) rfl rfl rfl (Zf 0 rfl) (by rfl) i_32 rfl (by rfl) (by simp [Value.oneCell', cOp, cWk, cIv, cHr, cLt, cWt, cIt, cFl, cTn, cCl, cPo, cSt, cDt, cDs, Sl.v, zIns, insV, cDp, cDst])) rfl ?_
 refine Za rfl rfl rfl rfl (Zk rfl rfl) ?_
 refine Zg ?_
 refine Zh ?_
 refine Zd (l := [0, 1, 2, 3, 4, 5, 6, 7]) rfl ?_
 refine Za rfl rfl rfl rfl (Zc rfl rfl) ?_
 refine Zq (L2 := (_ :: _)) rfl rfl rfl rfl rfl rfl Try.call10 (rq_decode l (by omega)) [] [] rfl rfl ?_
 rintro v M2 ⟨y, d, _, hy, hM2, hd2, rfl, rfl⟩
 refine G_perm (perm_in [] [_] _ _) ?_
 show G _ _ _ (_ :: _) _
 refine Za rfl rfl rfl rfl (Zc rfl rfl) ?_
 refine Za rfl rfl rfl rfl (Yd rfl rfl rfl) ?_
 refine Za rfl rfl rfl rfl (Yd rfl rfl rfl) ?_
 refine Yw rfl rfl rfl rfl (Ym rfl i_38 rfl) (fun b5 => ?_)
 refine Yj (l1 := []) (L' := (_ :: _ :: _)) rfl rfl rfl rfl (Yv (s := 15) rfl rfl rfl (Zf 0 rfl) (by rfl) i_38 rfl (by rfl) (by simp [Value.oneCell', cOp, cWk, cIv, cHr, cLt, cWt, cIt, cFl, cTn, cCl, cPo, cSt, cDt, cDs, Sl.v, zIns, insV, cDp, cDst])) rfl ?_
 refine Za rfl rfl rfl rfl (Zk rfl rfl) ?_
 refine Zg ?_
 refine Zh ?_
 obtain ⟨rfl, hv⟩ := decP_same hd1 hd2
 have hg := dec_good hd1
 have hln := dec_len hd1
 refine Zd (l := [0, 1, 2, 3, 4, 5, 6, 7]) rfl ?_
 refine Za rfl rfl rfl rfl (V_loadW (s := 15) rfl rfl (Zf 1 rfl) Try.underlying32 rfl i_32 rfl (by rfl)) ?_
 refine Xx (L2 := (_ :: _ :: _)) rfl rfl rfl rfl rfl rfl Try.call11 (bk_from x hx (even_of hg) 1) [] rfl (fun w hw => List.mem_append_right _ (by simp [hM1 w hw])) ?_
 rintro v M3 ⟨z, _, hz, hM3, hz3, rfl, rfl⟩
 refine G_perm (perm_in [] [_, _] _ _) ?_
 show G _ _ _ (_ :: _ :: _) _
 refine Za rfl rfl rfl rfl (Zc rfl rfl) ?_
 refine Za rfl rfl rfl rfl (Yd rfl rfl rfl) ?_
 refine Za rfl rfl rfl rfl (Yd rfl rfl rfl) ?_
 refine Yw rfl rfl rfl rfl (Ym rfl i_38 rfl) (fun b7 => ?_)
 refine Yj (l1 := []) (L' := (_ :: _ :: _ :: _)) rfl rfl rfl rfl (Yv (s := 15) rfl rfl rfl (Zf 0 rfl) (by rfl) i_38 rfl (by rfl) (by simp [Value.oneCell', cOp, cWk, cIv, cHr, cLt, cWt, cIt, cFl, cTn, cCl, cPo, cSt, cDt, cDs, Sl.v, zIns, insV, cDp, cDst])) rfl ?_
 refine Za rfl rfl rfl rfl (Zk rfl rfl) ?_
 refine Zg ?_
 refine Zh ?_
 refine Zh ?_
 have hg2 : GPS (vDst z) := by rw [hz3]; exact hg
 refine Zd (l := [0, 1, 2, 3, 4, 5, 6, 7, 8, 9, 10, 11, 12, 13]) rfl ?_
 refine Za rfl rfl rfl rfl (Zc rfl rfl) ?_
 refine Zq (L2 := (_ :: _ :: _ :: _)) rfl rfl rfl rfl rfl rfl Try.call12 (dl_num c) [] [] rfl rfl ?_
 rintro v post ⟨rfl, rfl⟩
 show G _ _ _ (_ :: _ :: _ :: _) _
 refine Za rfl rfl rfl rfl (Zc rfl rfl) ?_
 refine Za rfl rfl rfl rfl (V_neq rfl rfl rfl) ?_
 refine Za rfl rfl rfl rfl (Zc rfl rfl) ?_
 refine Xa 34 rfl (fun hc2 => ?_) (fun hc2 => ?_)
 · (first | contradiction | (exact absurd rfl hc2) | (exfalso; omega) | (simp at hc2; done) | (exact absurd hc2 (by decide)) | (exact absurd (by decide) hc2))
 refine Za rfl rfl rfl rfl (Zc rfl rfl) ?_
 refine Za rfl rfl rfl rfl (V_not rfl rfl) ?_
 refine Za rfl rfl rfl rfl (Xg rfl rfl rfl) ?_
 refine Za rfl rfl rfl rfl (Zc rfl rfl) ?_
 refine Za rfl rfl rfl rfl (V_loadW (s := 15) rfl rfl (Zf 0 rfl) Try.underlying38 rfl i_38 rfl (by rfl)) ?_
 refine Za rfl rfl rfl rfl (V_loadW (s := 15) rfl rfl (Zf 1 rfl) Try.underlying38 rfl i_38 rfl (by rfl)) ?_
 refine Xx (L2 := (_ :: _ :: _ :: _)) rfl rfl rfl rfl rfl rfl Try.call13 (rs_state z y hz hy (hz3.trans hv) hg2) [] rfl (fun w hw => List.mem_append_right _ ((List.mem_append.1 hw).elim (fun hw => (hM3 w hw).elim (fun h => by simp [h]) (fun h => by simp [hM1 w h])) (fun hw => by simp [hM2 w hw]))) ?_
 rintro v post ⟨rfl, rfl⟩
 show G _ _ _ (_ :: _ :: _ :: _) _
 refine Za rfl rfl rfl rfl (V_not rfl rfl) ?_
 refine Za rfl rfl rfl rfl (Xg rfl rfl rfl) ?_
 refine Zg ?_
 refine Xu rfl ?_
 refine Zu ?_
 refine Zh ?_
 refine Zd (l := [0, 1, 2, 3, 4, 5, 6]) rfl ?_
 refine Za rfl rfl rfl rfl (V_loadW (s := 15) rfl rfl (Zf 2 rfl) Try.underlying32 rfl i_32 rfl (by rfl)) ?_
 refine Xx (L2 := (_ :: _ :: _ :: _)) rfl rfl rfl rfl rfl rfl Try.call14 (du_enc x hx hg (by omega)) [] rfl (fun w hw => List.mem_append_right _ (by simp [hM1 w hw])) ?_
 rintro v post ⟨rfl, rfl⟩
 show G _ _ _ (_ :: _ :: _ :: _) _
 refine Za rfl rfl rfl rfl (Zc rfl rfl) ?_
 refine Za rfl rfl rfl rfl (Yd rfl rfl rfl) ?_
 refine Za rfl rfl rfl rfl (Yd rfl rfl rfl) ?_
 refine Za rfl rfl rfl rfl (Zk rfl rfl) ?_
 refine Za rfl rfl rfl rfl (Zk rfl rfl) ?_
 refine Zg ?_
 refine Zh ?_
 rcases hd1 with ⟨rfl, _, hel, _⟩ | ⟨rfl, hez, _⟩
 ·
  refine Zd (l := [0, 1, 2, 3, 4, 5, 6, 7, 8, 9, 10, 11, 12, 13, 14, 15]) rfl ?_
  refine Za rfl rfl rfl rfl (Zc rfl rfl) ?_
  refine Za rfl rfl rfl rfl (V_neq rfl rfl rfl) ?_
  refine Za rfl rfl rfl rfl (Zc rfl rfl) ?_
  refine Xa 51 rfl (fun hc3 => ?_) (fun hc3 => ?_)
  · (first | contradiction | (exact absurd rfl hc3) | (exfalso; omega) | (simp at hc3; done) | (exact absurd hc3 (by decide)) | (exact absurd (by decide) hc3))
  refine Za rfl rfl rfl rfl (Zc rfl rfl) ?_
  refine Za rfl rfl rfl rfl (Zc rfl rfl) ?_
  refine Za rfl rfl rfl rfl (V_seql rfl rfl rfl) ?_
  refine Za rfl rfl rfl rfl (Zc rfl rfl) ?_
  refine Xa 55 rfl (fun hc4 => ?_) (fun hc4 => ?_)
  rotate_left
  · (first | contradiction | (exact absurd rfl hc4) | (exfalso; omega) | (simp at hc4; done) | (exact absurd hc4 (by decide)) | (exact absurd (by decide) hc4))
  refine Za rfl rfl rfl rfl (Zc rfl rfl) ?_
  refine Zq (L2 := (_ :: _ :: _ :: _)) rfl rfl rfl rfl rfl rfl Try.call12 (dl_num 0) [] [] rfl rfl ?_
  rintro v post ⟨rfl, rfl⟩
  show G _ _ _ (_ :: _ :: _ :: _) _
  refine Za rfl rfl rfl rfl (V_eql rfl rfl rfl) ?_
  refine Za rfl rfl rfl rfl (Yz rfl rfl rfl) ?_
  refine Za rfl rfl rfl rfl (Xg rfl rfl rfl) ?_
  refine Za rfl rfl rfl rfl (Zc rfl rfl) ?_
  refine Xa 61 rfl (fun hc5 => ?_) (fun hc5 => ?_)
  rotate_left
  · (first | contradiction | (exact absurd rfl hc5) | (exfalso; omega) | (simp at hc5; done) | (exact absurd hc5 (by decide)) | (exact absurd (by decide) hc5))
  refine Zq (L2 := (_ :: _ :: _ :: _)) rfl rfl rfl rfl rfl rfl Try.call8 dl_live [] [] rfl rfl ?_
  rintro v post ⟨rfl, rfl⟩
  show G _ _ _ (_ :: _ :: _ :: _) _
  refine Za rfl rfl rfl rfl (Yz rfl rfl rfl) ?_
  refine Za rfl rfl rfl rfl (Zk rfl rfl) ?_
  refine Zg ?_
  refine Yy (post := []) Try.func3 rfl (Zy (Yt rfl) Zp) [] rfl ?_
  dsimp only [packed]
  exact ⟨rfl, rfl⟩
 ·
  refine Zd (l := [0, 1, 2, 3, 4, 5, 6, 7, 8, 9, 10, 11, 12, 13, 14, 15]) rfl ?_
  refine Za rfl rfl rfl rfl (Zc rfl rfl) ?_
  refine Za rfl rfl rfl rfl (V_neq rfl rfl rfl) ?_
  refine Za rfl rfl rfl rfl (Zc rfl rfl) ?_
  refine Xa 51 rfl (fun hc3 => ?_) (fun hc3 => ?_)
  rotate_left
  · (first | contradiction | (exact absurd rfl hc3) | (exfalso; omega) | (simp at hc3; done) | (exact absurd hc3 (by decide)) | (exact absurd (by decide) hc3))
  refine Yb rfl rfl rfl rfl ?_
  refine Yb rfl rfl rfl rfl ?_
  refine Yb rfl rfl rfl rfl ?_
  refine Yb rfl rfl rfl rfl ?_
  refine Yb rfl rfl rfl rfl ?_
  refine Yb rfl rfl rfl rfl ?_
  refine Yb rfl rfl rfl rfl ?_
  refine Yb rfl rfl rfl rfl ?_
  refine Za rfl rfl rfl rfl (Yz rfl rfl rfl) ?_
  refine Za rfl rfl rfl rfl (Zc rfl rfl) ?_
  refine Zq (L2 := (_ :: _ :: _ :: _)) rfl rfl rfl rfl rfl rfl Try.call8 dl_live [] [] rfl rfl ?_
  rintro v post ⟨rfl, rfl⟩
  show G _ _ _ (_ :: _ :: _ :: _) _
  refine Za rfl rfl rfl rfl (Yz rfl rfl rfl) ?_
  refine Za rfl rfl rfl rfl (Zk rfl rfl) ?_
  refine Zg ?_
  refine Yy (post := []) Try.func3 rfl (Zy (Yt rfl) Zp) [] rfl ?_
  dsimp only [packed]
  exact ⟨rfl, rfl⟩


set_option maxRecDepth 100000 in
theorem dumpDecodes_walk : LawWalk 3 Try.f3 := lawwalk_reads (fun W base args hs hval => by
  rw [Try.params3] at hs hval
  obtain ⟨l⟩ := args
  match l, hs with
  | [a], _ =>
    obtain ⟨h0, h1⟩ := hval 0 9 a rfl rfl
    obtain ⟨s, rfl, p⟩ := okc_str (okv_cell h0 Try.underlying9 rfl) Try.underlying9
    exact ⟨_, has_nil _, dumpDecodes_all s p⟩)


theorem dumpDecodes_holds : Rows.DumpDecodesSaid :=
  OpenClaim.holds_of_wide 3 Try.f3 rfl rfl rfl rfl rfl rfl rfl ⟨rfl, rfl, rfl, rfl, rfl⟩ rfl rfl rfl rfl rfl (by kernel_rfl) Try.func3 (by kernel_rfl)
    (of_decide_eq_true (by kernel_rfl)) (by unfold Func.isWrapper; rw [if_neg (by decide +kernel)]; exact ⟨rfl, rfl⟩)
    (fun os started H enc _ => law_lifted (s := Rows.dumpDecodesSpec) os started H enc Try.func3 (by kernel_rfl)
      (ChangeSpec.witness6 (enc := enc) (C := Try.checked) false ⟨#[], #[.string ByteArray.empty], []⟩ 8 (by kernel_rfl) (by kernel_rfl) (by kernel_rfl) (by kernel_rfl))
      rfl (by kernel_rfl) (by kernel_rfl) (by decide +kernel) (fun ds h => by match ds, h with | [_], _ => rfl) dumpDecodes_walk)
#print axioms dumpDecodes_holds

end
end Go.Proofs.Ytjnaeoelnmhjfaa
