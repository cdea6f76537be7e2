/- What the law DumpEncodes needs, part 6.  -/
import Derived.Test.YtjnaeoelnmhjfaaPkDumpEncodes1
import Derived.Test.YtjnaeoelnmhjfaaPkDumpEncodes2
import Derived.Test.YtjnaeoelnmhjfaaPkDumpEncodes3
import Derived.Test.YtjnaeoelnmhjfaaPkDumpEncodes4
import Derived.Test.YtjnaeoelnmhjfaaPkDumpEncodes5
import Derived.Test.YtjnaeoelnmhjfaaRows
import Derived.WalkKit
import Derived.ProofKit
import Derived.OpenShut
import Derived.ShutString
import Derived.ChangeOld
import Derived.Below
import Derived.Deep.Slices
import Derived.Deep.DeepHandedRow

set_option linter.unusedSimpArgs false
set_option linter.unusedVariables false
namespace Go.Proofs.Ytjnaeoelnmhjfaa
open Go Go.RowKit

section
theorem p_103 : placesOf Try.prog (Try.prog.fieldsOf 103) = some [(0, 1), (1, 1), (2, 1), (3, 1), (4, 1)] := by kernel_rfl
theorem p_206 : placesOf Try.prog (Try.prog.fieldsOf 206) = some [(0, 1), (1, 1), (2, 1), (3, 1), (4, 1)] := by kernel_rfl
theorem p_258 : placesOf Try.prog (Try.prog.fieldsOf 258) = some [(0, 1), (1, 1), (2, 1), (3, 1)] := by kernel_rfl

set_option maxRecDepth 100000 in
set_option maxHeartbeats 1000000 in
theorem to_flows (s : Ins Fl) (hs : InsOk 4 cFl s) :
    Ct Try.prog 147 [.slice s.p s.l.length s.cap] [insK s] [] fun v post => ∃ s2 : Ins Fl, InsOk 4 cFl s2 ∧ s2.l = s.l ∧ v = insV s2 ∧ post = [insK s2] := by
 have hl1 := hs.le
 have hl2 := hs.max
 have hln := hs.n
 refine Yv Try.func147 rfl rfl (fun w0 => ?_)
 show G _ _ [(0, _)] _ _
 refine Zi ?_
 refine Zd (l := [0]) rfl ?_
 refine Za rfl rfl rfl rfl (Zk rfl rfl) ?_
 refine Zg ?_
 refine Zi ?_
 refine Zd (l := [0, 1]) rfl ?_
 refine Yr rfl rfl rfl rfl (N_build0 rfl Try.underlying204 i_258) (fun b5 => ?_)
 refine Za rfl rfl rfl rfl (Zk rfl rfl) ?_
 refine Zg ?_
 refine Zi ?_
 refine Zi ?_
 refine Zd (l := [0]) rfl ?_
 refine Za rfl rfl rfl rfl (Zk rfl rfl) ?_
 refine Zg ?_
 refine Zp ?_
 refine Yc ?he3 [0] ?hl3 (Xc (X := Nat × Sl) (fun x_ => match x_ with | ⟨i, u⟩ => i ≤ s.l.length ∧ Own 4 u ((s.l.take i).flatMap cFl) i) (fun x_ => match x_ with | ⟨i, u⟩ => s.l.length - i) (fun x_ => match x_ with | ⟨i, u⟩ => [(0, .slice s.p s.l.length s.cap), (3, u.v i), (4, .int .i64 (i : Int))]) (fun x_ => match x_ with | ⟨i, u⟩ => [(u.ob, .cells u.cs 258 u.fz)]) ?round3 (0, ⟨some b5, #[], (0, 0), 0⟩) ?h03)
 case he3 => exact (And.intro rfl (And.intro rfl (And.intro rfl trivial)))
 case hl3 => exact ⟨_, rfl⟩
 case h03 => exact ⟨Nat.zero_le _, own_empty 4 b5⟩
 case round3 =>
  intro x_ hJ ih
  try dsimp only at hJ ih
  obtain ⟨i, u⟩ := x_
  try dsimp only at hJ ih
  obtain ⟨hi, hu⟩ := hJ
  show G _ _ [(0, .slice s.p s.l.length s.cap), (3, u.v i), (4, .int .i64 (i : Int))] [(u.ob, .cells u.cs 258 u.fz)] _
  refine Zi ?_
  refine Zi ?_
  refine Zd (l := [0, 1, 2, 3]) rfl ?_
  refine Za rfl rfl rfl rfl (Zc rfl rfl) ?_
  refine Za rfl rfl rfl rfl (Zc rfl rfl) ?_
  refine Za rfl rfl rfl rfl (Yf rfl rfl Try.underlying207 rfl) ?_
  refine Za rfl rfl rfl rfl (Xh rfl rfl rfl) ?_
  refine Zg ?_
  refine Yl rfl (fun hc1 => ?_) (fun hc1 => ?_)
  ·
   refine Zu ?_
   refine Zi ?_
   refine Zp ?_
   obtain ⟨y, hy⟩ := Xv (show i < s.l.length by omega)
   obtain ⟨cy, py, qy, ssy⟩ := hs.isS (i := i) (by omega)
   rw [py]
   refine Ya (Lq := []) (isq := []) (m := 25) Ym rfl rfl ?_
   refine Zh 0 rfl rfl rfl rfl (by kernel_rfl) (fun _ _ => Zc rfl rfl) ?_
   refine Zh 1 rfl rfl rfl rfl (by kernel_rfl) (fun _ _ => Zc rfl rfl) ?_
   refine Zh 2 rfl rfl rfl rfl (by kernel_rfl) (fun _ _ => Zc rfl rfl) ?_
   refine Zh 3 rfl rfl rfl rfl (by kernel_rfl) (fun _ _ => Zl (s := 4) rfl Try.underlying207 i_217 rfl rfl rfl rfl (by omega)) ?_
   refine Zh 4 rfl rfl rfl rfl (by kernel_rfl) (fun _ _ => Zb (fo := _) rfl Try.underlying217 rfl i_3 rfl rfl rfl) ?_
   refine Zh 5 rfl rfl rfl rfl (by kernel_rfl) (fun _ _ => Zj rfl rfl (by rw [← Yg qy]; exact Zf 0 rfl) (Zr (Ys ssy cFl_len hy 0 (by omega) rfl)) Try.underlying3 rfl) ?_
   refine Zh 6 rfl rfl rfl rfl (by kernel_rfl) (fun _ _ => Zc rfl rfl) ?_
   refine Zh 7 rfl rfl rfl rfl (by kernel_rfl) (fun _ _ => Zc rfl rfl) ?_
   refine Zh 8 rfl rfl rfl rfl (by kernel_rfl) (fun _ _ => Zl (s := 4) rfl Try.underlying207 i_217 rfl rfl rfl rfl (by omega)) ?_
   refine Zh 9 rfl rfl rfl rfl (by kernel_rfl) (fun _ _ => Zb (fo := _ + 1) rfl Try.underlying217 rfl i_3 rfl rfl rfl) ?_
   refine Zh 10 rfl rfl rfl rfl (by kernel_rfl) (fun _ _ => Zj rfl rfl (by rw [← Yg qy]; exact Zf 0 rfl) (Zr (Ys ssy cFl_len hy 1 (by omega) rfl)) Try.underlying3 rfl) ?_
   refine Zh 11 rfl rfl rfl rfl (by kernel_rfl) (fun _ _ => Zc rfl rfl) ?_
   refine Zh 12 rfl rfl rfl rfl (by kernel_rfl) (fun _ _ => Zc rfl rfl) ?_
   refine Zh 13 rfl rfl rfl rfl (by kernel_rfl) (fun _ _ => Zl (s := 4) rfl Try.underlying207 i_217 rfl rfl rfl rfl (by omega)) ?_
   refine Zh 14 rfl rfl rfl rfl (by kernel_rfl) (fun _ _ => Zb (fo := _ + 2) rfl Try.underlying217 rfl i_3 rfl rfl rfl) ?_
   refine Zh 15 rfl rfl rfl rfl (by kernel_rfl) (fun _ _ => Zj rfl rfl (by rw [← Yg qy]; exact Zf 0 rfl) (Zr (Ys ssy cFl_len hy 2 (by omega) rfl)) Try.underlying3 rfl) ?_
   refine Zh 16 rfl rfl rfl rfl (by kernel_rfl) (fun _ _ => Zc rfl rfl) ?_
   refine Zh 17 rfl rfl rfl rfl (by kernel_rfl) (fun _ _ => Zc rfl rfl) ?_
   refine Zh 18 rfl rfl rfl rfl (by kernel_rfl) (fun _ _ => Zl (s := 4) rfl Try.underlying207 i_217 rfl rfl rfl rfl (by omega)) ?_
   refine Zh 19 rfl rfl rfl rfl (by kernel_rfl) (fun _ _ => Zb (fo := _ + 3) rfl Try.underlying217 rfl i_215 rfl rfl rfl) ?_
   refine Zh 20 rfl rfl rfl rfl (by kernel_rfl) (fun _ _ => Zj rfl rfl (by rw [← Yg qy]; exact Zf 0 rfl) (Zr (Ys ssy cFl_len hy 3 (by omega) rfl)) Try.underlying215 rfl) ?_
   refine Zh 21 rfl rfl rfl rfl (by kernel_rfl) (fun _ _ => V_buildS (cs := [_, _, _, _]) rfl Try.underlying258 i_258 rfl p_258 rfl rfl rfl) ?_
   refine GH_all [22] (by kernel_rfl) (by decide) ?_
   refine (And.intro ?_ trivial)
   ·
    refine Yz rfl rfl rfl rfl (Zn (s := 4) (cs := [_, _, _, _]) rfl Try.underlying204 i_258 rfl rfl rfl rfl rfl rfl rfl rfl rfl) [] (fun _ => ⟨_, rfl⟩) (fun b34 => ?_)
    refine GH_all [23] (by kernel_rfl) (by decide) ?_
    refine (And.intro ?_ trivial)
    ·
     refine Xf (l1 := [_]) (s := u) (nn := i) (m := 1) (news := (cFl y)) (bt := 48) rfl rfl rfl rfl Try.underlying204 Try.underlying204 (by first | exact .inl rfl | exact .inr ⟨_, rfl⟩) i_258 rfl rfl rfl rfl rfl rfl hu rfl (Yp (Zf 1 rfl) rfl rfl (by simp [cFl, Value.oneCell'])) (by omega) (by omega) [] (fun _ => ⟨_, rfl⟩) ?_
     intro u1 hu1 _
     show GH _ _ _ _ _ _ _ [_, _] _
     refine Zh 24 rfl rfl rfl rfl (by kernel_rfl) (fun _ _ => Zk rfl rfl) ?_
     refine Zw (by kernel_rfl) ?_
     refine Zs ?_
     refine Zd (l := [0, 1, 2]) rfl ?_
     refine Za rfl rfl rfl rfl (Zc rfl rfl) ?_
     refine Za rfl rfl rfl rfl ((Yu rfl rfl rfl).int (Zv (by omega))) ?_
     refine Za rfl rfl rfl rfl (Zk rfl rfl) ?_
     refine Zg ?_
     refine Yc ?_ [1] ?_ (ih (i + 1, u1) ?_ ?_)
     · (refine (And.intro ?_ (And.intro ?_ (And.intro ?_ trivial))) <;> first | rfl | exact Zm (by omega) | (rw [py]; rfl))
     · exact ⟨_, rfl⟩
     · exact ⟨by omega, by obtain ⟨hyi, rfl⟩ := List.getElem?_eq_some_iff.1 hy; rw [List.take_succ_eq_append_getElem hyi, List.flatMap_append, List.flatMap_singleton]; exact hu1⟩
     · (first | omega | (dsimp only; omega))
  refine Yx rfl ?_
  refine Zi ?_
  refine Zd (l := [0, 1]) rfl ?_
  refine Za rfl rfl rfl rfl (Zc rfl rfl) ?_
  refine Za rfl rfl rfl rfl (Zk rfl rfl) ?_
  refine Zg ?_
  refine Xa (post := [_]) Try.func147 rfl (Zy (Yy rfl) Zo) [0] rfl ?_
  dsimp only [packed]
  obtain rfl : i = s.l.length := by omega
  rw [List.take_length] at hu
  exact ⟨insOf u 258 s.l, Xd hu (by omega), rfl, rfl, rfl⟩

set_option maxRecDepth 100000 in
set_option maxHeartbeats 2000000 in
theorem to_shares (s : Ins Dt) (hs : InsOk 6 cDt s) (hok : ∀ y ∈ s.l, OkDt y) :
    Ct Try.prog 117 [.slice s.p s.l.length s.cap] (insK s :: s.l.flatMap kDt) [] fun v post => ∃ (s2 : Ins Tn) (M : List HBk), InsOk 5 cTn s2 ∧ (∀ m ∈ s2.l, OkTn m) ∧ s2.l.map vTn = s.l.map vDt ∧ (∀ z ∈ insK s2 :: s2.l.flatMap kTn, z ∈ M ∨ z ∈ s.l.flatMap kDt) ∧ v = insV s2 ∧ post = M := by
 have hl1 := hs.le
 have hl2 := hs.max
 have hln := hs.n
 refine Yv Try.func117 rfl rfl (fun w0 => ?_)
 show G _ _ [(0, _)] _ _
 refine Zi ?_
 refine Zd (l := [0]) rfl ?_
 refine Za rfl rfl rfl rfl (Zk rfl rfl) ?_
 refine Zg ?_
 refine Zi ?_
 refine Zd (l := [0, 1]) rfl ?_
 refine Yr rfl rfl rfl rfl (N_build0 rfl Try.underlying109 i_206) (fun b5 => ?_)
 refine Za rfl rfl rfl rfl (Zk rfl rfl) ?_
 refine Zg ?_
 refine Zi ?_
 refine Zi ?_
 refine Zd (l := [0]) rfl ?_
 refine Za rfl rfl rfl rfl (Zk rfl rfl) ?_
 refine Zg ?_
 refine Zp ?_
 refine Xy (L1 := [_]) ?he3 [0] ?hl3 (Xc (X := Nat × Sl × List Tn × List HBk) (fun x_ => match x_ with | ⟨i, u, ms, M⟩ => i ≤ s.l.length ∧ ms.length = i ∧ Own 5 u (ms.flatMap cTn) i ∧ (∀ m ∈ ms, OkTn m) ∧ ms.map vTn = (s.l.take i).map vDt ∧ ∀ z ∈ ms.flatMap kTn, z ∈ M ∨ z ∈ s.l.flatMap kDt) (fun x_ => match x_ with | ⟨i, u, ms, M⟩ => s.l.length - i) (fun x_ => match x_ with | ⟨i, u, ms, M⟩ => [(0, .slice s.p s.l.length s.cap), (3, u.v i), (4, .int .i64 (i : Int))]) (fun x_ => match x_ with | ⟨i, u, ms, M⟩ => ((u.ob, .cells u.cs 206 u.fz) :: M)) ?round3 (0, ⟨some b5, #[], (0, 0), 0⟩, [], []) ?h03)
 case he3 => exact (And.intro rfl (And.intro rfl (And.intro rfl trivial)))
 case hl3 => exact ⟨_, _, rfl, .refl _⟩
 case h03 => exact ⟨Nat.zero_le _, rfl, own_empty 5 b5, by simp, by simp, by simp⟩
 case round3 =>
  intro x_ hJ ih
  try dsimp only at hJ ih
  obtain ⟨i, u, ms, M⟩ := x_
  try dsimp only at hJ ih
  obtain ⟨hi, hml, hu, hoks, hv, hM⟩ := hJ
  show G _ _ [(0, .slice s.p s.l.length s.cap), (3, u.v i), (4, .int .i64 (i : Int))] ((u.ob, .cells u.cs 206 u.fz) :: M) _
  refine Zi ?_
  refine Zi ?_
  refine Zd (l := [0, 1, 2, 3]) rfl ?_
  refine Za rfl rfl rfl rfl (Zc rfl rfl) ?_
  refine Za rfl rfl rfl rfl (Zc rfl rfl) ?_
  refine Za rfl rfl rfl rfl (Yf rfl rfl Try.underlying107 rfl) ?_
  refine Za rfl rfl rfl rfl (Xh rfl rfl rfl) ?_
  refine Zg ?_
  refine Yl rfl (fun hc1 => ?_) (fun hc1 => ?_)
  ·
   refine Zu ?_
   refine Zi ?_
   refine Zp ?_
   obtain ⟨y, hy⟩ := Xv (show i < s.l.length by omega)
   obtain ⟨cy, py, qy, ssy⟩ := hs.isS (i := i) (by omega)
   rw [py]
   have hyo := hok y (List.mem_of_getElem? hy)
   refine Ya (Lq := []) (isq := []) (m := 33) Ym rfl rfl ?_
   refine Zh 0 rfl rfl rfl rfl (by kernel_rfl) (fun _ _ => Zc rfl rfl) ?_
   refine Zh 1 rfl rfl rfl rfl (by kernel_rfl) (fun _ _ => Zc rfl rfl) ?_
   refine Zh 2 rfl rfl rfl rfl (by kernel_rfl) (fun _ _ => Zc rfl rfl) ?_
   refine Zh 3 rfl rfl rfl rfl (by kernel_rfl) (fun _ _ => Zl (s := 6) rfl Try.underlying107 i_212 rfl rfl rfl rfl (by omega)) ?_
   refine Zh 4 rfl rfl rfl rfl (by kernel_rfl) (fun _ _ => Zb (fo := _) rfl Try.underlying212 rfl i_3 rfl rfl rfl) ?_
   refine Zh 5 rfl rfl rfl rfl (by kernel_rfl) (fun _ _ => Zj rfl rfl (by rw [← Yg qy]; exact List.mem_append_left _ (Zf 0 rfl)) (Zr (Ys ssy cDt_len hy 0 (by omega) rfl)) Try.underlying3 rfl) ?_
   refine Zh 6 rfl rfl rfl rfl (by kernel_rfl) (fun _ _ => Zc rfl rfl) ?_
   refine Zh 7 rfl rfl rfl rfl (by kernel_rfl) (fun _ _ => Zc rfl rfl) ?_
   refine Zh 8 rfl rfl rfl rfl (by kernel_rfl) (fun _ _ => Zl (s := 6) rfl Try.underlying107 i_212 rfl rfl rfl rfl (by omega)) ?_
   refine Zh 9 rfl rfl rfl rfl (by kernel_rfl) (fun _ _ => Zb (fo := _ + 1) rfl Try.underlying212 rfl i_3 rfl rfl rfl) ?_
   refine Zh 10 rfl rfl rfl rfl (by kernel_rfl) (fun _ _ => Zj rfl rfl (by rw [← Yg qy]; exact List.mem_append_left _ (Zf 0 rfl)) (Zr (Ys ssy cDt_len hy 1 (by omega) rfl)) Try.underlying3 rfl) ?_
   refine Zh 11 rfl rfl rfl rfl (by kernel_rfl) (fun _ _ => Zc rfl rfl) ?_
   refine Zh 12 rfl rfl rfl rfl (by kernel_rfl) (fun _ _ => Zc rfl rfl) ?_
   refine Zh 13 rfl rfl rfl rfl (by kernel_rfl) (fun _ _ => Zl (s := 6) rfl Try.underlying107 i_212 rfl rfl rfl rfl (by omega)) ?_
   refine Zh 14 rfl rfl rfl rfl (by kernel_rfl) (fun _ _ => Zb (fo := _ + 2) rfl Try.underlying212 rfl i_3 rfl rfl rfl) ?_
   refine Zh 15 rfl rfl rfl rfl (by kernel_rfl) (fun _ _ => Zj rfl rfl (by rw [← Yg qy]; exact List.mem_append_left _ (Zf 0 rfl)) (Zr (Ys ssy cDt_len hy 2 (by omega) rfl)) Try.underlying3 rfl) ?_
   refine Zh 16 rfl rfl rfl rfl (by kernel_rfl) (fun _ _ => Zc rfl rfl) ?_
   refine Zh 17 rfl rfl rfl rfl (by kernel_rfl) (fun _ _ => Zc rfl rfl) ?_
   refine Zh 18 rfl rfl rfl rfl (by kernel_rfl) (fun _ _ => Zl (s := 6) rfl Try.underlying107 i_212 rfl rfl rfl rfl (by omega)) ?_
   refine Zh 19 rfl rfl rfl rfl (by kernel_rfl) (fun _ _ => Zb (fo := _ + 3) rfl Try.underlying212 rfl i_210 rfl rfl rfl) ?_
   refine Zh 20 rfl rfl rfl rfl (by kernel_rfl) (fun _ _ => Zb (fo := _ + 1) rfl Try.underlying210 rfl i_207 rfl rfl rfl) ?_
   refine Zh 21 rfl rfl rfl rfl (by kernel_rfl) (fun _ _ => Zj rfl rfl (by rw [← Yg qy]; exact List.mem_append_left _ (Zf 0 rfl)) (Zr (Ys ssy cDt_len hy 4 (by omega) rfl)) Try.underlying207 rfl) ?_
   refine Zh 23 rfl rfl rfl rfl (by kernel_rfl) (fun _ _ => Zc rfl rfl) ?_
   refine Zh 24 rfl rfl rfl rfl (by kernel_rfl) (fun _ _ => Zc rfl rfl) ?_
   refine Zh 25 rfl rfl rfl rfl (by kernel_rfl) (fun _ _ => Zl (s := 6) rfl Try.underlying107 i_212 rfl rfl rfl rfl (by omega)) ?_
   refine Zh 26 rfl rfl rfl rfl (by kernel_rfl) (fun _ _ => Zb (fo := _ + 3) rfl Try.underlying212 rfl i_210 rfl rfl rfl) ?_
   refine Zh 27 rfl rfl rfl rfl (by kernel_rfl) (fun _ _ => Zb (fo := _ + 2) rfl Try.underlying210 rfl i_4 rfl rfl rfl) ?_
   refine Zh 28 rfl rfl rfl rfl (by kernel_rfl) (fun _ _ => Zj rfl rfl (by rw [← Yg qy]; exact List.mem_append_left _ (Zf 0 rfl)) (Zr (Ys ssy cDt_len hy 5 (by omega) rfl)) Try.underlying4 rfl) ?_
   refine GH_all [22] (by kernel_rfl) (by decide) ?_
   refine (And.intro ?_ trivial)
   ·
    refine Xq (L2 := (_ :: _)) rfl rfl rfl rfl rfl rfl Try.call147 (to_flows y.s hyo.1) [] rfl (Yb (List.mem_append_left _ (List.mem_cons_of_mem _ (List.mem_flatMap.2 ⟨y, List.mem_of_getElem? hy, List.mem_cons_self⟩))) Yd) [] (by rintro v post ⟨s2, hs2, hl2_, rfl, rfl⟩; exact ⟨_, rfl⟩) ?_
    rintro v post ⟨s2, hs2, hl2_, rfl, rfl⟩
    show GH _ _ _ _ _ _ _ (_ :: _ :: _) _
    refine Zh 29 rfl rfl rfl rfl (by kernel_rfl) (fun _ _ => V_buildS (cs := [_, _, _, _, _]) rfl Try.underlying206 i_206 rfl p_206 rfl rfl rfl) ?_
    refine GH_all [30] (by kernel_rfl) (by decide) ?_
    refine (And.intro ?_ trivial)
    ·
     refine Yz rfl rfl rfl rfl (Zn (s := 5) (cs := [_, _, _, _, _]) rfl Try.underlying109 i_206 rfl rfl rfl rfl rfl rfl rfl rfl rfl) [] (fun _ => ⟨_, rfl⟩) (fun b42 => ?_)
     refine GH_all [31] (by kernel_rfl) (by decide) ?_
     refine (And.intro ?_ trivial)
     ·
      refine Xf (l1 := [_, _]) (s := u) (nn := i) (m := 1) (news := (cTn (⟨y.v0, y.v1, y.v2, y.g, s2⟩ : Tn))) (bt := 56) rfl rfl rfl rfl Try.underlying109 Try.underlying109 (by first | exact .inl rfl | exact .inr ⟨_, rfl⟩) i_206 rfl rfl rfl rfl rfl rfl hu rfl (Yp (List.mem_append_right _ (Zf 0 rfl)) rfl rfl (by simp [cTn, Value.oneCell'])) (by omega) (by omega) [] (fun _ => ⟨_, rfl⟩) ?_
      intro u1 hu1 _
      show GH _ _ _ _ _ _ _ (_ :: _ :: _ :: _) _
      refine Zh 32 rfl rfl rfl rfl (by kernel_rfl) (fun _ _ => Zk rfl rfl) ?_
      refine Zw (by kernel_rfl) ?_
      refine Zs ?_
      refine Zd (l := [0, 1, 2]) rfl ?_
      refine Za rfl rfl rfl rfl (Zc rfl rfl) ?_
      refine Za rfl rfl rfl rfl ((Yu rfl rfl rfl).int (Zv (by omega))) ?_
      refine Za rfl rfl rfl rfl (Zk rfl rfl) ?_
      refine Zg ?_
      refine Xy (L1 := [_]) ?_ [2] ?bhl3 (ih (i + 1, u1, ms ++ [(⟨y.v0, y.v1, y.v2, y.g, s2⟩ : Tn)], ?M1) ?_ ?_)
      case bhl3 => (dsimp only; refine ⟨(_ :: _ :: _), [], rfl, ?_⟩; exact perm_all _)
      · (refine (And.intro ?_ (And.intro ?_ (And.intro ?_ trivial))) <;> first | rfl | exact Zm (by omega) | (rw [py]; rfl))
      · exact ⟨by omega, by simp [hml], by rw [List.flatMap_append, List.flatMap_singleton]; exact hu1, oks_nx hoks ⟨hs2, by show ∀ f ∈ s2.l, _; rw [hl2_]; exact hyo.2⟩, map_next hv hy (by unfold vDt vTn; rw [hl2_]), sub_or hM (fun z hz => by simp [hz]) (fun z hz => by unfold kTn at hz; rw [hl2_] at hz; exact (List.mem_cons.1 hz).elim (fun h => .inl (by simp [h])) (fun h => .inr (List.mem_flatMap.2 ⟨y, List.mem_of_getElem? hy, List.mem_cons_of_mem _ h⟩)))⟩
      · (first | omega | (dsimp only; omega))
  refine Yx rfl ?_
  refine Zi ?_
  refine Zd (l := [0, 1]) rfl ?_
  refine Za rfl rfl rfl rfl (Zc rfl rfl) ?_
  refine Za rfl rfl rfl rfl (Zk rfl rfl) ?_
  refine Zg ?_
  refine G_retT (p1 := [_]) (T := _) Try.func117 rfl (Zy (Yy rfl) Zo) [0] ⟨_, _, rfl, List.perm_append_comm (l₁ := [])⟩ ?_
  dsimp only [packed]
  obtain rfl : i = s.l.length := by omega
  rw [List.take_length] at hv
  exact ⟨insOf u 206 ms, _, Xd (by rw [hml]; exact hu) (by omega), hoks, hv, sub_or_hd hM, by rw [Xp, hml], rfl⟩


theorem zip_same2 (az : List Int) : ∀ (ds : List Ds) (gs : List Bool) (ss : List (Ins Tn)), gs = ds.map Ds.g → ss.map (fun s => s.l.map vTn) = ds.map (fun d => d.s.l.map vDt) → List.zipWith (fun a (p : Bool × Ins Tn) => mkCl a p.1 p.2) az (gs.zip ss) = List.zipWith mkPC az ds := by
  induction az with
  | nil => intros; simp
  | cons a az ih =>
    intro ds gs ss h1 h2
    match ds, gs, ss, h1, h2 with
    | [], _, _, rfl, _ => simp
    | d :: ds, _, [], rfl, h2 => simp at h2
    | d :: ds, _, s :: ss, rfl, h2 =>
      simp only [List.map_cons, List.cons.injEq] at h2
      show mkCl a d.g s :: List.zipWith _ az ((ds.map Ds.g).zip ss) = mkPC a d :: _
      rw [ih ds _ ss rfl h2.2]
      congr 1
      unfold mkCl mkPC; rw [h2.1]
theorem po_same2 {p : Dp} {q : Po} (hn : q.n = p.n) (hu : q.u = p.u) (hv : q.sv.l = p.sv.l) (hg : q.gv.l = p.sh.l.map Ds.g) (hs : q.sh.l.map (fun s => s.l.map vTn) = p.sh.l.map (fun d => d.s.l.map vDt)) : vPo q = vDp p := by
  have e1 : q.gv.l.length = p.sh.l.length := by rw [hg, List.length_map]
  have e2 : q.sh.l.length = p.sh.l.length := by simpa using congrArg List.length hs
  unfold vPo vDp
  by_cases he : EvenDp p
  · have hq : EvenPo q := by unfold EvenDp at he; exact ⟨by rw [hv, e2]; exact he, by rw [hv, e1]; exact he⟩
    rw [if_pos hq, if_pos he, decide_eq_true hq, decide_eq_true he, hn, hu, cls_v, hv, zip_same2 _ _ _ _ hg hs]
  · have hq : ¬ EvenPo q := fun h => he (by unfold EvenDp; rw [← hv, ← e2]; exact h.1)
    rw [if_neg hq, if_neg he, decide_eq_false hq, decide_eq_false he, hn, hu]
theorem po_sub {l : List Dp} {y : Dp} {q : Po} {i : Nat} {z : HBk} {M : List HBk} (hy : l[i]? = some y) (hz : z ∈ insK y.sv :: insK q.gv :: insK q.sh :: q.sh.l.flatMap kSh) (h1 : insK q.gv ∈ M) (h2 : insK q.sh ∈ M) (h3 : ∀ z ∈ q.sh.l.flatMap kSh, z ∈ M ∨ z ∈ l.flatMap kDp) : z ∈ M ∨ z ∈ l.flatMap kDp := by
  simp only [List.mem_cons] at hz
  rcases hz with rfl | rfl | rfl | hz
  · exact .inr (List.mem_flatMap.2 ⟨y, List.mem_of_getElem? hy, by unfold kDp; simp⟩)
  · exact .inl h1
  · exact .inl h2
  · exact h3 z hz
theorem take_snoc {α β γ : Type} {f : α → γ} {g : β → γ} {l : List β} {ms : List α} {k : Nat} {y : β} {m : α} (h : ms.map f = (l.take k).map g) (hy : l[k]? = some y) (hm : f m = g y) : (ms ++ [m]).map f = (l.take (k + 1)).map g := map_next h hy hm
theorem take_snoc2 {β γ : Type} {g : β → γ} {l : List β} {ms : List γ} {k : Nat} {y : β} (h : ms = (l.take k).map g) (hy : l[k]? = some y) : ms ++ [g y] = (l.take (k + 1)).map g := by
  obtain ⟨hi, rfl⟩ := List.getElem?_eq_some_iff.1 hy
  rw [List.take_succ_eq_append_getElem hi, List.map_append, h]; rfl

set_option maxRecDepth 100000 in
set_option maxHeartbeats 4000000 in
theorem to_pools (s : Ins Dp) (hs : InsOk 4 cDp s) (hok : ∀ y ∈ s.l, OkDp y) :
    Ct Try.prog 56 [.slice s.p s.l.length s.cap] (insK s :: s.l.flatMap kDp) [] fun v post => ∃ (s2 : Ins Po) (M : List HBk), InsOk 5 cPo s2 ∧ (∀ m ∈ s2.l, OkPo m) ∧ s2.l.map vPo = s.l.map vDp ∧ (∀ z ∈ insK s2 :: s2.l.flatMap kPo, z ∈ M ∨ z ∈ s.l.flatMap kDp) ∧ v = insV s2 ∧ post = M := by
 have hl1 := hs.le
 have hl2 := hs.max
 have hln := hs.n
 refine Yv Try.func56 rfl rfl (fun w0 => ?_)
 show G _ _ [(0, _)] _ _
 refine Zi ?_
 refine Zd (l := [0]) rfl ?_
 refine Za rfl rfl rfl rfl (Zk rfl rfl) ?_
 refine Zg ?_
 refine Zi ?_
 refine Zd (l := [0, 1]) rfl ?_
 refine Yr rfl rfl rfl rfl (N_build0 rfl Try.underlying27 i_103) (fun b7 => ?_)
 refine Za rfl rfl rfl rfl (Zk rfl rfl) ?_
 refine Zg ?_
 refine Zi ?_
 refine Zi ?_
 refine Zd (l := [0]) rfl ?_
 refine Za rfl rfl rfl rfl (Zk rfl rfl) ?_
 refine Zg ?_
 refine Zp ?_
 refine Xy (L1 := [_]) ?he3 [0] ?hl3 (Xc (X := Nat × Sl × List Po × List HBk) (fun x_ => match x_ with | ⟨i, u, ms, M⟩ => i ≤ s.l.length ∧ ms.length = i ∧ Own 5 u (ms.flatMap cPo) i ∧ (∀ m ∈ ms, OkPo m) ∧ ms.map vPo = (s.l.take i).map vDp ∧ ∀ z ∈ ms.flatMap kPo, z ∈ M ∨ z ∈ s.l.flatMap kDp) (fun x_ => match x_ with | ⟨i, u, ms, M⟩ => s.l.length - i) (fun x_ => match x_ with | ⟨i, u, ms, M⟩ => [(0, .slice s.p s.l.length s.cap), (3, u.v i), (4, .int .i64 (i : Int))]) (fun x_ => match x_ with | ⟨i, u, ms, M⟩ => ((u.ob, .cells u.cs 103 u.fz) :: M)) ?round3 (0, ⟨some b7, #[], (0, 0), 0⟩, [], []) ?h03)
 case he3 => exact (And.intro rfl (And.intro rfl (And.intro rfl trivial)))
 case hl3 => exact ⟨_, _, rfl, .refl _⟩
 case h03 => exact ⟨Nat.zero_le _, rfl, own_empty 5 b7, by simp, by simp, by simp⟩
 case round3 =>
  intro x_ hJ ih
  try dsimp only at hJ ih
  obtain ⟨i, u, ms, M⟩ := x_
  try dsimp only at hJ ih
  obtain ⟨hi, hml, hu, hoks, hv_, hM⟩ := hJ
  show G _ _ [(0, .slice s.p s.l.length s.cap), (3, u.v i), (4, .int .i64 (i : Int))] ((u.ob, .cells u.cs 103 u.fz) :: M) _
  refine Zi ?_
  refine Zi ?_
  refine Zd (l := [0, 1, 2, 3]) rfl ?_
  refine Za rfl rfl rfl rfl (Zc rfl rfl) ?_
  refine Za rfl rfl rfl rfl (Zc rfl rfl) ?_
  refine Za rfl rfl rfl rfl (Yf rfl rfl Try.underlying36 rfl) ?_
  refine Za rfl rfl rfl rfl (Xh rfl rfl rfl) ?_
  refine Zg ?_
  refine Yl rfl (fun hc1 => ?_) (fun hc1 => ?_)
  ·
   refine Zu ?_
   refine Zi ?_
   refine Zp ?_
   refine Zi ?_
   obtain ⟨y, hy⟩ := Xv (show i < s.l.length by omega)
   obtain ⟨cy, py, qy, ssy⟩ := hs.isS (i := i) (by omega)
   rw [py]
   have hyo := hok y (List.mem_of_getElem? hy)
   have hy1 := hyo.2.1.le
   have hy2 := hyo.2.1.max
   have hy3 := hyo.2.1.n
   refine Ya (Lq := []) (isq := []) (m := 18) Ym rfl rfl ?_
   refine Zh 0 rfl rfl rfl rfl (by kernel_rfl) (fun _ _ => Zc rfl rfl) ?_
   refine Zh 1 rfl rfl rfl rfl (by kernel_rfl) (fun _ _ => Zc rfl rfl) ?_
   refine Zh 2 rfl rfl rfl rfl (by kernel_rfl) (fun _ _ => Zl (s := 4) rfl Try.underlying36 i_106 rfl rfl rfl rfl (by omega)) ?_
   refine Zh 3 rfl rfl rfl rfl (by kernel_rfl) (fun _ _ => Zb (fo := _) rfl Try.underlying106 rfl i_9 rfl rfl rfl) ?_
   refine Zh 4 rfl rfl rfl rfl (by kernel_rfl) (fun _ _ => Zj rfl rfl (by rw [← Yg qy]; exact List.mem_append_left _ (Zf 0 rfl)) (Zr (Ys ssy cDp_len hy 0 (by omega) rfl)) Try.underlying9 rfl) ?_
   refine Zh 5 rfl rfl rfl rfl (by kernel_rfl) (fun _ _ => Zc rfl rfl) ?_
   refine Zh 6 rfl rfl rfl rfl (by kernel_rfl) (fun _ _ => Zc rfl rfl) ?_
   refine Zh 7 rfl rfl rfl rfl (by kernel_rfl) (fun _ _ => Zl (s := 4) rfl Try.underlying36 i_106 rfl rfl rfl rfl (by omega)) ?_
   refine Zh 8 rfl rfl rfl rfl (by kernel_rfl) (fun _ _ => Zb (fo := _ + 1) rfl Try.underlying106 rfl i_3 rfl rfl rfl) ?_
   refine Zh 9 rfl rfl rfl rfl (by kernel_rfl) (fun _ _ => Zj rfl rfl (by rw [← Yg qy]; exact List.mem_append_left _ (Zf 0 rfl)) (Zr (Ys ssy cDp_len hy 1 (by omega) rfl)) Try.underlying3 rfl) ?_
   refine Zh 10 rfl rfl rfl rfl (by kernel_rfl) (fun _ _ => Zc rfl rfl) ?_
   refine Zh 11 rfl rfl rfl rfl (by kernel_rfl) (fun _ _ => Zc rfl rfl) ?_
   refine Zh 12 rfl rfl rfl rfl (by kernel_rfl) (fun _ _ => Zl (s := 4) rfl Try.underlying36 i_106 rfl rfl rfl rfl (by omega)) ?_
   refine Zh 13 rfl rfl rfl rfl (by kernel_rfl) (fun _ _ => Zb (fo := _ + 2) rfl Try.underlying106 rfl i_99 rfl rfl rfl) ?_
   refine Zh 14 rfl rfl rfl rfl (by kernel_rfl) (fun _ _ => Zj rfl rfl (by rw [← Yg qy]; exact List.mem_append_left _ (Zf 0 rfl)) (Zr (Ys ssy cDp_len hy 2 (by omega) rfl)) Try.underlying99 rfl) ?_
   refine Zh 15 rfl rfl rfl rfl (by kernel_rfl) (fun _ _ => V_buildS (cs := [_, _, _, _, _]) rfl Try.underlying103 i_103 rfl p_103 rfl rfl rfl) ?_
   refine GH_all [16] (by kernel_rfl) (by decide) ?_
   refine (And.intro ?_ trivial)
   ·
    refine Yz rfl rfl rfl rfl (Xb rfl i_103 rfl) [] (fun _ => ⟨_, rfl⟩) (fun b5 => ?_)
    refine GH_all [17] (by kernel_rfl) (by decide) ?_
    refine (And.intro ?_ trivial)
    ·
     refine Xi (l1 := []) (L' := (_ :: _ :: _)) rfl rfl rfl rfl (Xk (s := 5) rfl rfl rfl (Zf 0 rfl) (by rfl) i_103 rfl (by rfl) (by simp [Value.oneCell', cOp, cWk, cIv, cHr, cLt, cWt, cIt, cFl, cTn, cCl, cPo, cSt, cDt, cDs, Sl.v, zIns, insV, cDp, cDst])) rfl [] rfl ?_
     refine Zw (by kernel_rfl) ?_
     refine Zi ?_
     refine Zi ?_
     refine G_addNone (.cells #[] 109 (0, 0)) ?_
     refine G_addNone (.cells #[] 4 (0, 0)) ?_
     refine Zd (l := [0]) rfl ?_
     refine Za rfl rfl rfl rfl (Zk rfl rfl) ?_
     refine Zg ?_
     refine Zp ?_
     refine Xy (L1 := [_, _, _, _]) ?he7 [2, 1, 0, 0] ?hl7 (Xc (X := Nat × Sl × Sl × List (Ins Tn) × List Bool × List HBk) (fun y_ => match y_ with | ⟨k, v1, v2, shs, gs, M2⟩ => k ≤ y.sh.l.length ∧ shs.length = k ∧ gs.length = k ∧ Own 1 v1 (shs.flatMap shC) k ∧ Own 1 v2 (gs.flatMap bC) k ∧ (∀ s ∈ shs, InsOk 5 cTn s ∧ ∀ t ∈ s.l, OkTn t) ∧ shs.map (fun s => s.l.map vTn) = (y.sh.l.take k).map (fun d => d.s.l.map vDt) ∧ gs = (y.sh.l.take k).map Ds.g ∧ (∀ z ∈ shs.flatMap kSh, z ∈ M2 ∨ z ∈ s.l.flatMap kDp) ∧ ∀ z ∈ M, z ∈ M2) (fun y_ => match y_ with | ⟨k, v1, v2, shs, gs, M2⟩ => y.sh.l.length - k) (fun y_ => match y_ with | ⟨k, v1, v2, shs, gs, M2⟩ => [(0, .slice (some ⟨cy, s.off, none⟩) s.l.length s.cap), (3, u.v i), (4, .int .i64 (i : Int)), (5, .pointer (some ⟨b5, 0, none⟩)), (6, .int .i64 (k : Int))]) (fun y_ => match y_ with | ⟨k, v1, v2, shs, gs, M2⟩ => ((some b5, .cells #[.string (bs y.n), .int .i64 y.u, .slice y.sv.p y.sv.l.length y.sv.cap, v1.v k, v2.v k] 103 (0, 0)) :: (v1.ob, .cells v1.cs 109 v1.fz) :: (v2.ob, .cells v2.cs 4 v2.fz) :: (u.ob, .cells u.cs 103 u.fz) :: M2)) ?round7 (0, slNil, slNil, [], [], M) ?h07)
     case he7 => exact (And.intro rfl (And.intro rfl (And.intro rfl (And.intro rfl (And.intro rfl trivial)))))
     case hl7 => exact ⟨_, _, rfl, List.perm_append_comm (l₁ := [])⟩
     case h07 => exact ⟨Nat.zero_le _, rfl, rfl, own_nil 1, own_nil 1, by simp, by simp, by simp, by simp, fun _ h => h⟩
     case round7 =>
      intro y_ hJ ih2
      try dsimp only at hJ ih2
      obtain ⟨k, v1, v2, shs, gs, M2⟩ := y_
      try dsimp only at hJ ih2
      obtain ⟨hk, hsl, hgl, ho1, ho2, hoks3, hrs, hrg, hMd, hMM⟩ := hJ
      show G _ _ [(0, .slice (some ⟨cy, s.off, none⟩) s.l.length s.cap), (3, u.v i), (4, .int .i64 (i : Int)), (5, .pointer (some ⟨b5, 0, none⟩)), (6, .int .i64 (k : Int))] ((some b5, .cells #[.string (bs y.n), .int .i64 y.u, .slice y.sv.p y.sv.l.length y.sv.cap, v1.v k, v2.v k] 103 (0, 0)) :: (v1.ob, .cells v1.cs 109 v1.fz) :: (v2.ob, .cells v2.cs 4 v2.fz) :: (u.ob, .cells u.cs 103 u.fz) :: M2) _
      refine Zi ?_
      refine Zi ?_
      refine Zd (l := [0, 1, 2, 3, 4, 5, 6, 7]) rfl ?_
      refine Za rfl rfl rfl rfl (Zc rfl rfl) ?_
      refine Za rfl rfl rfl rfl (Zc rfl rfl) ?_
      refine Za rfl rfl rfl rfl (Zc rfl rfl) ?_
      refine Za rfl rfl rfl rfl (Zl (s := 4) rfl Try.underlying36 i_106 rfl rfl rfl rfl (by omega)) ?_
      refine Za rfl rfl rfl rfl (Zb (fo := _ + 3) rfl Try.underlying106 rfl i_104 rfl rfl rfl) ?_
      refine Za rfl rfl rfl rfl (Zj rfl rfl (by rw [← Yg qy]; exact List.mem_append_left _ (Zf 0 rfl)) (Zr (Ys ssy cDp_len hy 3 (by omega) rfl)) Try.underlying104 rfl) ?_
      refine Za rfl rfl rfl rfl (Yf rfl rfl Try.underlying104 rfl) ?_
      refine Za rfl rfl rfl rfl (Xh rfl rfl rfl) ?_
      refine Zg ?_
      refine Yl rfl (fun hc2 => ?_) (fun hc2 => ?_)
      ·
       refine Zu ?_
       refine Zi ?_
       refine Zp ?_
       refine Zi ?_
       obtain ⟨d, hd⟩ := Xv (show k < y.sh.l.length by omega)
       obtain ⟨cd, pd, qd, ssd⟩ := hyo.2.1.isS (i := k) (by omega)
       have hdo := hyo.2.2 d (List.mem_of_getElem? hd)
       refine Ya (Lq := []) (isq := []) (m := 16) Ym rfl rfl ?_
       refine GH_join (X := {y1 : Sl × Ins Tn × List HBk // Own 1 y1.1 ((shs ++ [y1.2.1]).flatMap shC) (k + 1) ∧ y1.2.1.l.map vTn = d.s.l.map vDt ∧ (InsOk 5 cTn y1.2.1 ∧ ∀ t ∈ y1.2.1.l, OkTn t) ∧ (∀ z ∈ kSh y1.2.1, z ∈ y1.2.2 ∨ z ∈ s.l.flatMap kDp) ∧ ∀ z ∈ M2, z ∈ y1.2.2}) (fun xj => match xj with | ⟨⟨y1, s_, M3⟩, hd1, hd2, hd3, hd4, hd5⟩ => [(0, .slice (some ⟨cy, s.off, none⟩) s.l.length s.cap), (3, u.v i), (4, .int .i64 (i : Int)), (5, .pointer (some ⟨b5, 0, none⟩)), (6, .int .i64 (k : Int))]) (fun xj => match xj with | ⟨⟨y1, s_, M3⟩, hd1, hd2, hd3, hd4, hd5⟩ => ((some b5, .cells #[.string (bs y.n), .int .i64 y.u, .slice y.sv.p y.sv.l.length y.sv.cap, y1.v (k + 1), v2.v k] 103 (0, 0)) :: (y1.ob, .cells y1.cs 109 y1.fz) :: (v2.ob, .cells v2.cs 4 v2.fz) :: (u.ob, .cells u.cs 103 u.fz) :: M3)) ?rest9 (fun jn9 => ?main9)
       case rest9 =>
        intro xj
        obtain ⟨⟨y1, s_, M3⟩, hd1, hd2, hd3, hd4, hd5⟩ := xj
        show G _ _ [(0, .slice (some ⟨cy, s.off, none⟩) s.l.length s.cap), (3, u.v i), (4, .int .i64 (i : Int)), (5, .pointer (some ⟨b5, 0, none⟩)), (6, .int .i64 (k : Int))] ((some b5, .cells #[.string (bs y.n), .int .i64 y.u, .slice y.sv.p y.sv.l.length y.sv.cap, y1.v (k + 1), v2.v k] 103 (0, 0)) :: (y1.ob, .cells y1.cs 109 y1.fz) :: (v2.ob, .cells v2.cs 4 v2.fz) :: (u.ob, .cells u.cs 103 u.fz) :: M3) _
        refine Ya (Lq := []) (isq := []) (m := 15) Ym rfl rfl ?_
        refine GH_join (X := {y2 : Sl // Own 1 y2 ((gs ++ [d.g]).flatMap bC) (k + 1)}) (fun xj => match xj with | ⟨y2, hd6⟩ => [(0, .slice (some ⟨cy, s.off, none⟩) s.l.length s.cap), (3, u.v i), (4, .int .i64 (i : Int)), (5, .pointer (some ⟨b5, 0, none⟩)), (6, .int .i64 (k : Int))]) (fun xj => match xj with | ⟨y2, hd6⟩ => ((some b5, .cells #[.string (bs y.n), .int .i64 y.u, .slice y.sv.p y.sv.l.length y.sv.cap, y1.v (k + 1), y2.v (k + 1)] 103 (0, 0)) :: (y1.ob, .cells y1.cs 109 y1.fz) :: (y2.ob, .cells y2.cs 4 y2.fz) :: (u.ob, .cells u.cs 103 u.fz) :: M3)) ?rest10 (fun jn10 => ?main10)
        case rest10 =>
         intro xj
         obtain ⟨y2, hd6⟩ := xj
         show G _ _ [(0, .slice (some ⟨cy, s.off, none⟩) s.l.length s.cap), (3, u.v i), (4, .int .i64 (i : Int)), (5, .pointer (some ⟨b5, 0, none⟩)), (6, .int .i64 (k : Int))] ((some b5, .cells #[.string (bs y.n), .int .i64 y.u, .slice y.sv.p y.sv.l.length y.sv.cap, y1.v (k + 1), y2.v (k + 1)] 103 (0, 0)) :: (y1.ob, .cells y1.cs 109 y1.fz) :: (y2.ob, .cells y2.cs 4 y2.fz) :: (u.ob, .cells u.cs 103 u.fz) :: M3) _
         refine Zs ?_
         refine Zd (l := [0, 1, 2]) rfl ?_
         refine Za rfl rfl rfl rfl (Zc rfl rfl) ?_
         refine Za rfl rfl rfl rfl ((Yu rfl rfl rfl).int (Zv (by omega))) ?_
         refine Za rfl rfl rfl rfl (Zk rfl rfl) ?_
         refine Zg ?_
         refine Xy (L1 := [_, _, _, _]) ?_ [0, 0, 0, 0] ?bhl7 (ih2 (k + 1, y1, y2, shs ++ [s_], gs ++ [d.g], ?M1) ?_ ?_)
         case bhl7 => (dsimp only; refine ⟨(_), [], rfl, ?_⟩; exact perm_all _)
         · (refine (And.intro ?_ (And.intro ?_ (And.intro ?_ (And.intro ?_ (And.intro ?_ trivial))))) <;> first | rfl | exact Zm (by omega) | exact Zm (by simp))
         · exact ⟨by omega, by simp [hsl], by simp [hgl], hd1, hd6, oks_nx hoks3 hd3, take_snoc hrs hd hd2, take_snoc2 hrg hd, sub_or hMd (fun z hz => by simp [hd5 z hz]) (fun z hz => (hd4 z hz).imp (fun h => by simp [h]) id), fun z hz => by simp [hd5 z (hMM z hz)]⟩
         · (first | omega | (dsimp only; omega))
        case main10 =>
         refine Zh 0 rfl rfl rfl rfl (by kernel_rfl) (fun _ _ => Zb (fo := 4) rfl Try.underlying103 rfl i_101 rfl rfl rfl) ?_
         refine Zh 2 rfl rfl rfl rfl (by kernel_rfl) (fun _ _ => Zc rfl rfl) ?_
         refine Zh 3 rfl rfl rfl rfl (by kernel_rfl) (fun _ _ => Zc rfl rfl) ?_
         refine Zh 4 rfl rfl rfl rfl (by kernel_rfl) (fun _ _ => Zl (s := 4) rfl Try.underlying36 i_106 rfl rfl rfl rfl (by omega)) ?_
         refine Zh 5 rfl rfl rfl rfl (by kernel_rfl) (fun _ _ => Zb (fo := _ + 3) rfl Try.underlying106 rfl i_104 rfl rfl rfl) ?_
         refine Zh 6 rfl rfl rfl rfl (by kernel_rfl) (fun _ _ => Zj rfl rfl (by rw [← Yg qy]; exact List.mem_append_left _ (Zf 0 rfl)) (Zr (Ys ssy cDp_len hy 3 (by omega) rfl)) Try.underlying104 rfl) ?_
         rw [pd]
         refine Zh 7 rfl rfl rfl rfl (by kernel_rfl) (fun _ _ => Zc rfl rfl) ?_
         refine Zh 8 rfl rfl rfl rfl (by kernel_rfl) (fun _ _ => Zl (s := 3) rfl Try.underlying104 i_111 rfl rfl rfl rfl (by omega)) ?_
         refine Zh 9 rfl rfl rfl rfl (by kernel_rfl) (fun _ _ => Zb (fo := _ + 2) rfl Try.underlying111 rfl i_4 rfl rfl rfl) ?_
         refine Zh 10 rfl rfl rfl rfl (by kernel_rfl) (fun _ _ => Zj rfl rfl (by rw [← Yg qd]; exact List.mem_append_left _ (in_dp hy (by unfold kDp; simp))) (Zr (Ys ssd cDs_len hd 2 (by omega) rfl)) Try.underlying4 rfl) ?_
         refine GH_all [1, 11] (by kernel_rfl) (by decide) ?_
         refine (And.intro ?_ (And.intro ?_ trivial))
         ·
          refine Xn rfl rfl rfl rfl (Zj rfl rfl (List.mem_append_right _ (Zf 0 rfl)) rfl Try.underlying101 rfl) ?_
          refine GH_all [11] (by kernel_rfl) (by decide) ?_
          refine (And.intro ?_ trivial)
          ·
           refine Yz rfl rfl rfl rfl (Zn (s := 1) (cs := [_]) rfl Try.underlying101 i_4 rfl rfl rfl rfl rfl rfl rfl rfl rfl) [] (fun _ => ⟨_, rfl⟩) (fun b66 => ?_)
           refine GH_all [12] (by kernel_rfl) (by decide) ?_
           refine (And.intro ?_ trivial)
           ·
            refine Xf (l1 := [_, _, _]) (s := v2) (nn := k) (m := 1) (news := (bC d.g)) (bt := 1) rfl rfl rfl rfl Try.underlying101 Try.underlying101 (by first | exact .inl rfl | exact .inr ⟨_, rfl⟩) i_4 rfl rfl rfl rfl rfl rfl ho2 rfl (Yp (List.mem_append_right _ (Zf 0 rfl)) rfl rfl (by simp [bC, Value.oneCell'])) (by omega) (by omega) [] (fun _ => ⟨_, rfl⟩) ?_
            intro w2 hw2 _
            show GH _ _ _ _ _ _ _ (_ :: _ :: _ :: _ :: _ :: _) _
            refine Zh 13 rfl rfl rfl rfl (by kernel_rfl) (fun _ _ => Zb (fo := 4) rfl Try.underlying103 rfl i_101 rfl rfl rfl) ?_
            refine GH_all [14] (by kernel_rfl) (by decide) ?_
            refine (And.intro ?_ trivial)
            ·
             refine Xi (l1 := [_]) (L' := (_ :: _ :: _ :: _ :: _ :: _)) rfl rfl rfl rfl (Zq rfl rfl rfl (Zf 1 rfl) (by first | exact of_decide_eq_true rfl | omega | (simp [cOp, cWk, cIv, cHr, cLt, cWt, cIt, cFl, cTn, cCl, cPo, cSt, cDt, cDs, Sl.v, zIns, insV, cDp, cDst]; done) | (simp [cOp, cWk, cIv, cHr, cLt, cWt, cIt, cFl, cTn, cCl, cPo, cSt, cDt, cDs, Sl.v, zIns, insV, cDp, cDst]; omega) | (simp [cOp, cWk, cIv, cHr, cLt, cWt, cIt, cFl, cTn, cCl, cPo, cSt, cDt, cDs, Sl.v, zIns, insV, cDp, cDst] at *; omega)) i_101 rfl rfl) rfl [] rfl ?_
             refine Zw (by kernel_rfl) ?_
             exact Xy (L1 := [_, _, _, _]) (by exact (And.intro rfl (And.intro rfl (And.intro rfl (And.intro rfl (And.intro rfl trivial)))))) [1, 1, 1, 1] (by exact ⟨_, _, rfl, List.perm_append_comm (l₁ := [_])⟩) (jn10 ⟨w2, by rw [List.flatMap_append, List.flatMap_singleton]; exact hw2⟩)
         ·
          refine Yz rfl rfl rfl rfl (Zn (s := 1) (cs := [_]) rfl Try.underlying101 i_4 rfl rfl rfl rfl rfl rfl rfl rfl rfl) [] (fun _ => ⟨_, rfl⟩) (fun b66 => ?_)
          refine GH_all [1] (by kernel_rfl) (by decide) ?_
          refine (And.intro ?_ trivial)
          ·
           refine Xn rfl rfl rfl rfl (Zj rfl rfl (List.mem_append_right _ (Zf 1 rfl)) rfl Try.underlying101 rfl) ?_
           refine GH_all [12] (by kernel_rfl) (by decide) ?_
           refine (And.intro ?_ trivial)
           ·
            refine Xf (l1 := [_, _, _]) (s := v2) (nn := k) (m := 1) (news := (bC d.g)) (bt := 1) rfl rfl rfl rfl Try.underlying101 Try.underlying101 (by first | exact .inl rfl | exact .inr ⟨_, rfl⟩) i_4 rfl rfl rfl rfl rfl rfl ho2 rfl (Yp (List.mem_append_right _ (Zf 0 rfl)) rfl rfl (by simp [bC, Value.oneCell'])) (by omega) (by omega) [] (fun _ => ⟨_, rfl⟩) ?_
            intro w2 hw2 _
            show GH _ _ _ _ _ _ _ (_ :: _ :: _ :: _ :: _ :: _) _
            refine Zh 13 rfl rfl rfl rfl (by kernel_rfl) (fun _ _ => Zb (fo := 4) rfl Try.underlying103 rfl i_101 rfl rfl rfl) ?_
            refine GH_all [14] (by kernel_rfl) (by decide) ?_
            refine (And.intro ?_ trivial)
            ·
             refine Xi (l1 := [_]) (L' := (_ :: _ :: _ :: _ :: _ :: _)) rfl rfl rfl rfl (Zq rfl rfl rfl (Zf 1 rfl) (by first | exact of_decide_eq_true rfl | omega | (simp [cOp, cWk, cIv, cHr, cLt, cWt, cIt, cFl, cTn, cCl, cPo, cSt, cDt, cDs, Sl.v, zIns, insV, cDp, cDst]; done) | (simp [cOp, cWk, cIv, cHr, cLt, cWt, cIt, cFl, cTn, cCl, cPo, cSt, cDt, cDs, Sl.v, zIns, insV, cDp, cDst]; omega) | (simp [cOp, cWk, cIv, cHr, cLt, cWt, cIt, cFl, cTn, cCl, cPo, cSt, cDt, cDs, Sl.v, zIns, insV, cDp, cDst] at *; omega)) i_101 rfl rfl) rfl [] rfl ?_
             refine Zw (by kernel_rfl) ?_
             exact Xy (L1 := [_, _, _, _]) (by exact (And.intro rfl (And.intro rfl (And.intro rfl (And.intro rfl (And.intro rfl trivial)))))) [1, 1, 1, 1] (by exact ⟨_, _, rfl, List.perm_append_comm (l₁ := [_])⟩) (jn10 ⟨w2, by rw [List.flatMap_append, List.flatMap_singleton]; exact hw2⟩)
       case main9 =>
        refine Zh 0 rfl rfl rfl rfl (by kernel_rfl) (fun _ _ => Zb (fo := 3) rfl Try.underlying103 rfl i_100 rfl rfl rfl) ?_
        refine Zh 2 rfl rfl rfl rfl (by kernel_rfl) (fun _ _ => Zc rfl rfl) ?_
        refine Zh 3 rfl rfl rfl rfl (by kernel_rfl) (fun _ _ => Zc rfl rfl) ?_
        refine Zh 4 rfl rfl rfl rfl (by kernel_rfl) (fun _ _ => Zl (s := 4) rfl Try.underlying36 i_106 rfl rfl rfl rfl (by omega)) ?_
        refine Zh 5 rfl rfl rfl rfl (by kernel_rfl) (fun _ _ => Zb (fo := _ + 3) rfl Try.underlying106 rfl i_104 rfl rfl rfl) ?_
        refine Zh 6 rfl rfl rfl rfl (by kernel_rfl) (fun _ _ => Zj rfl rfl (by rw [← Yg qy]; exact List.mem_append_left _ (Zf 0 rfl)) (Zr (Ys ssy cDp_len hy 3 (by omega) rfl)) Try.underlying104 rfl) ?_
        rw [pd]
        refine Zh 7 rfl rfl rfl rfl (by kernel_rfl) (fun _ _ => Zc rfl rfl) ?_
        refine Zh 8 rfl rfl rfl rfl (by kernel_rfl) (fun _ _ => Zl (s := 3) rfl Try.underlying104 i_111 rfl rfl rfl rfl (by omega)) ?_
        refine Zh 9 rfl rfl rfl rfl (by kernel_rfl) (fun _ _ => Zb (fo := _ + 1) rfl Try.underlying111 rfl i_107 rfl rfl rfl) ?_
        refine Zh 10 rfl rfl rfl rfl (by kernel_rfl) (fun _ _ => Zj rfl rfl (by rw [← Yg qd]; exact List.mem_append_left _ (in_dp hy (by unfold kDp; simp))) (Zr (Ys ssd cDs_len hd 1 (by omega) rfl)) Try.underlying107 rfl) ?_
        refine GH_all [1, 11] (by kernel_rfl) (by decide) ?_
        refine (And.intro ?_ (And.intro ?_ trivial))
        ·
         refine Xn rfl rfl rfl rfl (Zj rfl rfl (List.mem_append_right _ (Zf 0 rfl)) rfl Try.underlying100 rfl) ?_
         refine GH_all [11] (by kernel_rfl) (by decide) ?_
         refine (And.intro ?_ trivial)
         ·
          refine Xq (L2 := (_ :: _ :: _ :: _ :: _)) rfl rfl rfl rfl rfl rfl Try.call117 (to_shares d.s hdo.1 hdo.2) [] rfl (fun z hz => List.mem_append_left _ (in_dp hy (List.mem_cons_of_mem _ (List.mem_cons_of_mem _ (List.mem_flatMap.2 ⟨d, List.mem_of_getElem? hd, hz⟩))))) [] (by rintro v post ⟨s2, _, hs2, hoks2, hv2, hM2, rfl, rfl⟩; exact ⟨_, rfl⟩) ?_
          rintro v M0 ⟨s2, _, hs2, hoks2, hv2, hM2, rfl, rfl⟩
          refine GH_perm (perm_in [] [_, _, _, _] _ _) ?_
          show GH _ _ _ _ _ _ _ (_ :: _ :: _ :: _ :: _) _
          refine GH_all [12] (by kernel_rfl) (by decide) ?_
          refine (And.intro ?_ trivial)
          ·
           refine Yz rfl rfl rfl rfl (Zn (s := 1) (cs := [_]) rfl Try.underlying100 i_109 rfl rfl rfl rfl rfl rfl rfl rfl rfl) [] (fun _ => ⟨_, rfl⟩) (fun b52 => ?_)
           refine GH_all [13] (by kernel_rfl) (by decide) ?_
           refine (And.intro ?_ trivial)
           ·
            refine Xf (l1 := [_, _]) (s := v1) (nn := k) (m := 1) (news := (shC s2)) (bt := 24) rfl rfl rfl rfl Try.underlying100 Try.underlying100 (by first | exact .inl rfl | exact .inr ⟨_, rfl⟩) i_109 rfl rfl rfl rfl rfl rfl ho1 rfl (Yp (List.mem_append_right _ (Zf 0 rfl)) rfl rfl (by simp [shC, Value.oneCell'])) (by omega) (by omega) [] (fun _ => ⟨_, rfl⟩) ?_
            intro w1 hw1 _
            show GH _ _ _ _ _ _ _ (_ :: _ :: _ :: _ :: _ :: _) _
            refine Zh 14 rfl rfl rfl rfl (by kernel_rfl) (fun _ _ => Zb (fo := 3) rfl Try.underlying103 rfl i_100 rfl rfl rfl) ?_
            refine GH_all [15] (by kernel_rfl) (by decide) ?_
            refine (And.intro ?_ trivial)
            ·
             refine Xi (l1 := [_]) (L' := (_ :: _ :: _ :: _ :: _ :: _)) rfl rfl rfl rfl (Zq rfl rfl rfl (Zf 1 rfl) (by first | exact of_decide_eq_true rfl | omega | (simp [cOp, cWk, cIv, cHr, cLt, cWt, cIt, cFl, cTn, cCl, cPo, cSt, cDt, cDs, Sl.v, zIns, insV, cDp, cDst]; done) | (simp [cOp, cWk, cIv, cHr, cLt, cWt, cIt, cFl, cTn, cCl, cPo, cSt, cDt, cDs, Sl.v, zIns, insV, cDp, cDst]; omega) | (simp [cOp, cWk, cIv, cHr, cLt, cWt, cIt, cFl, cTn, cCl, cPo, cSt, cDt, cDs, Sl.v, zIns, insV, cDp, cDst] at *; omega)) i_100 rfl rfl) rfl [] rfl ?_
             refine Zw (by kernel_rfl) ?_
             exact Xy (L1 := [_, _, _, _]) (by exact (And.intro rfl (And.intro rfl (And.intro rfl (And.intro rfl (And.intro rfl trivial)))))) [1, 1, 1, 1] (by exact ⟨_, _, rfl, List.perm_append_comm (l₁ := [_])⟩) (jn9 ⟨(w1, s2, M0 ++ M2), by rw [List.flatMap_append, List.flatMap_singleton]; exact hw1, hv2, ⟨hs2, hoks2⟩, fun z hz => (hM2 z hz).elim (fun h => .inl (List.mem_append_left _ h)) (fun h => .inr (List.mem_flatMap.2 ⟨y, List.mem_of_getElem? hy, List.mem_cons_of_mem _ (List.mem_cons_of_mem _ (List.mem_flatMap.2 ⟨d, List.mem_of_getElem? hd, List.mem_cons_of_mem _ h⟩))⟩)), fun z hz => List.mem_append_right _ hz⟩)
        ·
         refine Xq (L2 := (_ :: _ :: _ :: _ :: _)) rfl rfl rfl rfl rfl rfl Try.call117 (to_shares d.s hdo.1 hdo.2) [] rfl (fun z hz => List.mem_append_left _ (in_dp hy (List.mem_cons_of_mem _ (List.mem_cons_of_mem _ (List.mem_flatMap.2 ⟨d, List.mem_of_getElem? hd, hz⟩))))) [] (by rintro v post ⟨s2, _, hs2, hoks2, hv2, hM2, rfl, rfl⟩; exact ⟨_, rfl⟩) ?_
         rintro v M0 ⟨s2, _, hs2, hoks2, hv2, hM2, rfl, rfl⟩
         refine GH_perm (perm_in [] [_, _, _, _] _ _) ?_
         show GH _ _ _ _ _ _ _ (_ :: _ :: _ :: _ :: _) _
         refine GH_all [1, 12] (by kernel_rfl) (by decide) ?_
         refine (And.intro ?_ (And.intro ?_ trivial))
         ·
          refine Xn rfl rfl rfl rfl (Zj rfl rfl (List.mem_append_right _ (Zf 0 rfl)) rfl Try.underlying100 rfl) ?_
          refine GH_all [12] (by kernel_rfl) (by decide) ?_
          refine (And.intro ?_ trivial)
          ·
           refine Yz rfl rfl rfl rfl (Zn (s := 1) (cs := [_]) rfl Try.underlying100 i_109 rfl rfl rfl rfl rfl rfl rfl rfl rfl) [] (fun _ => ⟨_, rfl⟩) (fun b52 => ?_)
           refine GH_all [13] (by kernel_rfl) (by decide) ?_
           refine (And.intro ?_ trivial)
           ·
            refine Xf (l1 := [_, _]) (s := v1) (nn := k) (m := 1) (news := (shC s2)) (bt := 24) rfl rfl rfl rfl Try.underlying100 Try.underlying100 (by first | exact .inl rfl | exact .inr ⟨_, rfl⟩) i_109 rfl rfl rfl rfl rfl rfl ho1 rfl (Yp (List.mem_append_right _ (Zf 0 rfl)) rfl rfl (by simp [shC, Value.oneCell'])) (by omega) (by omega) [] (fun _ => ⟨_, rfl⟩) ?_
            intro w1 hw1 _
            show GH _ _ _ _ _ _ _ (_ :: _ :: _ :: _ :: _ :: _) _
            refine Zh 14 rfl rfl rfl rfl (by kernel_rfl) (fun _ _ => Zb (fo := 3) rfl Try.underlying103 rfl i_100 rfl rfl rfl) ?_
            refine GH_all [15] (by kernel_rfl) (by decide) ?_
            refine (And.intro ?_ trivial)
            ·
             refine Xi (l1 := [_]) (L' := (_ :: _ :: _ :: _ :: _ :: _)) rfl rfl rfl rfl (Zq rfl rfl rfl (Zf 1 rfl) (by first | exact of_decide_eq_true rfl | omega | (simp [cOp, cWk, cIv, cHr, cLt, cWt, cIt, cFl, cTn, cCl, cPo, cSt, cDt, cDs, Sl.v, zIns, insV, cDp, cDst]; done) | (simp [cOp, cWk, cIv, cHr, cLt, cWt, cIt, cFl, cTn, cCl, cPo, cSt, cDt, cDs, Sl.v, zIns, insV, cDp, cDst]; omega) | (simp [cOp, cWk, cIv, cHr, cLt, cWt, cIt, cFl, cTn, cCl, cPo, cSt, cDt, cDs, Sl.v, zIns, insV, cDp, cDst] at *; omega)) i_100 rfl rfl) rfl [] rfl ?_
             refine Zw (by kernel_rfl) ?_
             exact Xy (L1 := [_, _, _, _]) (by exact (And.intro rfl (And.intro rfl (And.intro rfl (And.intro rfl (And.intro rfl trivial)))))) [1, 1, 1, 1] (by exact ⟨_, _, rfl, List.perm_append_comm (l₁ := [_])⟩) (jn9 ⟨(w1, s2, M0 ++ M2), by rw [List.flatMap_append, List.flatMap_singleton]; exact hw1, hv2, ⟨hs2, hoks2⟩, fun z hz => (hM2 z hz).elim (fun h => .inl (List.mem_append_left _ h)) (fun h => .inr (List.mem_flatMap.2 ⟨y, List.mem_of_getElem? hy, List.mem_cons_of_mem _ (List.mem_cons_of_mem _ (List.mem_flatMap.2 ⟨d, List.mem_of_getElem? hd, List.mem_cons_of_mem _ h⟩))⟩)), fun z hz => List.mem_append_right _ hz⟩)
         ·
          refine Yz rfl rfl rfl rfl (Zn (s := 1) (cs := [_]) rfl Try.underlying100 i_109 rfl rfl rfl rfl rfl rfl rfl rfl rfl) [] (fun _ => ⟨_, rfl⟩) (fun b52 => ?_)
          refine GH_all [1] (by kernel_rfl) (by decide) ?_
          refine (And.intro ?_ trivial)
          ·
           refine Xn rfl rfl rfl rfl (Zj rfl rfl (List.mem_append_right _ (Zf 1 rfl)) rfl Try.underlying100 rfl) ?_
           refine GH_all [13] (by kernel_rfl) (by decide) ?_
           refine (And.intro ?_ trivial)
           ·
            refine Xf (l1 := [_, _]) (s := v1) (nn := k) (m := 1) (news := (shC s2)) (bt := 24) rfl rfl rfl rfl Try.underlying100 Try.underlying100 (by first | exact .inl rfl | exact .inr ⟨_, rfl⟩) i_109 rfl rfl rfl rfl rfl rfl ho1 rfl (Yp (List.mem_append_right _ (Zf 0 rfl)) rfl rfl (by simp [shC, Value.oneCell'])) (by omega) (by omega) [] (fun _ => ⟨_, rfl⟩) ?_
            intro w1 hw1 _
            show GH _ _ _ _ _ _ _ (_ :: _ :: _ :: _ :: _ :: _) _
            refine Zh 14 rfl rfl rfl rfl (by kernel_rfl) (fun _ _ => Zb (fo := 3) rfl Try.underlying103 rfl i_100 rfl rfl rfl) ?_
            refine GH_all [15] (by kernel_rfl) (by decide) ?_
            refine (And.intro ?_ trivial)
            ·
             refine Xi (l1 := [_]) (L' := (_ :: _ :: _ :: _ :: _ :: _)) rfl rfl rfl rfl (Zq rfl rfl rfl (Zf 1 rfl) (by first | exact of_decide_eq_true rfl | omega | (simp [cOp, cWk, cIv, cHr, cLt, cWt, cIt, cFl, cTn, cCl, cPo, cSt, cDt, cDs, Sl.v, zIns, insV, cDp, cDst]; done) | (simp [cOp, cWk, cIv, cHr, cLt, cWt, cIt, cFl, cTn, cCl, cPo, cSt, cDt, cDs, Sl.v, zIns, insV, cDp, cDst]; omega) | (simp [cOp, cWk, cIv, cHr, cLt, cWt, cIt, cFl, cTn, cCl, cPo, cSt, cDt, cDs, Sl.v, zIns, insV, cDp, cDst] at *; omega)) i_100 rfl rfl) rfl [] rfl ?_
             refine Zw (by kernel_rfl) ?_
             exact Xy (L1 := [_, _, _, _]) (by exact (And.intro rfl (And.intro rfl (And.intro rfl (And.intro rfl (And.intro rfl trivial)))))) [1, 1, 1, 1] (by exact ⟨_, _, rfl, List.perm_append_comm (l₁ := [_])⟩) (jn9 ⟨(w1, s2, M0 ++ M2), by rw [List.flatMap_append, List.flatMap_singleton]; exact hw1, hv2, ⟨hs2, hoks2⟩, fun z hz => (hM2 z hz).elim (fun h => .inl (List.mem_append_left _ h)) (fun h => .inr (List.mem_flatMap.2 ⟨y, List.mem_of_getElem? hy, List.mem_cons_of_mem _ (List.mem_cons_of_mem _ (List.mem_flatMap.2 ⟨d, List.mem_of_getElem? hd, List.mem_cons_of_mem _ h⟩))⟩)), fun z hz => List.mem_append_right _ hz⟩)
      refine Yx rfl ?_
      obtain rfl : k = y.sh.l.length := by omega
      rw [List.take_length] at hrs hrg
      rw [show #[.string (bs y.n), .int .i64 y.u, .slice y.sv.p y.sv.l.length y.sv.cap, v1.v y.sh.l.length, v2.v y.sh.l.length] = (cPo (⟨y.n, y.u, y.sv, insOf v1 109 shs, insOf v2 4 gs⟩ : Po)).toArray by simp [cPo, insOf, Sl.v, hsl, hgl]]
      refine Zd (l := [0, 1, 2, 3, 4]) rfl ?_
      refine Za rfl rfl rfl rfl (Zc rfl rfl) ?_
      refine Za rfl rfl rfl rfl (V_loadW (s := 5) rfl rfl (List.mem_append_right _ (Zf 0 rfl)) Try.underlying103 rfl i_103 rfl (by rfl)) ?_
      refine Yr rfl rfl rfl rfl (Zn (s := 5) (cs := [_, _, _, _, _]) rfl Try.underlying27 i_103 rfl rfl rfl rfl rfl rfl rfl rfl rfl) (fun b71 => ?_)
      refine G_append (l1 := [_, _, _, _]) (s := u) (nn := i) (m := 1) (news := (cPo (⟨y.n, y.u, y.sv, insOf v1 109 shs, insOf v2 4 gs⟩ : Po))) (bt := 96) rfl rfl rfl rfl Try.underlying27 Try.underlying27 (by first | exact .inl rfl | exact .inr ⟨_, rfl⟩) i_103 rfl rfl rfl rfl rfl rfl hu rfl (Yp (List.mem_append_right _ (Zf 0 rfl)) rfl rfl (by simp [cPo, insOf, Value.oneCell'])) (by omega) (by omega) ?_
      intro u1 hu1 _
      show G _ _ _ (_ :: _ :: _ :: _ :: _ :: _) _
      refine Za rfl rfl rfl rfl (Zk rfl rfl) ?_
      refine Zg ?_
      refine Zs ?_
      refine Zd (l := [0, 1, 2]) rfl ?_
      refine Za rfl rfl rfl rfl (Zc rfl rfl) ?_
      refine Za rfl rfl rfl rfl ((Yu rfl rfl rfl).int (Zv (by omega))) ?_
      refine Za rfl rfl rfl rfl (Zk rfl rfl) ?_
      refine Zg ?_
      refine Xy (L1 := [_]) ?_ [4] ?bhl3 (ih (i + 1, u1, ms ++ [(⟨y.n, y.u, y.sv, insOf v1 109 shs, insOf v2 4 gs⟩ : Po)], ?M2) ?_ ?_)
      case bhl3 => (dsimp only; refine ⟨(_ :: _ :: _ :: _ :: _), [], rfl, ?_⟩; exact perm_all _)
      · (refine (And.intro ?_ (And.intro ?_ (And.intro ?_ trivial))) <;> first | rfl | exact Zm (by omega) | (rw [py]; rfl))
      · exact ⟨by omega, by simp [hml], by rw [List.flatMap_append, List.flatMap_singleton]; exact hu1, oks_nx hoks ⟨hyo.1, Xd (by rw [hgl]; exact ho2) (by omega), Xd (by rw [hsl]; exact ho1) (by omega), hoks3⟩, map_next hv_ hy (po_same2 rfl rfl rfl hrg hrs), sub_or hM (fun z hz => by simp [hMM z hz]) (fun z hz => po_sub (q := (⟨y.n, y.u, y.sv, insOf v1 109 shs, insOf v2 4 gs⟩ : Po)) hy hz (by simp [insOf_k]) (by simp [insOf_k]) (fun z hz => (hMd z hz).imp (fun h => by simp [h]) id))⟩
      · (first | omega | (dsimp only; omega))
  refine Yx rfl ?_
  refine Zi ?_
  refine Zd (l := [0, 1]) rfl ?_
  refine Za rfl rfl rfl rfl (Zc rfl rfl) ?_
  refine Za rfl rfl rfl rfl (Zk rfl rfl) ?_
  refine Zg ?_
  refine G_retT (p1 := [_]) (T := _) Try.func56 rfl (Zy (Yy rfl) Zo) [0] ⟨_, _, rfl, List.perm_append_comm (l₁ := [])⟩ ?_
  dsimp only [packed]
  obtain rfl : i = s.l.length := by omega
  rw [List.take_length] at hv_
  exact ⟨insOf u 103 ms, _, Xd (by rw [hml]; exact hu) (by omega), hoks, hv_, sub_or_hd hM, by rw [Xp, hml], rfl⟩

end
end Go.Proofs.Ytjnaeoelnmhjfaa

set_option linter.unusedSimpArgs false
set_option linter.unusedVariables false
namespace Go.Proofs.Ytjnaeoelnmhjfaa
open Go Go.RowKit

section
theorem po_in2 {x : Dst} {z : HBk} (hz : z ∈ insK x.po :: x.po.l.flatMap kDp) : z ∈ kDst x := by
  unfold kDst
  simp only [List.mem_cons] at hz ⊢
  grind
theorem st_sub2 {x : Dst} {s : Ins Po} {M : List HBk} (hM : ∀ z ∈ insK s :: s.l.flatMap kPo, z ∈ M ∨ z ∈ x.po.l.flatMap kDp) : ∀ z ∈ kSt (⟨x.v0, x.g, x.v2, x.v3, x.v4, x.v5, x.v6, x.li, x.en, x.wo, x.iv, s, x.hi, x.le, x.wa⟩ : St), z ∈ M ∨ z ∈ kDst x := by
  intro z hz
  have h1 := hM z
  unfold kSt at hz
  unfold kDst
  simp only [List.mem_cons] at hz h1 ⊢
  grind

set_option maxRecDepth 100000 in
set_option maxHeartbeats 2000000 in
theorem to_state (x : Dst) (hx : MkDst x) :
    Ct Try.prog 16 [.agg (cDst x).toArray] (kDst x) [] fun v post => ∃ (y : St) (M : List HBk), MkSt y ∧ (∀ z ∈ kSt y, z ∈ M ∨ z ∈ kDst x) ∧ vSt y = vDst x ∧ v = .agg (cSt y).toArray ∧ post = M := by
 refine Yv Try.func16 rfl rfl (fun w0 => ?_)
 show G _ _ [(0, _)] _ _
 refine Zi ?_
 refine Zd (l := [0, 1]) rfl ?_
 refine Yr rfl rfl rfl rfl (N_boxA rfl rfl) (fun b1 => ?_)
 refine Yr rfl rfl rfl rfl (Xb rfl i_32 rfl) (fun b2 => ?_)
 refine Zg ?_
 refine Zi ?_
 refine Ya (Lq := [_]) (isq := [1]) (m := 33) Ym rfl rfl ?_
 refine Zh 0 rfl rfl rfl rfl (by kernel_rfl) (fun _ _ => Zb (fo := 0) rfl Try.underlying38 rfl i_23 rfl rfl rfl) ?_
 refine Zh 1 rfl rfl rfl rfl (by kernel_rfl) (fun _ _ => Zj rfl rfl (List.mem_append_right _ (Zf 0 rfl)) rfl Try.underlying23 rfl) ?_
 refine Zh 2 rfl rfl rfl rfl (by kernel_rfl) (fun _ _ => Zb (fo := 1) rfl Try.underlying38 rfl i_4 rfl rfl rfl) ?_
 refine Zh 3 rfl rfl rfl rfl (by kernel_rfl) (fun _ _ => Zj rfl rfl (List.mem_append_right _ (Zf 0 rfl)) rfl Try.underlying4 rfl) ?_
 refine Zh 4 rfl rfl rfl rfl (by kernel_rfl) (fun _ _ => Zb (fo := 2) rfl Try.underlying38 rfl i_3 rfl rfl rfl) ?_
 refine Zh 5 rfl rfl rfl rfl (by kernel_rfl) (fun _ _ => Zj rfl rfl (List.mem_append_right _ (Zf 0 rfl)) rfl Try.underlying3 rfl) ?_
 refine Zh 6 rfl rfl rfl rfl (by kernel_rfl) (fun _ _ => Zb (fo := 3) rfl Try.underlying38 rfl i_3 rfl rfl rfl) ?_
 refine Zh 7 rfl rfl rfl rfl (by kernel_rfl) (fun _ _ => Zj rfl rfl (List.mem_append_right _ (Zf 0 rfl)) rfl Try.underlying3 rfl) ?_
 refine Zh 8 rfl rfl rfl rfl (by kernel_rfl) (fun _ _ => Zb (fo := 4) rfl Try.underlying38 rfl i_3 rfl rfl rfl) ?_
 refine Zh 9 rfl rfl rfl rfl (by kernel_rfl) (fun _ _ => Zj rfl rfl (List.mem_append_right _ (Zf 0 rfl)) rfl Try.underlying3 rfl) ?_
 refine Zh 10 rfl rfl rfl rfl (by kernel_rfl) (fun _ _ => Zb (fo := 5) rfl Try.underlying38 rfl i_3 rfl rfl rfl) ?_
 refine Zh 11 rfl rfl rfl rfl (by kernel_rfl) (fun _ _ => Zj rfl rfl (List.mem_append_right _ (Zf 0 rfl)) rfl Try.underlying3 rfl) ?_
 refine Zh 12 rfl rfl rfl rfl (by kernel_rfl) (fun _ _ => Zb (fo := 6) rfl Try.underlying38 rfl i_3 rfl rfl rfl) ?_
 refine Zh 13 rfl rfl rfl rfl (by kernel_rfl) (fun _ _ => Zj rfl rfl (List.mem_append_right _ (Zf 0 rfl)) rfl Try.underlying3 rfl) ?_
 refine Zh 14 rfl rfl rfl rfl (by kernel_rfl) (fun _ _ => Zb (fo := 7) rfl Try.underlying38 rfl i_24 rfl rfl rfl) ?_
 refine Zh 15 rfl rfl rfl rfl (by kernel_rfl) (fun _ _ => Zj rfl rfl (List.mem_append_right _ (Zf 0 rfl)) rfl Try.underlying24 rfl) ?_
 refine Zh 16 rfl rfl rfl rfl (by kernel_rfl) (fun _ _ => Zb (fo := 8) rfl Try.underlying38 rfl i_24 rfl rfl rfl) ?_
 refine Zh 17 rfl rfl rfl rfl (by kernel_rfl) (fun _ _ => Zj rfl rfl (List.mem_append_right _ (Zf 0 rfl)) rfl Try.underlying24 rfl) ?_
 refine Zh 18 rfl rfl rfl rfl (by kernel_rfl) (fun _ _ => Zb (fo := 9) rfl Try.underlying38 rfl i_25 rfl rfl rfl) ?_
 refine Zh 19 rfl rfl rfl rfl (by kernel_rfl) (fun _ _ => Zj rfl rfl (List.mem_append_right _ (Zf 0 rfl)) rfl Try.underlying25 rfl) ?_
 refine Zh 20 rfl rfl rfl rfl (by kernel_rfl) (fun _ _ => Zb (fo := 10) rfl Try.underlying38 rfl i_26 rfl rfl rfl) ?_
 refine Zh 21 rfl rfl rfl rfl (by kernel_rfl) (fun _ _ => Zj rfl rfl (List.mem_append_right _ (Zf 0 rfl)) rfl Try.underlying26 rfl) ?_
 refine Zh 22 rfl rfl rfl rfl (by kernel_rfl) (fun _ _ => Zb (fo := 11) rfl Try.underlying38 rfl i_36 rfl rfl rfl) ?_
 refine Zh 23 rfl rfl rfl rfl (by kernel_rfl) (fun _ _ => Zj rfl rfl (List.mem_append_right _ (Zf 0 rfl)) rfl Try.underlying36 rfl) ?_
 refine Zh 25 rfl rfl rfl rfl (by kernel_rfl) (fun _ _ => Zb (fo := 12) rfl Try.underlying38 rfl i_28 rfl rfl rfl) ?_
 refine Zh 26 rfl rfl rfl rfl (by kernel_rfl) (fun _ _ => Zj rfl rfl (List.mem_append_right _ (Zf 0 rfl)) rfl Try.underlying28 rfl) ?_
 refine Zh 27 rfl rfl rfl rfl (by kernel_rfl) (fun _ _ => Zb (fo := 13) rfl Try.underlying38 rfl i_29 rfl rfl rfl) ?_
 refine Zh 28 rfl rfl rfl rfl (by kernel_rfl) (fun _ _ => Zj rfl rfl (List.mem_append_right _ (Zf 0 rfl)) rfl Try.underlying29 rfl) ?_
 refine Zh 29 rfl rfl rfl rfl (by kernel_rfl) (fun _ _ => Zb (fo := 14) rfl Try.underlying38 rfl i_30 rfl rfl rfl) ?_
 refine Zh 30 rfl rfl rfl rfl (by kernel_rfl) (fun _ _ => Zj rfl rfl (List.mem_append_right _ (Zf 0 rfl)) rfl Try.underlying30 rfl) ?_
 refine GH_all [24] (by kernel_rfl) (by decide) ?_
 refine (And.intro ?_ trivial)
 ·
  refine GHop_callMT (L2 := [_, _]) rfl rfl rfl rfl rfl rfl Try.call56 (to_pools x.po hx.po hx.po2) [] rfl (fun z hz => List.mem_append_left _ (po_in2 hz)) [1] rfl ?_
  rintro v M0 ⟨s2, _, hs2, hoks2, hv2, hM2, rfl, rfl⟩
  refine GH_perm (perm_in0 [] [_, _] _) ?_
  show GH _ _ _ _ _ _ _ (_ :: _ :: _) _
  refine Zh 31 rfl rfl rfl rfl (by kernel_rfl) (fun _ _ => V_buildS (cs := [_, _, _, _, _, _, _, _, _, _, _, _, _, _, _]) rfl Try.underlying32 i_32 rfl p_32 rfl rfl rfl) ?_
  refine GH_all [32] (by kernel_rfl) (by decide) ?_
  refine (And.intro ?_ trivial)
  ·
   refine Xi (l1 := []) (L' := (_ :: _ :: _)) rfl rfl rfl rfl (Xk (s := 15) rfl rfl rfl (Zf 0 rfl) (by rfl) i_32 rfl (by rfl) (by simp [Value.oneCell', cOp, cWk, cIv, cHr, cLt, cWt, cIt, cFl, cTn, cCl, cPo, cSt, cDt, cDs, Sl.v, zIns, insV, cDp, cDst])) rfl [1] rfl ?_
   refine Zw (by kernel_rfl) ?_
   refine G_retT (p1 := []) (T := _) Try.func16 rfl (Zy (RV_cell (s := 15) rfl (List.mem_append_right _ (Zf 0 rfl)) Try.underlying32 rfl i_32 rfl (by rfl)) Zo) [] ⟨_, _, rfl, List.perm_append_comm (l₁ := [_, _])⟩ ?_
   dsimp only [packed]
   exact ⟨(⟨x.v0, x.g, x.v2, x.v3, x.v4, x.v5, x.v6, x.li, x.en, x.wo, x.iv, s2, x.hi, x.le, x.wa⟩ : St), _, ⟨hx.li, hx.en, hx.wo, hx.iv, hs2, hx.hi, hx.le, hx.wa, hoks2⟩, st_sub2 hM2, by unfold vSt vDst; rw [hv2], rfl, rfl⟩

end
end Go.Proofs.Ytjnaeoelnmhjfaa

set_option linter.unusedSimpArgs false
set_option linter.unusedVariables false
namespace Go.Proofs.Ytjnaeoelnmhjfaa
open Go Go.RowKit

section
theorem all_take {α : Type} {P : α → Prop} {l : List α} {i : Nat} {y : α} (h : ∀ z ∈ l.take i, P z) (hy : l[i]? = some y) (hp : P y) : ∀ z ∈ l.take (i + 1), P z := by
  obtain ⟨hi, rfl⟩ := List.getElem?_eq_some_iff.1 hy
  intro z hz
  rw [List.take_succ_eq_append_getElem hi] at hz
  rcases List.mem_append.1 hz with hz | hz
  · exact h z hz
  · rw [List.mem_singleton.1 hz]; exact hp
theorem all_endP {α : Type} {P : α → Prop} {l : List α} {i : Nat} (h : ∀ z ∈ l.take i, P z) (hi : l.length ≤ i) : ∀ z ∈ l, P z := by
  rw [List.take_of_length_le hi] at h; exact h
theorem lt_len_of {α : Type} {l : List α} {n : Nat} (h : ¬ (n : Int) < (l.length : Int)) : l.length ≤ n := by omega
theorem Sees.piece {α : Type} {f : α → List Value} {sz : Nat} {ob : Option Nat} {off cap : Nat} {cs : Array Value} {l : List α} (h : Sees sz ob off cap cs (l.flatMap f) l.length) (hf : ∀ a, (f a).length = sz) {i : Nat} {a : α} (ha : l[i]? = some a) (k m : Nat) (hk : k + m ≤ sz) {vs : Array Value} (hv : (((f a).drop k).take m).toArray = vs) :
    cs.extract (off + i * sz + k) (off + i * sz + k + m) = vs := by
  have h1 := h.elem hf ha
  have h2 := congrArg (fun z => z.extract k (k + m)) h1
  simp only [Array.extract_extract] at h2
  rw [show min (off + i * sz + (k + m)) (off + i * sz + sz) = off + i * sz + k + m by omega] at h2
  rw [h2, ← hv]
  simp [List.extract_eq_take_drop]
def SmallF (f : Fl) : Prop := f.s.l.length ≤ 40
def SmallT (y : Dt) : Prop := y.s.l.length ≤ 20 ∧ ∀ f ∈ y.s.l, SmallF f
def SmallD (d : Ds) : Prop := d.s.l.length ≤ 10 ∧ ∀ y ∈ d.s.l, SmallT y
def SmallP (p : Dp) : Prop := p.sv.l.length ≤ 8 ∧ p.sh.l.length ≤ 8 ∧ ∀ d ∈ p.sh.l, SmallD d
structure Small (x : Dst) : Prop where
  li : x.li.l.length ≤ 40
  en : x.en.l.length ≤ 40
  wo : x.wo.l.length ≤ 40
  iv : x.iv.l.length ≤ 60
  po : x.po.l.length ≤ 10
  hi : x.hi.l.length ≤ 40
  le : x.le.l.length ≤ 60
  wa : x.wa.l.length ≤ 40
  p : ∀ p ∈ x.po.l, SmallP p

set_option maxRecDepth 100000 in
set_option maxHeartbeats 1000000 in
theorem lg_ops (s : Ins Op) (hs : InsOk 18 cOp s) :
    Ct Try.prog 55 [.slice s.p s.l.length s.cap] [insK s] [] fun v post => ∃ bo, (bo = false → s.l.length ≤ 40) ∧ v = .bool bo ∧ post = [] := by
 have hl1 := hs.le
 have hl2 := hs.max
 have hln := hs.n
 refine Yv Try.func55 rfl rfl (fun w0 => ?_)
 show G _ _ [(0, _)] _ _
 refine Zi ?_
 refine Zd (l := [0]) rfl ?_
 refine Za rfl rfl rfl rfl (Zk rfl rfl) ?_
 refine Zg ?_
 refine Zi ?_
 refine Zi ?_
 refine Zd (l := [0]) rfl ?_
 refine Za rfl rfl rfl rfl (Zk rfl rfl) ?_
 refine Zg ?_
 refine Zp ?_
 refine Yc ?he2 [] ?hl2 (Xc (X := Nat) (fun i => i ≤ s.l.length) (fun i => s.l.length - i) (fun i => [(0, .slice s.p s.l.length s.cap), (3, .int .i64 (i : Int))]) (fun i => []) ?round2 0 ?h02)
 case he2 => exact (And.intro rfl (And.intro rfl trivial))
 case hl2 => exact ⟨_, rfl⟩
 case h02 => exact Nat.zero_le _
 case round2 =>
  intro i hJ ih
  try dsimp only at hJ ih
  refine Zi ?_
  refine Zi ?_
  refine Zd (l := [0, 1, 2, 3]) rfl ?_
  refine Za rfl rfl rfl rfl (Zc rfl rfl) ?_
  refine Za rfl rfl rfl rfl (Zc rfl rfl) ?_
  refine Za rfl rfl rfl rfl (Yf rfl rfl Try.underlying24 rfl) ?_
  refine Za rfl rfl rfl rfl (Xh rfl rfl rfl) ?_
  refine Zg ?_
  refine Yl rfl (fun hc1 => ?_) (fun hc1 => ?_)
  ·
   refine Zu ?_
   refine Zi ?_
   refine Zp ?_
   refine Zi ?_
   obtain ⟨y, hy⟩ := Xv (show i < s.l.length by omega)
   obtain ⟨cy, py, qy, ssy⟩ := hs.isS (i := i) (by omega)
   rw [py]
   refine Zd (l := [0, 1, 2, 3, 4, 5, 6]) rfl ?_
   refine Za rfl rfl rfl rfl (Zc rfl rfl) ?_
   refine Za rfl rfl rfl rfl (Zc rfl rfl) ?_
   refine Za rfl rfl rfl rfl (Zl (s := 18) rfl Try.underlying24 i_137 rfl rfl rfl rfl (by omega)) ?_
   refine Za rfl rfl rfl rfl (Zb (fo := _ + 3) rfl Try.underlying137 rfl i_135 rfl rfl rfl) ?_
   refine Za rfl rfl rfl rfl (Xm (s := 3) (vs := #[.string (bs y.v3), .string (bs y.v4), .string (bs y.v5)]) rfl rfl (by rw [← Yg qy]; exact Zf 0 rfl) Try.underlying135 rfl i_135 rfl (ssy.piece cOp_len hy 3 3 (by omega) rfl) (by rfl)) ?_
   refine Yr rfl rfl rfl rfl (Xb rfl i_135 rfl) (fun b4 => ?_)
   refine Xl (l1 := []) (L' := [_]) rfl rfl rfl rfl (Xk (s := 3) rfl rfl rfl (Zf 0 rfl) (by rfl) i_135 rfl (by rfl) (by simp [Value.oneCell', cOp, cWk, cIv, cHr, cLt, cWt, cIt, cFl, cTn, cCl, cPo, cSt, cDt, cDs, Sl.v, zIns, insV, cDp, cDst])) rfl ?_
   refine Zg ?_
   refine Zi ?_
   refine Zd (l := [0, 1, 2, 3, 4, 5, 6, 7, 8, 9, 10, 11]) rfl ?_
   refine Za rfl rfl rfl rfl (Zb (fo := 0) rfl Try.underlying135 rfl i_9 rfl rfl rfl) ?_
   refine Za rfl rfl rfl rfl (Zj rfl rfl (Zf 1 rfl) rfl Try.underlying9 rfl) ?_
   refine Za rfl rfl rfl rfl (V_slen rfl rfl Try.underlying9 rfl) ?_
   refine Za rfl rfl rfl rfl (Zb (fo := 1) rfl Try.underlying135 rfl i_9 rfl rfl rfl) ?_
   refine Za rfl rfl rfl rfl (Zj rfl rfl (Zf 1 rfl) rfl Try.underlying9 rfl) ?_
   refine Za rfl rfl rfl rfl (V_slen rfl rfl Try.underlying9 rfl) ?_
   refine Za rfl rfl rfl rfl (Yu rfl rfl rfl) ?_
   refine Za rfl rfl rfl rfl (Zb (fo := 2) rfl Try.underlying135 rfl i_9 rfl rfl rfl) ?_
   refine Za rfl rfl rfl rfl (Zj rfl rfl (Zf 1 rfl) rfl Try.underlying9 rfl) ?_
   refine Za rfl rfl rfl rfl (V_slen rfl rfl Try.underlying9 rfl) ?_
   refine Za rfl rfl rfl rfl (Yu rfl rfl rfl) ?_
   refine Za rfl rfl rfl rfl (V_gtr rfl rfl rfl) ?_
   refine Zg ?_
   refine Yl rfl (fun hc2 => ?_) (fun hc2 => ?_)
   ·
    refine Zi ?_
    refine Zd (l := [0]) rfl ?_
    refine Za rfl rfl rfl rfl (Zk rfl rfl) ?_
    refine Zg ?_
    refine Xa (post := []) Try.func55 rfl (Zy (Yy rfl) Zo) [] rfl ?_
    dsimp only [packed]
    first
      | exact ⟨true, fun h => Bool.noConfusion h, rfl, rfl⟩
      | exact ⟨_, fun h => lt_len_of (of_decide_eq_false h), rfl, rfl⟩
   refine Zu ?_
   refine Zs ?_
   refine Zd (l := [0, 1, 2]) rfl ?_
   refine Za rfl rfl rfl rfl (Zc rfl rfl) ?_
   refine Za rfl rfl rfl rfl ((Yu rfl rfl rfl).int (Zv (by omega))) ?_
   refine Za rfl rfl rfl rfl (Zk rfl rfl) ?_
   refine Zg ?_
   refine Yc ?_ [] ?_ (ih (i + 1) ?_ ?_)
   · (refine (And.intro ?_ (And.intro ?_ trivial)) <;> first | rfl | exact Zm (by omega) | (rw [py]; rfl))
   · exact ⟨_, rfl⟩
   · omega
   · (first | omega | (dsimp only; omega))
  refine Yx rfl ?_
  refine Zi ?_
  refine Zd (l := [0, 1, 2, 3]) rfl ?_
  refine Za rfl rfl rfl rfl (Zc rfl rfl) ?_
  refine Za rfl rfl rfl rfl (Yf rfl rfl Try.underlying24 rfl) ?_
  refine Za rfl rfl rfl rfl (V_gtr rfl rfl rfl) ?_
  refine Za rfl rfl rfl rfl (Zk rfl rfl) ?_
  refine Zg ?_
  refine Xa (post := []) Try.func55 rfl (Zy (Yy rfl) Zo) [] rfl ?_
  dsimp only [packed]
  first
    | exact ⟨true, fun h => Bool.noConfusion h, rfl, rfl⟩
    | exact ⟨_, fun h => lt_len_of (of_decide_eq_false h), rfl, rfl⟩

set_option maxRecDepth 100000 in
set_option maxHeartbeats 1000000 in
theorem lg_tenants (s : Ins Dt) (hs : InsOk 6 cDt s) (hok : ∀ y ∈ s.l, OkDt y) :
    Ct Try.prog 54 [.slice s.p s.l.length s.cap] (insK s :: s.l.flatMap kDt) [] fun v post => ∃ bo, (bo = false → s.l.length ≤ 10 ∧ ∀ y ∈ s.l, SmallT y) ∧ v = .bool bo ∧ post = [] := by
 have hl1 := hs.le
 have hl2 := hs.max
 have hln := hs.n
 refine Yv Try.func54 rfl rfl (fun w0 => ?_)
 show G _ _ [(0, _)] _ _
 refine Zi ?_
 refine Zd (l := [0]) rfl ?_
 refine Za rfl rfl rfl rfl (Zk rfl rfl) ?_
 refine Zg ?_
 refine Zi ?_
 refine Zi ?_
 refine Zd (l := [0]) rfl ?_
 refine Za rfl rfl rfl rfl (Zk rfl rfl) ?_
 refine Zg ?_
 refine Zp ?_
 refine Yc ?he2 [] ?hl2 (Xc (X := Nat) (fun i => i ≤ s.l.length ∧ ∀ y ∈ s.l.take i, SmallT y) (fun i => s.l.length - i) (fun i => [(0, .slice s.p s.l.length s.cap), (3, .int .i64 (i : Int))]) (fun i => []) ?round2 0 ?h02)
 case he2 => exact (And.intro rfl (And.intro rfl trivial))
 case hl2 => exact ⟨_, rfl⟩
 case h02 => exact ⟨Nat.zero_le _, by simp⟩
 case round2 =>
  intro i hJ ih
  try dsimp only at hJ ih
  obtain ⟨hi, hS⟩ := hJ
  refine Zi ?_
  refine Zi ?_
  refine Zd (l := [0, 1, 2, 3]) rfl ?_
  refine Za rfl rfl rfl rfl (Zc rfl rfl) ?_
  refine Za rfl rfl rfl rfl (Zc rfl rfl) ?_
  refine Za rfl rfl rfl rfl (Yf rfl rfl Try.underlying107 rfl) ?_
  refine Za rfl rfl rfl rfl (Xh rfl rfl rfl) ?_
  refine Zg ?_
  refine Yl rfl (fun hc1 => ?_) (fun hc1 => ?_)
  ·
   refine Zu ?_
   refine Zi ?_
   refine Zp ?_
   refine Zi ?_
   refine Zi ?_
   obtain ⟨y, hy⟩ := Xv (show i < s.l.length by omega)
   obtain ⟨cy, py, qy, ssy⟩ := hs.isS (i := i) (by omega)
   rw [py]
   have hyo := hok y (List.mem_of_getElem? hy)
   have hyl := hyo.1.le
   have hym := hyo.1.max
   refine Zd (l := [0, 1, 2, 3, 4, 5, 6, 7]) rfl ?_
   refine Za rfl rfl rfl rfl (Zc rfl rfl) ?_
   refine Za rfl rfl rfl rfl (Zc rfl rfl) ?_
   refine Za rfl rfl rfl rfl (Zl (s := 6) rfl Try.underlying107 i_212 rfl rfl rfl rfl (by omega)) ?_
   refine Za rfl rfl rfl rfl (Zb (fo := _ + 3) rfl Try.underlying212 rfl i_210 rfl rfl rfl) ?_
   refine Za rfl rfl rfl rfl (Zb (fo := _ + 1) rfl Try.underlying210 rfl i_207 rfl rfl rfl) ?_
   refine Za rfl rfl rfl rfl (Zj rfl rfl (by rw [← Yg qy]; exact List.mem_append_left _ (Zf 0 rfl)) (Zr (Ys ssy cDt_len hy 4 (by omega) rfl)) Try.underlying207 rfl) ?_
   refine Za rfl rfl rfl rfl (Yf rfl rfl Try.underlying207 rfl) ?_
   refine Za rfl rfl rfl rfl (V_gtr rfl rfl rfl) ?_
   refine Zg ?_
   refine Yl rfl (fun hc2 => ?_) (fun hc2 => ?_)
   ·
    refine Zi ?_
    refine Zd (l := [0]) rfl ?_
    refine Za rfl rfl rfl rfl (Zk rfl rfl) ?_
    refine Zg ?_
    refine Xa (post := []) Try.func54 rfl (Zy (Yy rfl) Zo) [] rfl ?_
    dsimp only [packed]
    first
      | exact ⟨true, fun h => Bool.noConfusion h, rfl, rfl⟩
      | exact ⟨_, fun h => ⟨lt_len_of (of_decide_eq_false h), all_endP hS (by omega)⟩, rfl, rfl⟩
   refine Zu ?_
   refine Zi ?_
   refine Zd (l := [0]) rfl ?_
   refine Za rfl rfl rfl rfl (Zk rfl rfl) ?_
   refine Zg ?_
   refine Zp ?_
   refine Yc ?he7 [] ?hl7 (Xc (X := Nat) (fun k => k ≤ y.s.l.length ∧ ∀ f ∈ y.s.l.take k, SmallF f) (fun k => y.s.l.length - k) (fun k => [(0, .slice (some ⟨cy, s.off, none⟩) s.l.length s.cap), (3, .int .i64 (i : Int)), (4, .int .i64 (k : Int))]) (fun k => []) ?round7 0 ?h07)
   case he7 => exact (And.intro rfl (And.intro rfl (And.intro rfl trivial)))
   case hl7 => exact ⟨_, rfl⟩
   case h07 => exact ⟨Nat.zero_le _, by simp⟩
   case round7 =>
    intro k hJ ih2
    try dsimp only at hJ ih2
    obtain ⟨hk, hT⟩ := hJ
    refine Zi ?_
    refine Zi ?_
    refine Zd (l := [0, 1, 2, 3, 4, 5, 6, 7, 8]) rfl ?_
    refine Za rfl rfl rfl rfl (Zc rfl rfl) ?_
    refine Za rfl rfl rfl rfl (Zc rfl rfl) ?_
    refine Za rfl rfl rfl rfl (Zc rfl rfl) ?_
    refine Za rfl rfl rfl rfl (Zl (s := 6) rfl Try.underlying107 i_212 rfl rfl rfl rfl (by omega)) ?_
    refine Za rfl rfl rfl rfl (Zb (fo := _ + 3) rfl Try.underlying212 rfl i_210 rfl rfl rfl) ?_
    refine Za rfl rfl rfl rfl (Zb (fo := _ + 1) rfl Try.underlying210 rfl i_207 rfl rfl rfl) ?_
    refine Za rfl rfl rfl rfl (Zj rfl rfl (by rw [← Yg qy]; exact List.mem_append_left _ (Zf 0 rfl)) (Zr (Ys ssy cDt_len hy 4 (by omega) rfl)) Try.underlying207 rfl) ?_
    refine Za rfl rfl rfl rfl (Yf rfl rfl Try.underlying207 rfl) ?_
    refine Za rfl rfl rfl rfl (Xh rfl rfl rfl) ?_
    refine Zg ?_
    refine Yl rfl (fun hc3 => ?_) (fun hc3 => ?_)
    ·
     refine Zu ?_
     refine Zi ?_
     refine Zp ?_
     refine Zi ?_
     obtain ⟨f, hf⟩ := Xv (show k < y.s.l.length by omega)
     obtain ⟨cf, pf, qf, ssf⟩ := hyo.1.isS (i := k) (by omega)
     refine Zd (l := [0, 1, 2, 3, 4, 5, 6, 7, 8, 9, 10, 11]) rfl ?_
     refine Za rfl rfl rfl rfl (Zc rfl rfl) ?_
     refine Za rfl rfl rfl rfl (Zc rfl rfl) ?_
     refine Za rfl rfl rfl rfl (Zl (s := 6) rfl Try.underlying107 i_212 rfl rfl rfl rfl (by omega)) ?_
     refine Za rfl rfl rfl rfl (Zb (fo := _ + 3) rfl Try.underlying212 rfl i_210 rfl rfl rfl) ?_
     refine Za rfl rfl rfl rfl (Zb (fo := _ + 1) rfl Try.underlying210 rfl i_207 rfl rfl rfl) ?_
     refine Za rfl rfl rfl rfl (Zj rfl rfl (by rw [← Yg qy]; exact List.mem_append_left _ (Zf 0 rfl)) (Zr (Ys ssy cDt_len hy 4 (by omega) rfl)) Try.underlying207 rfl) ?_
     rw [pf]
     refine Za rfl rfl rfl rfl (Zc rfl rfl) ?_
     refine Za rfl rfl rfl rfl (Zl (s := 4) rfl Try.underlying207 i_217 rfl rfl rfl rfl (by omega)) ?_
     refine Za rfl rfl rfl rfl (Zb (fo := _ + 3) rfl Try.underlying217 rfl i_215 rfl rfl rfl) ?_
     refine Za rfl rfl rfl rfl (Zj rfl rfl (by rw [← Yg qf]; exact List.mem_append_left _ (List.mem_cons_of_mem _ (List.mem_flatMap.2 ⟨y, List.mem_of_getElem? hy, List.mem_cons_self⟩))) (Zr (Ys ssf cFl_len hf 3 (by omega) rfl)) Try.underlying215 rfl) ?_
     refine Za rfl rfl rfl rfl (Yf rfl rfl Try.underlying215 rfl) ?_
     refine Za rfl rfl rfl rfl (V_gtr rfl rfl rfl) ?_
     refine Zg ?_
     refine Yl rfl (fun hc4 => ?_) (fun hc4 => ?_)
     ·
      refine Zi ?_
      refine Zd (l := [0]) rfl ?_
      refine Za rfl rfl rfl rfl (Zk rfl rfl) ?_
      refine Zg ?_
      refine Xa (post := []) Try.func54 rfl (Zy (Yy rfl) Zo) [] rfl ?_
      dsimp only [packed]
      first
        | exact ⟨true, fun h => Bool.noConfusion h, rfl, rfl⟩
        | exact ⟨_, fun h => ⟨lt_len_of (of_decide_eq_false h), all_endP hS (by omega)⟩, rfl, rfl⟩
     refine Zu ?_
     refine Zs ?_
     refine Zd (l := [0, 1, 2]) rfl ?_
     refine Za rfl rfl rfl rfl (Zc rfl rfl) ?_
     refine Za rfl rfl rfl rfl ((Yu rfl rfl rfl).int (Zv (by omega))) ?_
     refine Za rfl rfl rfl rfl (Zk rfl rfl) ?_
     refine Zg ?_
     refine Yc ?_ [] ?_ (ih2 (k + 1) ?_ ?_)
     · (refine (And.intro ?_ (And.intro ?_ (And.intro ?_ trivial))) <;> first | rfl | exact Zm (by omega) | exact Zm (by simp))
     · exact ⟨_, rfl⟩
     · exact ⟨by omega, all_take hT hf (by unfold SmallF; omega)⟩
     · (first | omega | (dsimp only; omega))
    refine Yx rfl ?_
    refine Zs ?_
    refine Zd (l := [0, 1, 2]) rfl ?_
    refine Za rfl rfl rfl rfl (Zc rfl rfl) ?_
    refine Za rfl rfl rfl rfl ((Yu rfl rfl rfl).int (Zv (by omega))) ?_
    refine Za rfl rfl rfl rfl (Zk rfl rfl) ?_
    refine Zg ?_
    refine Yc ?_ [] ?_ (ih (i + 1) ?_ ?_)
    · (refine (And.intro ?_ (And.intro ?_ trivial)) <;> first | rfl | exact Zm (by omega) | (rw [py]; rfl))
    · exact ⟨_, rfl⟩
    · exact ⟨by omega, all_take hS hy ⟨by omega, all_endP hT (by omega)⟩⟩
    · (first | omega | (dsimp only; omega))
  refine Yx rfl ?_
  refine Zi ?_
  refine Zd (l := [0, 1, 2, 3]) rfl ?_
  refine Za rfl rfl rfl rfl (Zc rfl rfl) ?_
  refine Za rfl rfl rfl rfl (Yf rfl rfl Try.underlying107 rfl) ?_
  refine Za rfl rfl rfl rfl (V_gtr rfl rfl rfl) ?_
  refine Za rfl rfl rfl rfl (Zk rfl rfl) ?_
  refine Zg ?_
  refine Xa (post := []) Try.func54 rfl (Zy (Yy rfl) Zo) [] rfl ?_
  dsimp only [packed]
  first
    | exact ⟨true, fun h => Bool.noConfusion h, rfl, rfl⟩
    | exact ⟨_, fun h => ⟨lt_len_of (of_decide_eq_false h), all_endP hS (by omega)⟩, rfl, rfl⟩

set_option maxRecDepth 100000 in
set_option maxHeartbeats 4000000 in
theorem lg_large (x : Dst) (hx : MkDst x) :
    Ct Try.prog 15 [.agg (cDst x).toArray] (kDst x) [] fun v post => ∃ bo, (bo = false → Small x) ∧ v = .bool bo ∧ post = [] := by
 have hh1 := hx.po.le
 have hh2 := hx.po.max
 have hh3 := hx.wo.le
 have hh4 := hx.wo.max
 have hh5 := hx.iv.le
 have hh6 := hx.iv.max
 refine Yv Try.func15 rfl rfl (fun w0 => ?_)
 show G _ _ [(0, _)] _ _
 refine Zi ?_
 refine Zd (l := [0, 1]) rfl ?_
 refine Yr rfl rfl rfl rfl (N_boxA rfl rfl) (fun b1 => ?_)
 refine Za rfl rfl rfl rfl (Zk rfl rfl) ?_
 refine Zg ?_
 refine Zi ?_
 refine Zi ?_
 refine Zd (l := [0]) rfl ?_
 refine Za rfl rfl rfl rfl (Zk rfl rfl) ?_
 refine Zg ?_
 refine Zp ?_
 refine Yc ?he2 [0] ?hl2 (Xc (X := Nat) (fun i => i ≤ x.po.l.length ∧ ∀ p ∈ x.po.l.take i, SmallP p) (fun i => x.po.l.length - i) (fun i => [(1, .pointer (some ⟨b1, 0, none⟩)), (2, .bool false), (3, .int .i64 (i : Int))]) (fun i => [(some b1, .cells (cDst x).toArray 38 (0, 0))]) ?round2 0 ?h02)
 case he2 => exact (And.intro rfl (And.intro rfl (And.intro rfl trivial)))
 case hl2 => exact ⟨_, rfl⟩
 case h02 => exact ⟨Nat.zero_le _, by simp⟩
 case round2 =>
  intro i hJ ih
  try dsimp only at hJ ih
  obtain ⟨hi, hP⟩ := hJ
  refine Zi ?_
  refine Zi ?_
  refine Zd (l := [0, 1, 2, 3, 4]) rfl ?_
  refine Za rfl rfl rfl rfl (Zc rfl rfl) ?_
  refine Za rfl rfl rfl rfl (Zb (fo := 11) rfl Try.underlying38 rfl i_36 rfl rfl rfl) ?_
  refine Za rfl rfl rfl rfl (Zj rfl rfl (List.mem_append_right _ (Zf 0 rfl)) rfl Try.underlying36 rfl) ?_
  refine Za rfl rfl rfl rfl (Yf rfl rfl Try.underlying36 rfl) ?_
  refine Za rfl rfl rfl rfl (Xh rfl rfl rfl) ?_
  refine Zg ?_
  refine Yl rfl (fun hc1 => ?_) (fun hc1 => ?_)
  ·
   refine Zu ?_
   refine Zi ?_
   refine Zp ?_
   refine Zi ?_
   refine Zi ?_
   obtain ⟨y, hy⟩ := Xv (show i < x.po.l.length by omega)
   obtain ⟨cy, py, qy, ssy⟩ := hx.po.isS (i := i) (by omega)
   have hyo := hx.po2 y (List.mem_of_getElem? hy)
   have hyl := hyo.2.1.le
   have hym := hyo.2.1.max
   refine Zd (l := [0, 1, 2, 3, 4, 5, 6, 7, 8, 9, 10, 11, 12, 13, 14, 15, 16, 17, 18, 19, 20, 21, 22, 23, 24, 25, 26, 27]) rfl ?_
   refine Za rfl rfl rfl rfl (Zb (fo := 11) rfl Try.underlying38 rfl i_36 rfl rfl rfl) ?_
   refine Za rfl rfl rfl rfl (Zj rfl rfl (List.mem_append_right _ (Zf 0 rfl)) rfl Try.underlying36 rfl) ?_
   rw [py]
   refine Za rfl rfl rfl rfl (Zc rfl rfl) ?_
   refine Za rfl rfl rfl rfl (Zl (s := 4) rfl Try.underlying36 i_106 rfl rfl rfl rfl (by omega)) ?_
   refine Za rfl rfl rfl rfl (Zb (fo := _) rfl Try.underlying106 rfl i_9 rfl rfl rfl) ?_
   refine Za rfl rfl rfl rfl (Zj rfl rfl (by rw [← Yg qy]; exact List.mem_append_left _ (po_in2 List.mem_cons_self)) (Zr (Ys ssy cDp_len hy 0 (by omega) rfl)) Try.underlying9 rfl) ?_
   refine Za rfl rfl rfl rfl (V_slen rfl rfl Try.underlying9 rfl) ?_
   refine Za rfl rfl rfl rfl (V_gtr rfl rfl rfl) ?_
   refine Za rfl rfl rfl rfl (Zc rfl rfl) ?_
   refine Xr 22 rfl (fun hc2 => ?_) (fun hc2 => ?_)
   ·
    refine Zt rfl rfl rfl rfl ?_
    refine Zt rfl rfl rfl rfl ?_
    try rw [py]
    refine Zt rfl rfl rfl rfl ?_
    refine Zt rfl rfl rfl rfl ?_
    refine Zt rfl rfl rfl rfl ?_
    refine Zt rfl rfl rfl rfl ?_
    refine Zt rfl rfl rfl rfl ?_
    refine Zt rfl rfl rfl rfl ?_
    refine Za rfl rfl rfl rfl (Yk rfl rfl rfl) ?_
    refine Za rfl rfl rfl rfl (Zc rfl rfl) ?_
    refine Zt rfl rfl rfl rfl ?_
    refine Zt rfl rfl rfl rfl ?_
    try rw [py]
    refine Zt rfl rfl rfl rfl ?_
    refine Zt rfl rfl rfl rfl ?_
    refine Zt rfl rfl rfl rfl ?_
    refine Zt rfl rfl rfl rfl ?_
    refine Zt rfl rfl rfl rfl ?_
    refine Zt rfl rfl rfl rfl ?_
    refine Za rfl rfl rfl rfl (Yk rfl rfl rfl) ?_
    refine Zg ?_
    refine G_then rfl ?_
    refine Zi ?_
    refine Zd (l := [0]) rfl ?_
    refine Za rfl rfl rfl rfl (Zk rfl rfl) ?_
    refine Zg ?_
    refine Xa (post := []) Try.func15 rfl (Zy (Yy rfl) Zo) [] rfl ?_
    dsimp only [packed]
    first
      | exact ⟨true, fun h => Bool.noConfusion h, rfl, rfl⟩
      | (refine ⟨_, fun h => ?_, rfl, rfl⟩
         have e7 := hz7 (by assumption)
         have e8 := hz8 (by assumption)
         have e14 := of_decide_eq_false h
         exact ⟨by omega, by omega, by omega, by omega, by omega, by omega, by omega, by omega, all_endP hP (by omega)⟩)
   refine Za rfl rfl rfl rfl (Zb (fo := 11) rfl Try.underlying38 rfl i_36 rfl rfl rfl) ?_
   refine Za rfl rfl rfl rfl (Zj rfl rfl (List.mem_append_right _ (Zf 0 rfl)) rfl Try.underlying36 rfl) ?_
   try rw [py]
   refine Za rfl rfl rfl rfl (Zc rfl rfl) ?_
   refine Za rfl rfl rfl rfl (Zl (s := 4) rfl Try.underlying36 i_106 rfl rfl rfl rfl (by omega)) ?_
   refine Za rfl rfl rfl rfl (Zb (fo := _ + 2) rfl Try.underlying106 rfl i_99 rfl rfl rfl) ?_
   refine Za rfl rfl rfl rfl (Zj rfl rfl (by rw [← Yg qy]; exact List.mem_append_left _ (po_in2 List.mem_cons_self)) (Zr (Ys ssy cDp_len hy 2 (by omega) rfl)) Try.underlying99 rfl) ?_
   refine Za rfl rfl rfl rfl (Yf rfl rfl Try.underlying99 rfl) ?_
   refine Za rfl rfl rfl rfl (V_gtr rfl rfl rfl) ?_
   refine Za rfl rfl rfl rfl (Xu rfl rfl rfl) ?_
   refine Za rfl rfl rfl rfl (Zc rfl rfl) ?_
   refine Xr 32 rfl (fun hc3 => ?_) (fun hc3 => ?_)
   ·
    refine Zt rfl rfl rfl rfl ?_
    refine Zt rfl rfl rfl rfl ?_
    try rw [py]
    refine Zt rfl rfl rfl rfl ?_
    refine Zt rfl rfl rfl rfl ?_
    refine Zt rfl rfl rfl rfl ?_
    refine Zt rfl rfl rfl rfl ?_
    refine Zt rfl rfl rfl rfl ?_
    refine Zt rfl rfl rfl rfl ?_
    refine Za rfl rfl rfl rfl (Yk rfl rfl rfl) ?_
    refine Zg ?_
    refine G_then rfl ?_
    refine Zi ?_
    refine Zd (l := [0]) rfl ?_
    refine Za rfl rfl rfl rfl (Zk rfl rfl) ?_
    refine Zg ?_
    refine Xa (post := []) Try.func15 rfl (Zy (Yy rfl) Zo) [] rfl ?_
    dsimp only [packed]
    first
      | exact ⟨true, fun h => Bool.noConfusion h, rfl, rfl⟩
      | (refine ⟨_, fun h => ?_, rfl, rfl⟩
         have e7 := hz7 (by assumption)
         have e8 := hz8 (by assumption)
         have e14 := of_decide_eq_false h
         exact ⟨by omega, by omega, by omega, by omega, by omega, by omega, by omega, by omega, all_endP hP (by omega)⟩)
   refine Za rfl rfl rfl rfl (Zb (fo := 11) rfl Try.underlying38 rfl i_36 rfl rfl rfl) ?_
   refine Za rfl rfl rfl rfl (Zj rfl rfl (List.mem_append_right _ (Zf 0 rfl)) rfl Try.underlying36 rfl) ?_
   try rw [py]
   refine Za rfl rfl rfl rfl (Zc rfl rfl) ?_
   refine Za rfl rfl rfl rfl (Zl (s := 4) rfl Try.underlying36 i_106 rfl rfl rfl rfl (by omega)) ?_
   refine Za rfl rfl rfl rfl (Zb (fo := _ + 3) rfl Try.underlying106 rfl i_104 rfl rfl rfl) ?_
   refine Za rfl rfl rfl rfl (Zj rfl rfl (by rw [← Yg qy]; exact List.mem_append_left _ (po_in2 List.mem_cons_self)) (Zr (Ys ssy cDp_len hy 3 (by omega) rfl)) Try.underlying104 rfl) ?_
   refine Za rfl rfl rfl rfl (Yf rfl rfl Try.underlying104 rfl) ?_
   refine Za rfl rfl rfl rfl (V_gtr rfl rfl rfl) ?_
   refine Za rfl rfl rfl rfl (Xu rfl rfl rfl) ?_
   refine Zg ?_
   refine Yl rfl (fun hc4 => ?_) (fun hc4 => ?_)
   ·
    refine Zi ?_
    refine Zd (l := [0]) rfl ?_
    refine Za rfl rfl rfl rfl (Zk rfl rfl) ?_
    refine Zg ?_
    refine Xa (post := []) Try.func15 rfl (Zy (Yy rfl) Zo) [] rfl ?_
    dsimp only [packed]
    first
      | exact ⟨true, fun h => Bool.noConfusion h, rfl, rfl⟩
      | (refine ⟨_, fun h => ?_, rfl, rfl⟩
         have e7 := hz7 (by assumption)
         have e8 := hz8 (by assumption)
         have e14 := of_decide_eq_false h
         exact ⟨by omega, by omega, by omega, by omega, by omega, by omega, by omega, by omega, all_endP hP (by omega)⟩)
   refine Zu ?_
   refine Zi ?_
   refine Zd (l := [0]) rfl ?_
   refine Za rfl rfl rfl rfl (Zk rfl rfl) ?_
   refine Zg ?_
   refine Zp ?_
   refine Yc ?he7 [0] ?hl7 (Xc (X := Nat) (fun k => k ≤ y.sh.l.length ∧ ∀ d ∈ y.sh.l.take k, SmallD d) (fun k => y.sh.l.length - k) (fun k => [(1, .pointer (some ⟨b1, 0, none⟩)), (2, .bool false), (3, .int .i64 (i : Int)), (4, .int .i64 (k : Int))]) (fun k => [(some b1, .cells (cDst x).toArray 38 (0, 0))]) ?round7 0 ?h07)
   case he7 => exact (And.intro rfl (And.intro rfl (And.intro rfl (And.intro rfl trivial))))
   case hl7 => exact ⟨_, rfl⟩
   case h07 => exact ⟨Nat.zero_le _, by simp⟩
   case round7 =>
    intro k hJ ih2
    try dsimp only at hJ ih2
    obtain ⟨hk, hD⟩ := hJ
    refine Zi ?_
    refine Zi ?_
    refine Zd (l := [0, 1, 2, 3, 4, 5, 6, 7, 8]) rfl ?_
    refine Za rfl rfl rfl rfl (Zc rfl rfl) ?_
    refine Za rfl rfl rfl rfl (Zb (fo := 11) rfl Try.underlying38 rfl i_36 rfl rfl rfl) ?_
    refine Za rfl rfl rfl rfl (Zj rfl rfl (List.mem_append_right _ (Zf 0 rfl)) rfl Try.underlying36 rfl) ?_
    rw [py]
    refine Za rfl rfl rfl rfl (Zc rfl rfl) ?_
    refine Za rfl rfl rfl rfl (Zl (s := 4) rfl Try.underlying36 i_106 rfl rfl rfl rfl (by omega)) ?_
    refine Za rfl rfl rfl rfl (Zb (fo := _ + 3) rfl Try.underlying106 rfl i_104 rfl rfl rfl) ?_
    refine Za rfl rfl rfl rfl (Zj rfl rfl (by rw [← Yg qy]; exact List.mem_append_left _ (po_in2 List.mem_cons_self)) (Zr (Ys ssy cDp_len hy 3 (by omega) rfl)) Try.underlying104 rfl) ?_
    refine Za rfl rfl rfl rfl (Yf rfl rfl Try.underlying104 rfl) ?_
    refine Za rfl rfl rfl rfl (Xh rfl rfl rfl) ?_
    refine Zg ?_
    refine Yl rfl (fun hc5 => ?_) (fun hc5 => ?_)
    ·
     refine Zu ?_
     refine Zi ?_
     refine Zp ?_
     refine Zi ?_
     obtain ⟨d, hd⟩ := Xv (show k < y.sh.l.length by omega)
     obtain ⟨cd, pd, qd, ssd⟩ := hyo.2.1.isS (i := k) (by omega)
     have hdo := hyo.2.2 d (List.mem_of_getElem? hd)
     refine Zd (l := [0, 1, 2, 3, 4, 5, 6, 7, 8, 9, 10]) rfl ?_
     refine Za rfl rfl rfl rfl (Zb (fo := 11) rfl Try.underlying38 rfl i_36 rfl rfl rfl) ?_
     refine Za rfl rfl rfl rfl (Zj rfl rfl (List.mem_append_right _ (Zf 0 rfl)) rfl Try.underlying36 rfl) ?_
     rw [py]
     refine Za rfl rfl rfl rfl (Zc rfl rfl) ?_
     refine Za rfl rfl rfl rfl (Zl (s := 4) rfl Try.underlying36 i_106 rfl rfl rfl rfl (by omega)) ?_
     refine Za rfl rfl rfl rfl (Zb (fo := _ + 3) rfl Try.underlying106 rfl i_104 rfl rfl rfl) ?_
     refine Za rfl rfl rfl rfl (Zj rfl rfl (by rw [← Yg qy]; exact List.mem_append_left _ (po_in2 List.mem_cons_self)) (Zr (Ys ssy cDp_len hy 3 (by omega) rfl)) Try.underlying104 rfl) ?_
     rw [pd]
     refine Za rfl rfl rfl rfl (Zc rfl rfl) ?_
     refine Za rfl rfl rfl rfl (Zl (s := 3) rfl Try.underlying104 i_111 rfl rfl rfl rfl (by omega)) ?_
     refine Za rfl rfl rfl rfl (Zb (fo := _ + 1) rfl Try.underlying111 rfl i_107 rfl rfl rfl) ?_
     refine Za rfl rfl rfl rfl (Zj rfl rfl (by rw [← Yg qd]; exact List.mem_append_left _ (po_in2 (List.mem_cons_of_mem _ (List.mem_flatMap.2 ⟨y, List.mem_of_getElem? hy, by unfold kDp; simp⟩)))) (Zr (Ys ssd cDs_len hd 1 (by omega) rfl)) Try.underlying107 rfl) ?_
     refine Yn (L2 := [_]) rfl rfl rfl rfl rfl rfl Try.call54 (lg_tenants d.s hdo.1 hdo.2) [] rfl (fun z hz => List.mem_append_left _ (po_in2 (List.mem_cons_of_mem _ (List.mem_flatMap.2 ⟨y, List.mem_of_getElem? hy, List.mem_cons_of_mem _ (List.mem_cons_of_mem _ (List.mem_flatMap.2 ⟨d, List.mem_of_getElem? hd, hz⟩))⟩)))) ?_
     rintro v post ⟨bt, hbt, rfl, rfl⟩
     show G _ _ _ [_] _
     refine Zg ?_
     refine G_if rfl (fun hc6 => ?_) (fun hc6 => ?_)
     ·
      refine Zi ?_
      refine Zd (l := [0]) rfl ?_
      refine Za rfl rfl rfl rfl (Zk rfl rfl) ?_
      refine Zg ?_
      refine Xa (post := []) Try.func15 rfl (Zy (Yy rfl) Zo) [] rfl ?_
      dsimp only [packed]
      first
        | exact ⟨true, fun h => Bool.noConfusion h, rfl, rfl⟩
        | (refine ⟨_, fun h => ?_, rfl, rfl⟩
           have e7 := hz7 (by assumption)
           have e8 := hz8 (by assumption)
           have e14 := of_decide_eq_false h
           exact ⟨by omega, by omega, by omega, by omega, by omega, by omega, by omega, by omega, all_endP hP (by omega)⟩)
     refine Zu ?_
     refine Zs ?_
     refine Zd (l := [0, 1, 2]) rfl ?_
     refine Za rfl rfl rfl rfl (Zc rfl rfl) ?_
     refine Za rfl rfl rfl rfl ((Yu rfl rfl rfl).int (Zv (by omega))) ?_
     refine Za rfl rfl rfl rfl (Zk rfl rfl) ?_
     refine Zg ?_
     refine Yc ?_ [0] ?_ (ih2 (k + 1) ?_ ?_)
     · (refine (And.intro ?_ (And.intro ?_ (And.intro ?_ (And.intro ?_ trivial)))) <;> first | rfl | exact Zm (by omega) | exact Zm (by simp))
     · exact ⟨_, rfl⟩
     · exact ⟨by omega, all_take hD hd (hbt (by first | assumption | (simpa using ‹_›)))⟩
     · (first | omega | (dsimp only; omega))
    refine Yx rfl ?_
    refine Zs ?_
    refine Zd (l := [0, 1, 2]) rfl ?_
    refine Za rfl rfl rfl rfl (Zc rfl rfl) ?_
    refine Za rfl rfl rfl rfl ((Yu rfl rfl rfl).int (Zv (by omega))) ?_
    refine Za rfl rfl rfl rfl (Zk rfl rfl) ?_
    refine Zg ?_
    refine Yc ?_ [0] ?_ (ih (i + 1) ?_ ?_)
    · (refine (And.intro ?_ (And.intro ?_ (And.intro ?_ trivial))) <;> first | rfl | exact Zm (by omega) | exact Zm (by simp))
    · exact ⟨_, rfl⟩
    · exact ⟨by omega, all_take hP hy ⟨by omega, by omega, all_endP hD (by omega)⟩⟩
    · (first | omega | (dsimp only; omega))
  refine Yx rfl ?_
  refine Zi ?_
  refine Zi ?_
  refine Zd (l := [0]) rfl ?_
  refine Za rfl rfl rfl rfl (Zk rfl rfl) ?_
  refine Zg ?_
  refine Zp ?_
  refine Yc ?he12 [0] ?hl12 (Xc (X := Nat) (fun i => i ≤ x.wo.l.length) (fun i => x.wo.l.length - i) (fun i => [(1, .pointer (some ⟨b1, 0, none⟩)), (2, .bool false), (5, .int .i64 (i : Int))]) (fun i => [(some b1, .cells (cDst x).toArray 38 (0, 0))]) ?round12 0 ?h012)
  case he12 => exact (And.intro rfl (And.intro rfl (And.intro rfl trivial)))
  case hl12 => exact ⟨_, rfl⟩
  case h012 => exact Nat.zero_le _
  case round12 =>
   intro i hJ ih3
   try dsimp only at hJ ih3
   refine Zi ?_
   refine Zi ?_
   refine Zd (l := [0, 1, 2, 3, 4]) rfl ?_
   refine Za rfl rfl rfl rfl (Zc rfl rfl) ?_
   refine Za rfl rfl rfl rfl (Zb (fo := 9) rfl Try.underlying38 rfl i_25 rfl rfl rfl) ?_
   refine Za rfl rfl rfl rfl (Zj rfl rfl (List.mem_append_right _ (Zf 0 rfl)) rfl Try.underlying25 rfl) ?_
   refine Za rfl rfl rfl rfl (Yf rfl rfl Try.underlying25 rfl) ?_
   refine Za rfl rfl rfl rfl (Xh rfl rfl rfl) ?_
   refine Zg ?_
   refine Yl rfl (fun hc2 => ?_) (fun hc2 => ?_)
   ·
    refine Zu ?_
    refine Zi ?_
    refine Zp ?_
    refine Zi ?_
    obtain ⟨y, hy⟩ := Xv (show i < x.wo.l.length by omega)
    obtain ⟨cy, py, qy, ssy⟩ := hx.wo.isS (i := i) (by omega)
    refine Ya (Lq := [_]) (isq := [0]) (m := 16) Ym rfl rfl ?_
    refine Zh 0 rfl rfl rfl rfl (by kernel_rfl) (fun _ _ => Zb (fo := 9) rfl Try.underlying38 rfl i_25 rfl rfl rfl) ?_
    refine Zh 1 rfl rfl rfl rfl (by kernel_rfl) (fun _ _ => Zj rfl rfl (List.mem_append_right _ (Zf 0 rfl)) rfl Try.underlying25 rfl) ?_
    rw [py]
    refine Zh 2 rfl rfl rfl rfl (by kernel_rfl) (fun _ _ => Zc rfl rfl) ?_
    refine Zh 3 rfl rfl rfl rfl (by kernel_rfl) (fun _ _ => Zl (s := 7) rfl Try.underlying25 i_92 rfl rfl rfl rfl (by omega)) ?_
    refine Zh 4 rfl rfl rfl rfl (by kernel_rfl) (fun _ _ => Zb (fo := _ + 3) rfl Try.underlying92 rfl i_9 rfl rfl rfl) ?_
    refine Zh 5 rfl rfl rfl rfl (by kernel_rfl) (fun _ _ => Zj rfl rfl (by rw [← Yg qy]; exact List.mem_append_left _ (by unfold kDst; simp)) (Zr (Ys ssy cWk_len hy 3 (by omega) rfl)) Try.underlying9 rfl) ?_
    refine Zh 6 rfl rfl rfl rfl (by kernel_rfl) (fun _ _ => V_slen rfl rfl Try.underlying9 rfl) ?_
    refine Zh 7 rfl rfl rfl rfl (by kernel_rfl) (fun _ _ => Zb (fo := 9) rfl Try.underlying38 rfl i_25 rfl rfl rfl) ?_
    refine Zh 8 rfl rfl rfl rfl (by kernel_rfl) (fun _ _ => Zj rfl rfl (List.mem_append_right _ (Zf 0 rfl)) rfl Try.underlying25 rfl) ?_
    rw [py]
    refine Zh 9 rfl rfl rfl rfl (by kernel_rfl) (fun _ _ => Zc rfl rfl) ?_
    refine Zh 10 rfl rfl rfl rfl (by kernel_rfl) (fun _ _ => Zl (s := 7) rfl Try.underlying25 i_92 rfl rfl rfl rfl (by omega)) ?_
    refine Zh 11 rfl rfl rfl rfl (by kernel_rfl) (fun _ _ => Zb (fo := _ + 4) rfl Try.underlying92 rfl i_9 rfl rfl rfl) ?_
    refine Zh 12 rfl rfl rfl rfl (by kernel_rfl) (fun _ _ => Zj rfl rfl (by rw [← Yg qy]; exact List.mem_append_left _ (by unfold kDst; simp)) (Zr (Ys ssy cWk_len hy 4 (by omega) rfl)) Try.underlying9 rfl) ?_
    refine Zh 13 rfl rfl rfl rfl (by kernel_rfl) (fun _ _ => V_slen rfl rfl Try.underlying9 rfl) ?_
    refine Zh 14 rfl rfl rfl rfl (by kernel_rfl) (fun _ _ => Yu rfl rfl rfl) ?_
    refine Zh 15 rfl rfl rfl rfl (by kernel_rfl) (fun _ _ => V_gtr rfl rfl rfl) ?_
    refine Zw (by kernel_rfl) ?_
    refine Yl rfl (fun hc3 => ?_) (fun hc3 => ?_)
    ·
     refine Zi ?_
     refine Zd (l := [0]) rfl ?_
     refine Za rfl rfl rfl rfl (Zk rfl rfl) ?_
     refine Zg ?_
     refine Xa (post := []) Try.func15 rfl (Zy (Yy rfl) Zo) [] rfl ?_
     dsimp only [packed]
     first
       | exact ⟨true, fun h => Bool.noConfusion h, rfl, rfl⟩
       | (refine ⟨_, fun h => ?_, rfl, rfl⟩
          have e7 := hz7 (by assumption)
          have e8 := hz8 (by assumption)
          have e14 := of_decide_eq_false h
          exact ⟨by omega, by omega, by omega, by omega, by omega, by omega, by omega, by omega, all_endP hP (by omega)⟩)
    refine Zu ?_
    refine Zs ?_
    refine Zd (l := [0, 1, 2]) rfl ?_
    refine Za rfl rfl rfl rfl (Zc rfl rfl) ?_
    refine Za rfl rfl rfl rfl ((Yu rfl rfl rfl).int (Zv (by omega))) ?_
    refine Za rfl rfl rfl rfl (Zk rfl rfl) ?_
    refine Zg ?_
    refine Yc ?_ [0] ?_ (ih3 (i + 1) ?_ ?_)
    · (refine (And.intro ?_ (And.intro ?_ (And.intro ?_ trivial))) <;> first | rfl | exact Zm (by omega) | exact Zm (by simp))
    · exact ⟨_, rfl⟩
    · omega
    · (first | omega | (dsimp only; omega))
   refine Yx rfl ?_
   refine Zi ?_
   refine Zi ?_
   refine Zd (l := [0]) rfl ?_
   refine Za rfl rfl rfl rfl (Zk rfl rfl) ?_
   refine Zg ?_
   refine Zp ?_
   refine Yc ?he17 [0] ?hl17 (Xc (X := Nat) (fun i => i ≤ x.iv.l.length) (fun i => x.iv.l.length - i) (fun i => [(1, .pointer (some ⟨b1, 0, none⟩)), (2, .bool false), (6, .int .i64 (i : Int))]) (fun i => [(some b1, .cells (cDst x).toArray 38 (0, 0))]) ?round17 0 ?h017)
   case he17 => exact (And.intro rfl (And.intro rfl (And.intro rfl trivial)))
   case hl17 => exact ⟨_, rfl⟩
   case h017 => exact Nat.zero_le _
   case round17 =>
    intro i hJ ih4
    try dsimp only at hJ ih4
    refine Zi ?_
    refine Zi ?_
    refine Zd (l := [0, 1, 2, 3, 4]) rfl ?_
    refine Za rfl rfl rfl rfl (Zc rfl rfl) ?_
    refine Za rfl rfl rfl rfl (Zb (fo := 10) rfl Try.underlying38 rfl i_26 rfl rfl rfl) ?_
    refine Za rfl rfl rfl rfl (Zj rfl rfl (List.mem_append_right _ (Zf 0 rfl)) rfl Try.underlying26 rfl) ?_
    refine Za rfl rfl rfl rfl (Yf rfl rfl Try.underlying26 rfl) ?_
    refine Za rfl rfl rfl rfl (Xh rfl rfl rfl) ?_
    refine Zg ?_
    refine Yl rfl (fun hc3 => ?_) (fun hc3 => ?_)
    ·
     refine Zu ?_
     refine Zi ?_
     refine Zp ?_
     refine Zi ?_
     obtain ⟨y, hy⟩ := Xv (show i < x.iv.l.length by omega)
     obtain ⟨cy, py, qy, ssy⟩ := hx.iv.isS (i := i) (by omega)
     refine Zd (l := [0, 1, 2, 3, 4, 5, 6, 7]) rfl ?_
     refine Za rfl rfl rfl rfl (Zb (fo := 10) rfl Try.underlying38 rfl i_26 rfl rfl rfl) ?_
     refine Za rfl rfl rfl rfl (Zj rfl rfl (List.mem_append_right _ (Zf 0 rfl)) rfl Try.underlying26 rfl) ?_
     rw [py]
     refine Za rfl rfl rfl rfl (Zc rfl rfl) ?_
     refine Za rfl rfl rfl rfl (Zl (s := 5) rfl Try.underlying26 i_95 rfl rfl rfl rfl (by omega)) ?_
     refine Za rfl rfl rfl rfl (Zb (fo := _ + 2) rfl Try.underlying95 rfl i_9 rfl rfl rfl) ?_
     refine Za rfl rfl rfl rfl (Zj rfl rfl (by rw [← Yg qy]; exact List.mem_append_left _ (by unfold kDst; simp)) (Zr (Ys ssy cIv_len hy 2 (by omega) rfl)) Try.underlying9 rfl) ?_
     refine Za rfl rfl rfl rfl (V_slen rfl rfl Try.underlying9 rfl) ?_
     refine Za rfl rfl rfl rfl (V_gtr rfl rfl rfl) ?_
     refine Zg ?_
     refine Yl rfl (fun hc4 => ?_) (fun hc4 => ?_)
     ·
      refine Zi ?_
      refine Zd (l := [0]) rfl ?_
      refine Za rfl rfl rfl rfl (Zk rfl rfl) ?_
      refine Zg ?_
      refine Xa (post := []) Try.func15 rfl (Zy (Yy rfl) Zo) [] rfl ?_
      dsimp only [packed]
      first
        | exact ⟨true, fun h => Bool.noConfusion h, rfl, rfl⟩
        | (refine ⟨_, fun h => ?_, rfl, rfl⟩
           have e7 := hz7 (by assumption)
           have e8 := hz8 (by assumption)
           have e14 := of_decide_eq_false h
           exact ⟨by omega, by omega, by omega, by omega, by omega, by omega, by omega, by omega, all_endP hP (by omega)⟩)
     refine Zu ?_
     refine Zs ?_
     refine Zd (l := [0, 1, 2]) rfl ?_
     refine Za rfl rfl rfl rfl (Zc rfl rfl) ?_
     refine Za rfl rfl rfl rfl ((Yu rfl rfl rfl).int (Zv (by omega))) ?_
     refine Za rfl rfl rfl rfl (Zk rfl rfl) ?_
     refine Zg ?_
     refine Yc ?_ [0] ?_ (ih4 (i + 1) ?_ ?_)
     · (refine (And.intro ?_ (And.intro ?_ (And.intro ?_ trivial))) <;> first | rfl | exact Zm (by omega) | exact Zm (by simp))
     · exact ⟨_, rfl⟩
     · omega
     · (first | omega | (dsimp only; omega))
    refine Yx rfl ?_
    refine Zi ?_
    refine Zd (l := [0, 1, 2, 3, 4, 5, 6, 7, 8, 9, 10, 11, 12, 13, 14, 15, 16, 17, 18, 19, 20, 21, 22, 23, 24, 25, 26, 27, 28, 29, 30, 31, 32, 33, 34, 35, 36, 37, 38, 39, 40, 41, 42, 43, 44]) rfl ?_
    refine Za rfl rfl rfl rfl (Zb (fo := 7) rfl Try.underlying38 rfl i_24 rfl rfl rfl) ?_
    refine Za rfl rfl rfl rfl (Zj rfl rfl (List.mem_append_right _ (Zf 0 rfl)) rfl Try.underlying24 rfl) ?_
    refine Yn (L2 := [_]) rfl rfl rfl rfl rfl rfl Try.call55 (lg_ops x.li hx.li) [] rfl (Yb (List.mem_append_left _ (by unfold kDst; simp)) Yd) ?_
    rintro v post ⟨z7, hz7, rfl, rfl⟩
    show G _ _ _ [_] _
    refine Za rfl rfl rfl rfl (Zc rfl rfl) ?_
    refine G_split 105 rfl (fun hc4 => ?_) (fun hc4 => ?_)
    ·
     refine Zt rfl rfl rfl rfl ?_
     refine Zt rfl rfl rfl rfl ?_
     refine Zt rfl rfl rfl rfl ?_
     refine Za rfl rfl rfl rfl (Yk rfl rfl rfl) ?_
     refine Za rfl rfl rfl rfl (Zc rfl rfl) ?_
     refine Zt rfl rfl rfl rfl ?_
     refine Zt rfl rfl rfl rfl ?_
     refine Zt rfl rfl rfl rfl ?_
     refine Zt rfl rfl rfl rfl ?_
     refine Za rfl rfl rfl rfl (Yk rfl rfl rfl) ?_
     refine Za rfl rfl rfl rfl (Zc rfl rfl) ?_
     refine Zt rfl rfl rfl rfl ?_
     refine Zt rfl rfl rfl rfl ?_
     refine Zt rfl rfl rfl rfl ?_
     refine Zt rfl rfl rfl rfl ?_
     refine Za rfl rfl rfl rfl (Yk rfl rfl rfl) ?_
     refine Za rfl rfl rfl rfl (Zc rfl rfl) ?_
     refine Zt rfl rfl rfl rfl ?_
     refine Zt rfl rfl rfl rfl ?_
     refine Zt rfl rfl rfl rfl ?_
     refine Zt rfl rfl rfl rfl ?_
     refine Za rfl rfl rfl rfl (Yk rfl rfl rfl) ?_
     refine Za rfl rfl rfl rfl (Zc rfl rfl) ?_
     refine Zt rfl rfl rfl rfl ?_
     refine Zt rfl rfl rfl rfl ?_
     refine Zt rfl rfl rfl rfl ?_
     refine Zt rfl rfl rfl rfl ?_
     refine Za rfl rfl rfl rfl (Yk rfl rfl rfl) ?_
     refine Za rfl rfl rfl rfl (Zc rfl rfl) ?_
     refine Zt rfl rfl rfl rfl ?_
     refine Zt rfl rfl rfl rfl ?_
     refine Zt rfl rfl rfl rfl ?_
     refine Zt rfl rfl rfl rfl ?_
     refine Za rfl rfl rfl rfl (Yk rfl rfl rfl) ?_
     refine Za rfl rfl rfl rfl (Zc rfl rfl) ?_
     refine Zt rfl rfl rfl rfl ?_
     refine Zt rfl rfl rfl rfl ?_
     refine Zt rfl rfl rfl rfl ?_
     refine Zt rfl rfl rfl rfl ?_
     refine Za rfl rfl rfl rfl (Yk rfl rfl rfl) ?_
     refine Za rfl rfl rfl rfl (Zk rfl rfl) ?_
     refine Zg ?_
     refine Xa (post := []) Try.func15 rfl (Zy (Yy rfl) Zo) [] rfl ?_
     dsimp only [packed]
     first
       | exact ⟨true, fun h => Bool.noConfusion h, rfl, rfl⟩
       | (refine ⟨_, fun h => ?_, rfl, rfl⟩
          have e7 := hz7 (by assumption)
          have e8 := hz8 (by assumption)
          have e14 := of_decide_eq_false h
          exact ⟨by omega, by omega, by omega, by omega, by omega, by omega, by omega, by omega, all_endP hP (by omega)⟩)
    refine Za rfl rfl rfl rfl (Zb (fo := 8) rfl Try.underlying38 rfl i_24 rfl rfl rfl) ?_
    refine Za rfl rfl rfl rfl (Zj rfl rfl (List.mem_append_right _ (Zf 0 rfl)) rfl Try.underlying24 rfl) ?_
    refine Yn (L2 := [_]) rfl rfl rfl rfl rfl rfl Try.call55 (lg_ops x.en hx.en) [] rfl (Yb (List.mem_append_left _ (by unfold kDst; simp)) Yd) ?_
    rintro v post ⟨z8, hz8, rfl, rfl⟩
    show G _ _ _ [_] _
    refine Za rfl rfl rfl rfl (Xu rfl rfl rfl) ?_
    refine Za rfl rfl rfl rfl (Zc rfl rfl) ?_
    refine G_split 110 rfl (fun hc5 => ?_) (fun hc5 => ?_)
    ·
     refine Zt rfl rfl rfl rfl ?_
     refine Zt rfl rfl rfl rfl ?_
     refine Zt rfl rfl rfl rfl ?_
     refine Zt rfl rfl rfl rfl ?_
     refine Za rfl rfl rfl rfl (Yk rfl rfl rfl) ?_
     refine Za rfl rfl rfl rfl (Zc rfl rfl) ?_
     refine Zt rfl rfl rfl rfl ?_
     refine Zt rfl rfl rfl rfl ?_
     refine Zt rfl rfl rfl rfl ?_
     refine Zt rfl rfl rfl rfl ?_
     refine Za rfl rfl rfl rfl (Yk rfl rfl rfl) ?_
     refine Za rfl rfl rfl rfl (Zc rfl rfl) ?_
     refine Zt rfl rfl rfl rfl ?_
     refine Zt rfl rfl rfl rfl ?_
     refine Zt rfl rfl rfl rfl ?_
     refine Zt rfl rfl rfl rfl ?_
     refine Za rfl rfl rfl rfl (Yk rfl rfl rfl) ?_
     refine Za rfl rfl rfl rfl (Zc rfl rfl) ?_
     refine Zt rfl rfl rfl rfl ?_
     refine Zt rfl rfl rfl rfl ?_
     refine Zt rfl rfl rfl rfl ?_
     refine Zt rfl rfl rfl rfl ?_
     refine Za rfl rfl rfl rfl (Yk rfl rfl rfl) ?_
     refine Za rfl rfl rfl rfl (Zc rfl rfl) ?_
     refine Zt rfl rfl rfl rfl ?_
     refine Zt rfl rfl rfl rfl ?_
     refine Zt rfl rfl rfl rfl ?_
     refine Zt rfl rfl rfl rfl ?_
     refine Za rfl rfl rfl rfl (Yk rfl rfl rfl) ?_
     refine Za rfl rfl rfl rfl (Zc rfl rfl) ?_
     refine Zt rfl rfl rfl rfl ?_
     refine Zt rfl rfl rfl rfl ?_
     refine Zt rfl rfl rfl rfl ?_
     refine Zt rfl rfl rfl rfl ?_
     refine Za rfl rfl rfl rfl (Yk rfl rfl rfl) ?_
     refine Za rfl rfl rfl rfl (Zk rfl rfl) ?_
     refine Zg ?_
     refine Xa (post := []) Try.func15 rfl (Zy (Yy rfl) Zo) [] rfl ?_
     dsimp only [packed]
     first
       | exact ⟨true, fun h => Bool.noConfusion h, rfl, rfl⟩
       | (refine ⟨_, fun h => ?_, rfl, rfl⟩
          have e7 := hz7 (by assumption)
          have e8 := hz8 (by assumption)
          have e14 := of_decide_eq_false h
          exact ⟨by omega, by omega, by omega, by omega, by omega, by omega, by omega, by omega, all_endP hP (by omega)⟩)
    refine Za rfl rfl rfl rfl (Zb (fo := 9) rfl Try.underlying38 rfl i_25 rfl rfl rfl) ?_
    refine Za rfl rfl rfl rfl (Zj rfl rfl (List.mem_append_right _ (Zf 0 rfl)) rfl Try.underlying25 rfl) ?_
    refine Za rfl rfl rfl rfl (Yf rfl rfl Try.underlying25 rfl) ?_
    refine Za rfl rfl rfl rfl (V_gtr rfl rfl rfl) ?_
    refine Za rfl rfl rfl rfl (Xu rfl rfl rfl) ?_
    refine Za rfl rfl rfl rfl (Zc rfl rfl) ?_
    refine Xr 116 rfl (fun hc6 => ?_) (fun hc6 => ?_)
    ·
     refine Zt rfl rfl rfl rfl ?_
     refine Zt rfl rfl rfl rfl ?_
     refine Zt rfl rfl rfl rfl ?_
     refine Zt rfl rfl rfl rfl ?_
     refine Za rfl rfl rfl rfl (Yk rfl rfl rfl) ?_
     refine Za rfl rfl rfl rfl (Zc rfl rfl) ?_
     refine Zt rfl rfl rfl rfl ?_
     refine Zt rfl rfl rfl rfl ?_
     refine Zt rfl rfl rfl rfl ?_
     refine Zt rfl rfl rfl rfl ?_
     refine Za rfl rfl rfl rfl (Yk rfl rfl rfl) ?_
     refine Za rfl rfl rfl rfl (Zc rfl rfl) ?_
     refine Zt rfl rfl rfl rfl ?_
     refine Zt rfl rfl rfl rfl ?_
     refine Zt rfl rfl rfl rfl ?_
     refine Zt rfl rfl rfl rfl ?_
     refine Za rfl rfl rfl rfl (Yk rfl rfl rfl) ?_
     refine Za rfl rfl rfl rfl (Zc rfl rfl) ?_
     refine Zt rfl rfl rfl rfl ?_
     refine Zt rfl rfl rfl rfl ?_
     refine Zt rfl rfl rfl rfl ?_
     refine Zt rfl rfl rfl rfl ?_
     refine Za rfl rfl rfl rfl (Yk rfl rfl rfl) ?_
     refine Za rfl rfl rfl rfl (Zc rfl rfl) ?_
     refine Zt rfl rfl rfl rfl ?_
     refine Zt rfl rfl rfl rfl ?_
     refine Zt rfl rfl rfl rfl ?_
     refine Zt rfl rfl rfl rfl ?_
     refine Za rfl rfl rfl rfl (Yk rfl rfl rfl) ?_
     refine Za rfl rfl rfl rfl (Zk rfl rfl) ?_
     refine Zg ?_
     refine Xa (post := []) Try.func15 rfl (Zy (Yy rfl) Zo) [] rfl ?_
     dsimp only [packed]
     first
       | exact ⟨true, fun h => Bool.noConfusion h, rfl, rfl⟩
       | (refine ⟨_, fun h => ?_, rfl, rfl⟩
          have e7 := hz7 (by assumption)
          have e8 := hz8 (by assumption)
          have e14 := of_decide_eq_false h
          exact ⟨by omega, by omega, by omega, by omega, by omega, by omega, by omega, by omega, all_endP hP (by omega)⟩)
    refine Za rfl rfl rfl rfl (Zb (fo := 10) rfl Try.underlying38 rfl i_26 rfl rfl rfl) ?_
    refine Za rfl rfl rfl rfl (Zj rfl rfl (List.mem_append_right _ (Zf 0 rfl)) rfl Try.underlying26 rfl) ?_
    refine Za rfl rfl rfl rfl (Yf rfl rfl Try.underlying26 rfl) ?_
    refine Za rfl rfl rfl rfl (V_gtr rfl rfl rfl) ?_
    refine Za rfl rfl rfl rfl (Xu rfl rfl rfl) ?_
    refine Za rfl rfl rfl rfl (Zc rfl rfl) ?_
    refine Xr 122 rfl (fun hc7 => ?_) (fun hc7 => ?_)
    ·
     refine Zt rfl rfl rfl rfl ?_
     refine Zt rfl rfl rfl rfl ?_
     refine Zt rfl rfl rfl rfl ?_
     refine Zt rfl rfl rfl rfl ?_
     refine Za rfl rfl rfl rfl (Yk rfl rfl rfl) ?_
     refine Za rfl rfl rfl rfl (Zc rfl rfl) ?_
     refine Zt rfl rfl rfl rfl ?_
     refine Zt rfl rfl rfl rfl ?_
     refine Zt rfl rfl rfl rfl ?_
     refine Zt rfl rfl rfl rfl ?_
     refine Za rfl rfl rfl rfl (Yk rfl rfl rfl) ?_
     refine Za rfl rfl rfl rfl (Zc rfl rfl) ?_
     refine Zt rfl rfl rfl rfl ?_
     refine Zt rfl rfl rfl rfl ?_
     refine Zt rfl rfl rfl rfl ?_
     refine Zt rfl rfl rfl rfl ?_
     refine Za rfl rfl rfl rfl (Yk rfl rfl rfl) ?_
     refine Za rfl rfl rfl rfl (Zc rfl rfl) ?_
     refine Zt rfl rfl rfl rfl ?_
     refine Zt rfl rfl rfl rfl ?_
     refine Zt rfl rfl rfl rfl ?_
     refine Zt rfl rfl rfl rfl ?_
     refine Za rfl rfl rfl rfl (Yk rfl rfl rfl) ?_
     refine Za rfl rfl rfl rfl (Zk rfl rfl) ?_
     refine Zg ?_
     refine Xa (post := []) Try.func15 rfl (Zy (Yy rfl) Zo) [] rfl ?_
     dsimp only [packed]
     first
       | exact ⟨true, fun h => Bool.noConfusion h, rfl, rfl⟩
       | (refine ⟨_, fun h => ?_, rfl, rfl⟩
          have e7 := hz7 (by assumption)
          have e8 := hz8 (by assumption)
          have e14 := of_decide_eq_false h
          exact ⟨by omega, by omega, by omega, by omega, by omega, by omega, by omega, by omega, all_endP hP (by omega)⟩)
    refine Za rfl rfl rfl rfl (Zb (fo := 11) rfl Try.underlying38 rfl i_36 rfl rfl rfl) ?_
    refine Za rfl rfl rfl rfl (Zj rfl rfl (List.mem_append_right _ (Zf 0 rfl)) rfl Try.underlying36 rfl) ?_
    refine Za rfl rfl rfl rfl (Yf rfl rfl Try.underlying36 rfl) ?_
    refine Za rfl rfl rfl rfl (V_gtr rfl rfl rfl) ?_
    refine Za rfl rfl rfl rfl (Xu rfl rfl rfl) ?_
    refine Za rfl rfl rfl rfl (Zc rfl rfl) ?_
    refine Xr 128 rfl (fun hc8 => ?_) (fun hc8 => ?_)
    ·
     refine Zt rfl rfl rfl rfl ?_
     refine Zt rfl rfl rfl rfl ?_
     refine Zt rfl rfl rfl rfl ?_
     refine Zt rfl rfl rfl rfl ?_
     refine Za rfl rfl rfl rfl (Yk rfl rfl rfl) ?_
     refine Za rfl rfl rfl rfl (Zc rfl rfl) ?_
     refine Zt rfl rfl rfl rfl ?_
     refine Zt rfl rfl rfl rfl ?_
     refine Zt rfl rfl rfl rfl ?_
     refine Zt rfl rfl rfl rfl ?_
     refine Za rfl rfl rfl rfl (Yk rfl rfl rfl) ?_
     refine Za rfl rfl rfl rfl (Zc rfl rfl) ?_
     refine Zt rfl rfl rfl rfl ?_
     refine Zt rfl rfl rfl rfl ?_
     refine Zt rfl rfl rfl rfl ?_
     refine Zt rfl rfl rfl rfl ?_
     refine Za rfl rfl rfl rfl (Yk rfl rfl rfl) ?_
     refine Za rfl rfl rfl rfl (Zk rfl rfl) ?_
     refine Zg ?_
     refine Xa (post := []) Try.func15 rfl (Zy (Yy rfl) Zo) [] rfl ?_
     dsimp only [packed]
     first
       | exact ⟨true, fun h => Bool.noConfusion h, rfl, rfl⟩
       | (refine ⟨_, fun h => ?_, rfl, rfl⟩
          have e7 := hz7 (by assumption)
          have e8 := hz8 (by assumption)
          have e14 := of_decide_eq_false h
          exact ⟨by omega, by omega, by omega, by omega, by omega, by omega, by omega, by omega, all_endP hP (by omega)⟩)
    refine Za rfl rfl rfl rfl (Zb (fo := 12) rfl Try.underlying38 rfl i_28 rfl rfl rfl) ?_
    refine Za rfl rfl rfl rfl (Zj rfl rfl (List.mem_append_right _ (Zf 0 rfl)) rfl Try.underlying28 rfl) ?_
    refine Za rfl rfl rfl rfl (Yf rfl rfl Try.underlying28 rfl) ?_
    refine Za rfl rfl rfl rfl (V_gtr rfl rfl rfl) ?_
    refine Za rfl rfl rfl rfl (Xu rfl rfl rfl) ?_
    refine Za rfl rfl rfl rfl (Zc rfl rfl) ?_
    refine Xr 134 rfl (fun hc9 => ?_) (fun hc9 => ?_)
    ·
     refine Zt rfl rfl rfl rfl ?_
     refine Zt rfl rfl rfl rfl ?_
     refine Zt rfl rfl rfl rfl ?_
     refine Zt rfl rfl rfl rfl ?_
     refine Za rfl rfl rfl rfl (Yk rfl rfl rfl) ?_
     refine Za rfl rfl rfl rfl (Zc rfl rfl) ?_
     refine Zt rfl rfl rfl rfl ?_
     refine Zt rfl rfl rfl rfl ?_
     refine Zt rfl rfl rfl rfl ?_
     refine Zt rfl rfl rfl rfl ?_
     refine Za rfl rfl rfl rfl (Yk rfl rfl rfl) ?_
     refine Za rfl rfl rfl rfl (Zk rfl rfl) ?_
     refine Zg ?_
     refine Xa (post := []) Try.func15 rfl (Zy (Yy rfl) Zo) [] rfl ?_
     dsimp only [packed]
     first
       | exact ⟨true, fun h => Bool.noConfusion h, rfl, rfl⟩
       | (refine ⟨_, fun h => ?_, rfl, rfl⟩
          have e7 := hz7 (by assumption)
          have e8 := hz8 (by assumption)
          have e14 := of_decide_eq_false h
          exact ⟨by omega, by omega, by omega, by omega, by omega, by omega, by omega, by omega, all_endP hP (by omega)⟩)
    refine Za rfl rfl rfl rfl (Zb (fo := 13) rfl Try.underlying38 rfl i_29 rfl rfl rfl) ?_
    refine Za rfl rfl rfl rfl (Zj rfl rfl (List.mem_append_right _ (Zf 0 rfl)) rfl Try.underlying29 rfl) ?_
    refine Za rfl rfl rfl rfl (Yf rfl rfl Try.underlying29 rfl) ?_
    refine Za rfl rfl rfl rfl (V_gtr rfl rfl rfl) ?_
    refine Za rfl rfl rfl rfl (Xu rfl rfl rfl) ?_
    refine Za rfl rfl rfl rfl (Zc rfl rfl) ?_
    refine Xr 140 rfl (fun hc10 => ?_) (fun hc10 => ?_)
    ·
     refine Zt rfl rfl rfl rfl ?_
     refine Zt rfl rfl rfl rfl ?_
     refine Zt rfl rfl rfl rfl ?_
     refine Zt rfl rfl rfl rfl ?_
     refine Za rfl rfl rfl rfl (Yk rfl rfl rfl) ?_
     refine Za rfl rfl rfl rfl (Zk rfl rfl) ?_
     refine Zg ?_
     refine Xa (post := []) Try.func15 rfl (Zy (Yy rfl) Zo) [] rfl ?_
     dsimp only [packed]
     first
       | exact ⟨true, fun h => Bool.noConfusion h, rfl, rfl⟩
       | (refine ⟨_, fun h => ?_, rfl, rfl⟩
          have e7 := hz7 (by assumption)
          have e8 := hz8 (by assumption)
          have e14 := of_decide_eq_false h
          exact ⟨by omega, by omega, by omega, by omega, by omega, by omega, by omega, by omega, all_endP hP (by omega)⟩)
    refine Za rfl rfl rfl rfl (Zb (fo := 14) rfl Try.underlying38 rfl i_30 rfl rfl rfl) ?_
    refine Za rfl rfl rfl rfl (Zj rfl rfl (List.mem_append_right _ (Zf 0 rfl)) rfl Try.underlying30 rfl) ?_
    refine Za rfl rfl rfl rfl (Yf rfl rfl Try.underlying30 rfl) ?_
    refine Za rfl rfl rfl rfl (V_gtr rfl rfl rfl) ?_
    refine Za rfl rfl rfl rfl (Xu rfl rfl rfl) ?_
    refine Za rfl rfl rfl rfl (Zk rfl rfl) ?_
    refine Zg ?_
    refine Xa (post := []) Try.func15 rfl (Zy (Yy rfl) Zo) [] rfl ?_
    dsimp only [packed]
    first
      | exact ⟨true, fun h => Bool.noConfusion h, rfl, rfl⟩
      | (refine ⟨_, fun h => ?_, rfl, rfl⟩
         have e7 := hz7 (by assumption)
         have e8 := hz8 (by assumption)
         have e14 := of_decide_eq_false h
         exact ⟨by omega, by omega, by omega, by omega, by omega, by omega, by omega, by omega, all_endP hP (by omega)⟩)

end
end Go.Proofs.Ytjnaeoelnmhjfaa

namespace Go.Proofs.Ytjnaeoelnmhjfaa
open Go.ChangeShapes Go.WideShapes Go.ChangeAt Go.RowKit

theorem Try.ownK : ownKnob Try.prog.godebug = none := by kernel_rfl
theorem Try.laidOutK : laidOutB Try.prog = true := by kernel_rfl

theorem trodAll_below {H : Type} {enc : TypeId × Value → H} {P : Program} (hl : laidOutB P = true) {W W' : World} (hb : Below W.heap.size W W') :
    ∀ (ts : List TypeId) (vs : List Value) (ds : List (DataW H)) (ps : List MemPlace), (∀ t ∈ ts, P.readableRec t = true ∧ t < P.types.size) →
      DataW.TrodAll enc P W 0 (fun _ => true) true ts vs ds ps → DataW.TrodAll enc P W' 0 (fun b => decide (b < W.heap.size)) true ts vs ds ps
  | [], [], [], _, _, h => h
  | [], [], _ :: _, _, _, h => h.elim
  | [], _ :: _, [], _, _, h => h.elim
  | [], _ :: _, _ :: _, _, _, h => h.elim
  | _ :: _, [], [], _, _, h => h.elim
  | _ :: _, [], _ :: _, _, _, h => h.elim
  | _ :: _, _ :: _, [], _, _, h => h.elim
  | t :: ts, v :: vs, d :: ds, ps, hr, h => by
    obtain ⟨p, q, h1, h2, e⟩ := h
    have hlt : ∀ x ∈ p, x.block < W.heap.size := by
      obtain ⟨m, hm⟩ := h1
      exact DataW.trod_lt m _ _ _ hm
    exact ⟨p, q, Below.trod hl (hr t (by simp)).1 (hr t (by simp)).2 h1 hb hlt, trodAll_below hl hb ts vs ds q (fun t ht => hr t (by simp [ht])) h2, e⟩

theorem trodAll_len {H : Type} {enc : TypeId × Value → H} {P : Program} {w : World} {base : Nat} {spare : Nat → Bool} {held : Bool} :
    ∀ (ts : List TypeId) (vs : List Value) (ds : List (DataW H)) (ps : List MemPlace), DataW.TrodAll enc P w base spare held ts vs ds ps → ds.length = ts.length
  | [], [], [], _, _ => rfl
  | [], [], _ :: _, _, h => h.elim
  | [], _ :: _, [], _, h => h.elim
  | [], _ :: _, _ :: _, _, h => h.elim
  | _ :: _, [], [], _, h => h.elim
  | _ :: _, [], _ :: _, _, h => h.elim
  | _ :: _, _ :: _, [], _, h => h.elim
  | _ :: ts, _ :: vs, _ :: ds, _, h => by
    obtain ⟨p, q, _, h2, _⟩ := h
    simp [trodAll_len ts vs ds q h2]

end Go.Proofs.Ytjnaeoelnmhjfaa

set_option linter.unusedSimpArgs false
set_option linter.unusedVariables false
namespace Go.Proofs.Ytjnaeoelnmhjfaa
open Go.ChangeShapes Go.WideShapes Go.ChangeAt Go.RowKit

section
variable {P : Program} {w : World} {r : Reach} {b : Nat}
theorem okv_agg {t : TypeId} {d : TypeDesc} {v : Value} {ts : List TypeId} {s : Nat} (h : Value.okWide P w r b t v) (hu : P.underlying t = some d) (hd : isAggD d = true) (hts : P.cellTypes P.depth t = some ts) (hs : P.cellsOf t = s) (hl : ts.length = s) :
    ∃ cs : List Value, v = .agg cs.toArray ∧ cs.length = s ∧ ∀ (i : Nat) (v : Value) (u : TypeId), cs[i]? = some v → ts[i]? = some u → Cell.okWide P w r b u v := by
  unfold Value.okWide at h
  rw [hu] at h
  have h : ∃ cs, v = .agg cs ∧ cs.size = P.cellsOf t ∧ Row.okWide P w r b t cs := by cases d <;> first | exact h | exact Bool.noConfusion hd
  obtain ⟨cs, rfl, hsz, ts', hts', _, hall⟩ := h
  rw [hts] at hts'
  cases hts'
  refine ⟨cs.toList, rfl, by simp; omega, fun i v u hv hu => ?_⟩
  obtain ⟨u', hu', hc⟩ := hall i v (by simpa using hv)
  have hi : i < ts.length := by
    rcases Nat.lt_or_ge i ts.length with h | h
    · exact h
    · rw [List.getElem?_eq_none h] at hu; cases hu
  rw [Nat.mod_eq_of_lt hi, hu] at hu'
  cases hu'
  exact hc
end
end Go.Proofs.Ytjnaeoelnmhjfaa

set_option linter.unusedSimpArgs false
set_option linter.unusedVariables false
namespace Go.Proofs.Ytjnaeoelnmhjfaa
open Go.ChangeShapes Go.WideShapes Go.ChangeAt Go.RowKit Go.Deep

/-- It can be read, at a type. -/
def Reads (P : Program) (W : World) (t : TypeId) (cs : List Value) : Prop :=
  ∃ (H : Type) (enc : TypeId × Value → H) (n : Nat) (x : DataW H × List MemPlace), DataW.trod enc P W 0 (fun _ => true) true n t cs = some x

section
variable {P : Program} {W : World}
theorem Yj {t : TypeId} {q : IntKind} {cs : List Value} (h : Reads P W t cs) (ht : P.underlying t = some (.int q)) : ∃ n : Int, cs = [.int q n] ∧ q.min ≤ n ∧ n ≤ q.max := by
  obtain ⟨H, enc, n, x, h⟩ := h
  obtain ⟨k, rfl, _, hw⟩ := DataW.trod_int ht h
  simp [Lit.wf] at hw
  exact ⟨k, rfl, hw.1, hw.2⟩
theorem reads_str {t : TypeId} {cs : List Value} (h : Reads P W t cs) (ht : P.underlying t = some .string) : ∃ l : List UInt8, cs = [.string (bs l)] ∧ l.length ≤ 9223372036854775807 := by
  obtain ⟨H, enc, n, x, h⟩ := h
  obtain ⟨s, rfl, _, hs⟩ := DataW.trod_string ht h
  refine ⟨s.data.toList, rfl, ?_⟩
  have : s.data.toList.length = s.size := by simp
  unfold maxLen at hs
  omega
theorem reads_bool {t : TypeId} {cs : List Value} (h : Reads P W t cs) (ht : P.underlying t = some .bool) : ∃ b : Bool, cs = [.bool b] := by
  obtain ⟨H, enc, n, x, h⟩ := h
  obtain ⟨b, rfl, _⟩ := DataW.trod_bool ht h
  exact ⟨b, rfl⟩
end

/-- A block of a slice's, if any, is there. -/
theorem has_cons {W : World} {A : List (Option Nat × Obj)} {ob : Option Nat} {o : Obj} (h : Has W A []) (ho : ∀ b, ob = some b → W.heap[b]? = some o) : Has W ((ob, o) :: A) [] :=
  ⟨fun b x hm => by
    rcases List.mem_cons.1 hm with e | hm
    · injection e with e1 e2
      subst e2
      exact ho b e1.symm
    · exact h.liesA b x hm, .nil, fun _ _ h => (by cases h), fun _ _ _ h => (by cases h)⟩

end Go.Proofs.Ytjnaeoelnmhjfaa

set_option linter.unusedSimpArgs false
set_option linter.unusedVariables false
namespace Go.Proofs.Ytjnaeoelnmhjfaa
open Go.Deep Go.ChangeShapes Go.WideShapes Go.ChangeAt Go.RowKit

end Go.Proofs.Ytjnaeoelnmhjfaa

set_option linter.unusedSimpArgs false
set_option linter.unusedVariables false
namespace Go.Proofs.Ytjnaeoelnmhjfaa
open Go.Deep Go.ChangeShapes Go.WideShapes Go.ChangeAt Go.RowKit
theorem bulk_mem {H : Type} {d : DataW H} {l : List (DataW H)} (h : d ∈ l) : Rows.uptoBulk d ≤ Rows.uptoBulkAll l := by
  induction l with
  | nil => cases h
  | cons x r ih =>
    simp only [Rows.uptoBulkAll]
    rcases List.mem_cons.1 h with e | e
    · subst e; omega
    · have := ih e; omega
theorem bulk_one {H : Type} (d : DataW H) : 1 ≤ Rows.uptoBulk d := by
  cases d with
  | lit l => cases l <;> simp [Rows.uptoBulk]
  | nil => simp [Rows.uptoBulk]
  | ptr d => simp [Rows.uptoBulk]
  | slice elems spare => simp [Rows.uptoBulk]
  | agg parts => simp [Rows.uptoBulk]
  | iface t d => simp [Rows.uptoBulk]
  | map entries => simp [Rows.uptoBulk]
  | held h => simp [Rows.uptoBulk]
theorem bulk_len {H : Type} (l : List (DataW H)) : l.length ≤ Rows.uptoBulkAll l := by
  induction l with
  | nil => simp [Rows.uptoBulkAll]
  | cons x r ih => have := bulk_one x; simp only [Rows.uptoBulkAll, List.length_cons]; omega
/-- It can be read, at a type, and its bulk is bounded. -/
def ReadsB (P : Program) (W : World) (t : TypeId) (cs : List Value) (B : Nat) : Prop :=
  ∃ (H : Type) (enc : TypeId × Value → H) (n : Nat) (x : DataW H × List MemPlace), DataW.trod enc P W 0 (fun _ => true) true n t cs = some x ∧ Rows.uptoBulk x.1 ≤ B
section
variable {P : Program} {W : World} {B : Nat}
theorem has_all : ∀ (L : List (Option Nat × Obj)), (∀ x ∈ L, ∀ b, x.1 = some b → W.heap[b]? = some x.2) → Has W L []
  | [], _ => has_nil _
  | x :: r, h => has_cons (has_all r (fun y hy => h y (List.mem_cons_of_mem _ hy))) (h x List.mem_cons_self)
theorem ReadsB.reads {t : TypeId} {cs : List Value} (h : ReadsB P W t cs B) : Reads P W t cs := by
  obtain ⟨H, enc, n, x, h, _⟩ := h
  exact ⟨H, enc, n, x, h⟩
theorem rb_str {t : TypeId} {cs : List Value} (h : ReadsB P W t cs B) (ht : P.underlying t = some .string) : ∃ l : List UInt8, cs = [.string (bs l)] ∧ l.length ≤ 9223372036854775807 ∧ l.length ≤ B := by
  obtain ⟨l, rfl, hl⟩ := reads_str h.reads ht
  obtain ⟨H, enc, n, x, h, hw⟩ := h
  obtain ⟨s, e, hx, hs⟩ := DataW.trod_string ht h
  simp only [List.cons.injEq, Value.string.injEq, and_true] at e
  subst e
  rw [hx] at hw
  refine ⟨l, rfl, hl, ?_⟩
  simp only [Rows.uptoBulk, bs] at hw
  omega
theorem Yi {t : TypeId} {fs : Array Field} {cs vs : List Value} {s : Nat} (h : ReadsB P W t cs B) (ht : P.underlying t = some (.struct fs)) (i : Nat) (f : Field) (hi : fs[i]? = some f) (hs : P.cellsOf f.type = s) (hv : (cs.drop f.offset).take s = vs) : ReadsB P W f.type vs B := by
  obtain ⟨H, enc, n, x, h, hw⟩ := h
  obtain ⟨xs, k, _, hx, hl, hlen, hf⟩ := DataW.trod_struct ht h
  have hlt : i < xs.length := by rw [hlen]; exact (Array.getElem?_eq_some_iff.1 hi).1
  have h1 := hf i f hi
  rw [List.getElem?_eq_getElem hlt, hs, hv] at h1
  refine ⟨H, enc, k, xs[i], h1, ?_⟩
  rw [hx] at hw
  simp only [Rows.uptoBulk] at hw
  have := bulk_mem (d := xs[i].1) (l := xs.map (·.1)) (List.mem_map.2 ⟨xs[i], List.getElem_mem hlt, rfl⟩)
  omega
theorem rb_slice2 {t e : TypeId} {cs : List Value} {sz : Nat} (h : ReadsB P W t cs B) (ht : P.underlying t = some (.slice e)) (hsz : P.cellsOf e = sz) (hz : 0 < sz) {α : Type} [Inhabited α] (f : α → List Value) (hf : ∀ a, (f a).length = sz) (good : α → Prop)
    (hel : ∀ es, es.length = sz → ReadsB P W e es B → ∃ a, es = f a ∧ good a) :
    ∃ (p : Option Addr) (ob : Option Nat) (off cap : Nat) (c : Array Value) (T : TypeId) (fr : Nat × Nat) (l : List α), cs = [.slice p l.length cap] ∧ l.length ≤ cap ∧ cap ≤ 9223372036854775807 ∧ l.length ≤ B ∧ ((p = ob.map (fun b => ⟨b, off, none⟩) ∧ Sees sz ob off cap c (l.flatMap f) l.length) ∨ (l = [] ∧ cap = 0)) ∧ (∀ a ∈ l, good a) ∧ ∀ b, ob = some b → W.heap[b]? = some (.cells c T fr) := by
  obtain ⟨H, enc, n, x, h, hbu⟩ := h
  rcases Go.Deep.open_slice ht h with ⟨h0, _⟩ | ⟨a, len, cap, m, n, D, Pl, hcs, _, hl, hm, hmm, hxx, hx⟩
  · exact ⟨none, none, 0, 0, #[], 0, (0, 0), [], h0, Nat.le_refl _, by omega, by simp, .inr ⟨rfl, rfl⟩, by simp, fun b hb => by cases hb⟩
  · simp at hmm
    subst hmm
    have hDB : ∀ i, i < len → Rows.uptoBulk (D i) ≤ B := fun i hi => by
      rw [hxx] at hbu
      simp only [Rows.uptoBulk] at hbu
      have := bulk_mem (d := D i) (l := (List.range len).map D) (List.mem_map.2 ⟨i, List.mem_range.2 hi, rfl⟩)
      omega
    have hlB : len ≤ B := by
      rw [hxx] at hbu
      simp only [Rows.uptoBulk] at hbu
      have := bulk_len ((List.range len).map D)
      simp only [List.length_map, List.length_range] at this
      omega
    have hm' : m ≤ 9223372036854775807 := by unfold maxLen at hm; omega
    rcases Nat.eq_zero_or_pos m with h0 | hpos
    · subst h0
      have hl0 : len = 0 := by omega
      subst hl0
      exact ⟨some a, none, 0, 0, #[], 0, (0, 0), [], hcs, Nat.le_refl _, by omega, by simp, .inr ⟨rfl, rfl⟩, by simp, fun b hb => by cases hb⟩
    · obtain ⟨bb, off, spot⟩ := a
      have hex : spot = none ∧ ∃ c T fr, W.heap[bb]? = some (.cells c T fr) := by
        obtain ⟨es, h1, _⟩ := hx 0 hpos
        rw [hsz] at h1
        obtain ⟨_, hlen, hc⟩ := World.cells?_some h1
        have h2 := hc 0 hz
        rw [List.getElem?_eq_getElem (by omega)] at h2
        cases spot with
        | none =>
          rw [addr_add, addr_add] at h2
          unfold World.cell? at h2
          split at h2
          · rename_i c T fr hb
            exact ⟨rfl, c, T, fr, hb⟩
          · cases h2
        | some s =>
          exfalso
          unfold World.cell? at h2
          split at h2
          · simp [Addr.add] at h2
          · cases h2
      obtain ⟨rfl, c, T, fr, hb⟩ := hex
      have hok : ∀ i, i < len → ∃ a : α, (∀ j, j < sz → c[off + i * sz + j]? = (f a)[j]?) ∧ good a := fun i hi => by
        obtain ⟨es, h1, h2⟩ := hx i (by omega)
        rw [hsz] at h1
        obtain ⟨_, hlen, hc⟩ := World.cells?_some h1
        obtain ⟨a, rfl, hg⟩ := hel es hlen ⟨H, enc, n, _, h2, hDB i hi⟩
        refine ⟨a, fun j hj => ?_, hg⟩
        have := hc j hj
        rw [addr_add, addr_add, cell_of_row W bb _ c T fr hb] at this
        exact this
      obtain ⟨F, hF⟩ := choose_lt hok
      have hll : ((List.range len).map F).length = len := by simp
      refine ⟨some ⟨bb, off, none⟩, some bb, off, m, c, T, fr, (List.range len).map F, by rw [hll]; exact hcs, by rw [hll]; exact hl, hm', by rw [hll]; exact hlB, .inl ⟨rfl, by rw [flat_len f hf, hll], by rw [hll]; exact hl, hm', ?_, fun h => by cases h⟩, fun a ha => ?_, fun b hb' => by cases hb'; exact hb⟩
      rotate_left
      · obtain ⟨i, hi, rfl⟩ := List.mem_map.1 ha
        exact (hF i (List.mem_range.1 hi)).2
      rw [hll]
      apply List.ext_getElem?
      intro k
      have hfl : (((List.range len).map F).flatMap f).length = len * sz := by rw [flat_len f hf, hll]
      rcases Nat.lt_or_ge k (len * sz) with hk | hk
      · have hi : k / sz < len := Nat.div_lt_of_lt_mul (by rw [Nat.mul_comm]; exact hk)
        have hj : k % sz < sz := Nat.mod_lt _ hz
        have hkk : k = k / sz * sz + k % sz := by have := Nat.div_add_mod k sz; rw [Nat.mul_comm] at this; omega
        have h1 := (hF (k / sz) hi).1 (k % sz) hj
        have h2 := flat_at f hf ((List.range len).map F) (k / sz) (F (k / sz)) (by simp [hi])
        have h3 : (((List.range len).map F).flatMap f)[k]? = (f (F (k / sz)))[k % sz]? := by
          rw [← h2, List.getElem?_take, if_pos hj, List.getElem?_drop, ← hkk]
        rw [h3, ← h1, List.getElem?_take, if_pos hk, List.getElem?_drop]
        have e : off + k / sz * sz + k % sz = off + k := by omega
        rw [e]
        simp
      · rw [List.getElem?_eq_none (by rw [List.length_take]; omega), List.getElem?_eq_none (by omega)]
end
def LawWalkU (X : World → Prop) (B : Nat) (f : FuncId) (F : Func) : Prop :=
  ∀ (H : Type) (enc : TypeId × Value → H) (W : World) (base : Nat) (args : Array Value) (ds : List (DataW H)) (p : List MemPlace), X W → Rows.uptoBulkAll ds ≤ B →
    (∀ (j : Nat) t v, F.params[j]? = some t → args[j]? = some v → Value.okWide Try.prog W .any base t v) →
    DataW.TrodAll enc Try.prog W 0 (fun _ => true) true F.params.toList args.toList ds p →
    Calls Try.prog f args W fun e W' => e = .returned (.bool true) ∧ Below W.heap.size W W'
set_option maxRecDepth 100000 in
theorem law_endU {f : FuncId} {F : Func} {s : ChangeSpec} {H : Type} {enc : TypeId × Value → H} {B : Nat}
    (hvars : s.vars = []) (hrt : F.resultTypes.toList = [4]) (hrs : F.resultTypes.size = 1)
    (hread : ∀ t ∈ F.params.toList, Try.prog.readableRec t = true ∧ t < Try.prog.types.size)
    (hspec : ∀ ds : List (DataW H), ds.length = F.params.toList.length → s.fn H (ds ++ []) = { results := [.lit (.bool true)], args := ds })
    {X : World → Prop} (walk : LawWalkU X B f F) (W : World) (base : Nat) (args : Array Value) (ds gs : List (DataW H)) (before : List MemPlace)
    (hval : ∀ (j : Nat) t v, F.params[j]? = some t → args[j]? = some v → Value.okWide Try.prog W .any base t v)
    (hW : DataW.Whole enc Try.prog F.params.toList s.vars false W args.toList ds gs before) (hX : X W) (hbu : Rows.uptoBulkAll (ds ++ gs) ≤ B) :
    Calls Try.prog f args W fun e W' => ∃ v, e = .returned v ∧ s.post enc Try.prog F false true false false W args v W' := by
  have hW' := hW
  obtain ⟨p, q, hA, hV, rfl, hfz, hnd⟩ := hW
  rw [hvars] at hV
  obtain ⟨rfl, rfl⟩ := trodVars_none hV
  have hlen := trodAll_len _ _ _ _ hA
  rw [List.append_nil] at hbu
  refine (walk H enc W base args ds p hX hbu hval hA).mono fun e W' ⟨he, hb⟩ => ?_
  subst he
  refine ⟨_, rfl, ds, [], _, [], p, [], hW', ?_, ?_, ?_, hb.frame _, fun h => by cases h⟩
  rotate_left
  · rw [hspec ds hlen]
    exact trodAll_below Try.laidOutK hb _ _ _ _ hread hA
  · rw [hvars, hspec ds hlen]
    rfl
  · rw [hspec ds hlen, hrt, hrs]
    exact trodAll_mk1 (shut_bool Try.underlying4 _)
set_option maxRecDepth 100000 in
/-- A law's walk by a contract over its arguments, for what can be read at their types, of a bulk that is bounded. -/
theorem lawwalk_readsU {X : World → Prop} {B : Nat} {f : FuncId} {F : Func} (h : ∀ (W : World) (base : Nat) (args : Array Value), X W → args.size = F.params.size → (∀ (j : Nat) t v, F.params[j]? = some t → args[j]? = some v → Value.okWide Try.prog W .any base t v ∧ ReadsB Try.prog W t v.cells.toList B) → ∃ A, Has W A [] ∧ Ct Try.prog f args.toList A [] (fun v post => v = .bool true ∧ post = [])) : LawWalkU X B f F := by
  intro H enc W base args ds p hX hwt hval hA
  have hlen : ∀ (ts : List TypeId) (vs : List Value) (ds : List (DataW H)) (ps : List MemPlace), DataW.TrodAll enc Try.prog W 0 (fun _ => true) true ts vs ds ps → Rows.uptoBulkAll ds ≤ B → vs.length = ts.length ∧ ∀ (j : Nat) t v, ts[j]? = some t → vs[j]? = some v → ReadsB Try.prog W t v.cells.toList B := by
    intro ts
    induction ts with
    | nil =>
      intro vs ds ps h hw
      cases vs with
      | nil => exact ⟨rfl, fun j t v ht => by simp at ht⟩
      | cons v vs => cases ds <;> exact h.elim
    | cons t ts ih =>
      intro vs ds ps h hw
      cases vs with
      | nil => cases ds <;> exact h.elim
      | cons v vs =>
        cases ds with
        | nil => exact h.elim
        | cons d ds =>
          obtain ⟨p, q, h1, h2, _⟩ := h
          simp only [Rows.uptoBulkAll] at hw
          obtain ⟨i1, i2⟩ := ih vs ds q h2 (by omega)
          refine ⟨by simp [i1], fun j t' v' ht hv => ?_⟩
          cases j with
          | zero =>
            simp at ht hv
            subst ht hv
            obtain ⟨m, hm⟩ := h1
            exact ⟨H, enc, m, _, by simpa using hm, by show Rows.uptoBulk d ≤ B; omega⟩
          | succ j => exact i2 j t' v' (by simpa using ht) (by simpa using hv)
  have hl := hlen _ _ _ _ hA hwt
  obtain ⟨A, hw, hc⟩ := h W base args hX (by simpa using hl.1) (fun j t v ht hv => ⟨hval j t v ht hv, hl.2 j t v (by simpa using ht) (by simpa using hv)⟩)
  have := below_of_ct hc W hw
  rwa [Array.toArray_toList] at this
end Go.Proofs.Ytjnaeoelnmhjfaa

set_option linter.unusedSimpArgs false
set_option linter.unusedVariables false
namespace Go.Proofs.Ytjnaeoelnmhjfaa
open Go.Deep Go.ChangeShapes Go.WideShapes Go.ChangeAt Go.RowKit
theorem rb_elem {P : Program} {W : World} {B : Nat} {t e : TypeId} {cs vs : List Value} {n s : Nat} (h : ReadsB P W t cs B) (ht : P.underlying t = some (.array n e)) (i : Nat) (hi : i < n) (hs : P.cellsOf e = s) (hv : (cs.drop (i * s)).take s = vs) : ReadsB P W e vs B := by
  obtain ⟨H, enc, m, x, h, hw⟩ := h
  obtain ⟨xs, k, _, hx, hl, hlen, hf⟩ := DataW.trod_array ht h
  have hlt : i < xs.length := by rw [hlen]; exact hi
  have h1 := hf i hi
  rw [List.getElem?_eq_getElem hlt, hs, hv] at h1
  refine ⟨H, enc, k, xs[i], h1, ?_⟩
  rw [hx] at hw
  simp only [Rows.uptoBulk] at hw
  have := bulk_mem (d := xs[i].1) (l := xs.map (·.1)) (List.mem_map.2 ⟨xs[i], List.getElem_mem hlt, rfl⟩)
  omega
end Go.Proofs.Ytjnaeoelnmhjfaa

set_option linter.unusedSimpArgs false
set_option linter.unusedVariables false
namespace Go.Proofs.Ytjnaeoelnmhjfaa
open Go Go.ChangeShapes Go.WideShapes Go.ChangeAt Go.RowKit

section


instance {α : Type} : Inhabited (Ins α) := ⟨zIns α⟩
instance : Inhabited Fl := ⟨⟨0, 0, 0, default⟩⟩
instance : Inhabited Dt := ⟨⟨0, 0, 0, 0, default, false⟩⟩
instance : Inhabited Ds := ⟨⟨0, default, false⟩⟩
instance : Inhabited Dp := ⟨⟨[], 0, default, default⟩⟩
def TxOp (x : Op) : Prop := x.v3.length ≤ 1048576 ∧ x.v4.length ≤ 1048576 ∧ x.v5.length ≤ 1048576
def TxWk (x : Wk) : Prop := x.v3.length ≤ 1048576 ∧ x.v4.length ≤ 1048576
def TxIv (x : Iv) : Prop := x.v2.length ≤ 1048576
def TxHr (x : Hr) : Prop := x.v0.length ≤ 1048576
def TxLt (x : Lt) : Prop := x.v4.length ≤ 1048576
def TxWt (x : Wt) : Prop := x.v0.length ≤ 1048576
def TxIt (x : It) : Prop := True
theorem vlen_2 {es : List Value} (h : es.length = 2) : ∃ v0 v1, es = [v0, v1] := by
  match es, h with
  | [v0, v1], _ => exact ⟨v0, v1, rfl⟩
theorem vlen_3 {es : List Value} (h : es.length = 3) : ∃ v0 v1 v2, es = [v0, v1, v2] := by
  match es, h with
  | [v0, v1, v2], _ => exact ⟨v0, v1, v2, rfl⟩
theorem vlen_4 {es : List Value} (h : es.length = 4) : ∃ v0 v1 v2 v3, es = [v0, v1, v2, v3] := by
  match es, h with
  | [v0, v1, v2, v3], _ => exact ⟨v0, v1, v2, v3, rfl⟩
theorem vlen_5 {es : List Value} (h : es.length = 5) : ∃ v0 v1 v2 v3 v4, es = [v0, v1, v2, v3, v4] := by
  match es, h with
  | [v0, v1, v2, v3, v4], _ => exact ⟨v0, v1, v2, v3, v4, rfl⟩
theorem vlen_6 {es : List Value} (h : es.length = 6) : ∃ v0 v1 v2 v3 v4 v5, es = [v0, v1, v2, v3, v4, v5] := by
  match es, h with
  | [v0, v1, v2, v3, v4, v5], _ => exact ⟨v0, v1, v2, v3, v4, v5, rfl⟩
theorem vlen_7 {es : List Value} (h : es.length = 7) : ∃ v0 v1 v2 v3 v4 v5 v6, es = [v0, v1, v2, v3, v4, v5, v6] := by
  match es, h with
  | [v0, v1, v2, v3, v4, v5, v6], _ => exact ⟨v0, v1, v2, v3, v4, v5, v6, rfl⟩
theorem vlen_15 {es : List Value} (h : es.length = 15) : ∃ v0 v1 v2 v3 v4 v5 v6 v7 v8 v9 v10 v11 v12 v13 v14, es = [v0, v1, v2, v3, v4, v5, v6, v7, v8, v9, v10, v11, v12, v13, v14] := by
  match es, h with
  | [v0, v1, v2, v3, v4, v5, v6, v7, v8, v9, v10, v11, v12, v13, v14], _ => exact ⟨v0, v1, v2, v3, v4, v5, v6, v7, v8, v9, v10, v11, v12, v13, v14, rfl⟩
theorem vlen_17 {es : List Value} (h : es.length = 17) : ∃ v0 v1 v2 v3 v4 v5 v6 v7 v8 v9 v10 v11 v12 v13 v14 v15 v16, es = [v0, v1, v2, v3, v4, v5, v6, v7, v8, v9, v10, v11, v12, v13, v14, v15, v16] := by
  match es, h with
  | [v0, v1, v2, v3, v4, v5, v6, v7, v8, v9, v10, v11, v12, v13, v14, v15, v16], _ => exact ⟨v0, v1, v2, v3, v4, v5, v6, v7, v8, v9, v10, v11, v12, v13, v14, v15, v16, rfl⟩
theorem vlen_18 {es : List Value} (h : es.length = 18) : ∃ v0 v1 v2 v3 v4 v5 v6 v7 v8 v9 v10 v11 v12 v13 v14 v15 v16 v17, es = [v0, v1, v2, v3, v4, v5, v6, v7, v8, v9, v10, v11, v12, v13, v14, v15, v16, v17] := by
  match es, h with
  | [v0, v1, v2, v3, v4, v5, v6, v7, v8, v9, v10, v11, v12, v13, v14, v15, v16, v17], _ => exact ⟨v0, v1, v2, v3, v4, v5, v6, v7, v8, v9, v10, v11, v12, v13, v14, v15, v16, v17, rfl⟩
structure TxDst (x : Dst) : Prop where
  li : ∀ y ∈ x.li.l, TxOp y
  en : ∀ y ∈ x.en.l, TxOp y
  wo : ∀ y ∈ x.wo.l, TxWk y
  iv : ∀ y ∈ x.iv.l, TxIv y
  po : ∀ y ∈ x.po.l, y.n.length ≤ 1048576
  hi : ∀ y ∈ x.hi.l, TxHr y
  le : ∀ y ∈ x.le.l, TxLt y
  wa : ∀ y ∈ x.wa.l, TxWt y
set_option maxRecDepth 100000 in
theorem it_of {W : World} {es : List Value} (hl : es.length = 2) (h : ReadsB Try.prog W 262 es 1048576) : ∃ a : It, es = cIt a ∧ OkIt a ∧ TxIt a := by
  obtain ⟨v0, v1, rfl⟩ : ∃ v0 v1, es = [v0, v1] := vlen_2 hl
  obtain ⟨n0, e0, x0, y0⟩ := Yj (Yi (s := 1) (vs := [v0]) h Try.underlying262 0 _ rfl (by kernel_rfl) rfl).reads Try.underlying3
  obtain ⟨n1, e1, x1, y1⟩ := Yj (Yi (s := 1) (vs := [v1]) h Try.underlying262 1 _ rfl (by kernel_rfl) rfl).reads Try.underlying3
  simp only [List.cons.injEq, and_true] at e0 e1
  subst e0 e1
  exact ⟨⟨n0, n1⟩, rfl, trivial, trivial⟩
set_option maxRecDepth 100000 in
theorem op_of {W : World} {es : List Value} (hl : es.length = 18) (h : ReadsB Try.prog W 137 es 1048576) : ∃ a : Op, es = cOp a ∧ OkOp a ∧ TxOp a := by
  obtain ⟨v0, v1, v2, v3, v4, v5, v6, v7, v8, v9, v10, v11, v12, v13, v14, v15, v16, v17, rfl⟩ : ∃ v0 v1 v2 v3 v4 v5 v6 v7 v8 v9 v10 v11 v12 v13 v14 v15 v16 v17, es = [v0, v1, v2, v3, v4, v5, v6, v7, v8, v9, v10, v11, v12, v13, v14, v15, v16, v17] := vlen_18 hl
  obtain ⟨n0, e0, x0, y0⟩ := Yj (Yi (s := 1) (vs := [v0]) h Try.underlying137 0 _ rfl (by kernel_rfl) rfl).reads Try.underlying3
  obtain ⟨n1, e1, x1, y1⟩ := Yj (Yi (s := 1) (vs := [v1]) h Try.underlying137 1 _ rfl (by kernel_rfl) rfl).reads Try.underlying3
  obtain ⟨n2, e2, x2, y2⟩ := Yj (Yi (s := 1) (vs := [v2]) h Try.underlying137 2 _ rfl (by kernel_rfl) rfl).reads Try.underlying3
  have hR3 := (Yi (s := 3) (vs := [v3, v4, v5]) h Try.underlying137 3 _ rfl (by kernel_rfl) rfl)
  obtain ⟨n3, e3, x3, y3⟩ := rb_str (Yi (s := 1) (vs := [v3]) hR3 Try.underlying135 0 _ rfl (by kernel_rfl) rfl) Try.underlying9
  obtain ⟨n4, e4, x4, y4⟩ := rb_str (Yi (s := 1) (vs := [v4]) hR3 Try.underlying135 1 _ rfl (by kernel_rfl) rfl) Try.underlying9
  obtain ⟨n5, e5, x5, y5⟩ := rb_str (Yi (s := 1) (vs := [v5]) hR3 Try.underlying135 2 _ rfl (by kernel_rfl) rfl) Try.underlying9
  obtain ⟨n6, e6, x6, y6⟩ := Yj (Yi (s := 1) (vs := [v6]) h Try.underlying137 4 _ rfl (by kernel_rfl) rfl).reads Try.underlying3
  obtain ⟨n7, e7, x7, y7⟩ := Yj (Yi (s := 1) (vs := [v7]) h Try.underlying137 5 _ rfl (by kernel_rfl) rfl).reads Try.underlying3
  obtain ⟨n8, e8, x8, y8⟩ := Yj (Yi (s := 1) (vs := [v8]) h Try.underlying137 6 _ rfl (by kernel_rfl) rfl).reads Try.underlying3
  obtain ⟨n9, e9, x9, y9⟩ := Yj (Yi (s := 1) (vs := [v9]) h Try.underlying137 7 _ rfl (by kernel_rfl) rfl).reads Try.underlying3
  obtain ⟨n10, e10, x10, y10⟩ := Yj (Yi (s := 1) (vs := [v10]) h Try.underlying137 8 _ rfl (by kernel_rfl) rfl).reads Try.underlying3
  obtain ⟨n11, e11, x11, y11⟩ := Yj (Yi (s := 1) (vs := [v11]) h Try.underlying137 9 _ rfl (by kernel_rfl) rfl).reads Try.underlying3
  obtain ⟨n12, e12, x12, y12⟩ := Yj (Yi (s := 1) (vs := [v12]) h Try.underlying137 10 _ rfl (by kernel_rfl) rfl).reads Try.underlying3
  obtain ⟨n13, e13, x13, y13⟩ := Yj (Yi (s := 1) (vs := [v13]) h Try.underlying137 11 _ rfl (by kernel_rfl) rfl).reads Try.underlying3
  obtain ⟨n14, e14, x14, y14⟩ := Yj (Yi (s := 1) (vs := [v14]) h Try.underlying137 12 _ rfl (by kernel_rfl) rfl).reads Try.underlying3
  obtain ⟨n15, e15, x15, y15⟩ := Yj (Yi (s := 1) (vs := [v15]) h Try.underlying137 13 _ rfl (by kernel_rfl) rfl).reads Try.underlying23
  obtain ⟨n16, e16, x16, y16⟩ := Yj (Yi (s := 1) (vs := [v16]) h Try.underlying137 14 _ rfl (by kernel_rfl) rfl).reads Try.underlying23
  obtain ⟨n17, e17, x17, y17⟩ := Yj (Yi (s := 1) (vs := [v17]) h Try.underlying137 15 _ rfl (by kernel_rfl) rfl).reads Try.underlying23
  have x15 : (0 : Int) ≤ n15 := x15
  have y15 : n15 ≤ (18446744073709551615 : Int) := y15
  obtain ⟨n15, rfl⟩ := Int.eq_ofNat_of_zero_le x15
  have x16 : (0 : Int) ≤ n16 := x16
  have y16 : n16 ≤ (18446744073709551615 : Int) := y16
  obtain ⟨n16, rfl⟩ := Int.eq_ofNat_of_zero_le x16
  have x17 : (0 : Int) ≤ n17 := x17
  have y17 : n17 ≤ (18446744073709551615 : Int) := y17
  obtain ⟨n17, rfl⟩ := Int.eq_ofNat_of_zero_le x17
  simp only [List.cons.injEq, and_true] at e0 e1 e2 e3 e4 e5 e6 e7 e8 e9 e10 e11 e12 e13 e14 e15 e16 e17
  subst e0 e1 e2 e3 e4 e5 e6 e7 e8 e9 e10 e11 e12 e13 e14 e15 e16 e17
  exact ⟨⟨n0, n1, n2, n3, n4, n5, n6, n7, n8, n9, n10, n11, n12, n13, n14, n15, n16, n17⟩, rfl, (by show n15 < 18446744073709551616 ∧ n16 < 18446744073709551616 ∧ n17 < 18446744073709551616; omega), ⟨y3, y4, y5⟩⟩
set_option maxRecDepth 100000 in
theorem wk_of {W : World} {es : List Value} (hl : es.length = 7) (h : ReadsB Try.prog W 92 es 1048576) : ∃ a : Wk, es = cWk a ∧ OkWk a ∧ TxWk a := by
  obtain ⟨v0, v1, v2, v3, v4, v5, v6, rfl⟩ : ∃ v0 v1 v2 v3 v4 v5 v6, es = [v0, v1, v2, v3, v4, v5, v6] := vlen_7 hl
  obtain ⟨n0, e0, x0, y0⟩ := Yj (Yi (s := 1) (vs := [v0]) h Try.underlying92 0 _ rfl (by kernel_rfl) rfl).reads Try.underlying3
  obtain ⟨n1, e1, x1, y1⟩ := Yj (Yi (s := 1) (vs := [v1]) h Try.underlying92 1 _ rfl (by kernel_rfl) rfl).reads Try.underlying3
  obtain ⟨n2, e2, x2, y2⟩ := Yj (Yi (s := 1) (vs := [v2]) h Try.underlying92 2 _ rfl (by kernel_rfl) rfl).reads Try.underlying3
  obtain ⟨n3, e3, x3, y3⟩ := rb_str (Yi (s := 1) (vs := [v3]) h Try.underlying92 3 _ rfl (by kernel_rfl) rfl) Try.underlying9
  obtain ⟨n4, e4, x4, y4⟩ := rb_str (Yi (s := 1) (vs := [v4]) h Try.underlying92 4 _ rfl (by kernel_rfl) rfl) Try.underlying9
  obtain ⟨n5, e5⟩ := reads_bool (Yi (s := 1) (vs := [v5]) h Try.underlying92 5 _ rfl (by kernel_rfl) rfl).reads Try.underlying4
  obtain ⟨n6, e6, x6, y6⟩ := Yj (Yi (s := 1) (vs := [v6]) h Try.underlying92 6 _ rfl (by kernel_rfl) rfl).reads Try.underlying23
  have x6 : (0 : Int) ≤ n6 := x6
  have y6 : n6 ≤ (18446744073709551615 : Int) := y6
  obtain ⟨n6, rfl⟩ := Int.eq_ofNat_of_zero_le x6
  simp only [List.cons.injEq, and_true] at e0 e1 e2 e3 e4 e5 e6
  subst e0 e1 e2 e3 e4 e5 e6
  exact ⟨⟨n0, n1, n2, n3, n4, n5, n6⟩, rfl, (by show n6 < 18446744073709551616; omega), ⟨y3, y4⟩⟩
set_option maxRecDepth 100000 in
theorem iv_of {W : World} {es : List Value} (hl : es.length = 5) (h : ReadsB Try.prog W 95 es 1048576) : ∃ a : Iv, es = cIv a ∧ OkIv a ∧ TxIv a := by
  obtain ⟨v0, v1, v2, v3, v4, rfl⟩ : ∃ v0 v1 v2 v3 v4, es = [v0, v1, v2, v3, v4] := vlen_5 hl
  obtain ⟨n0, e0, x0, y0⟩ := Yj (Yi (s := 1) (vs := [v0]) h Try.underlying95 0 _ rfl (by kernel_rfl) rfl).reads Try.underlying3
  obtain ⟨n1, e1, x1, y1⟩ := Yj (Yi (s := 1) (vs := [v1]) h Try.underlying95 1 _ rfl (by kernel_rfl) rfl).reads Try.underlying3
  obtain ⟨n2, e2, x2, y2⟩ := rb_str (Yi (s := 1) (vs := [v2]) h Try.underlying95 2 _ rfl (by kernel_rfl) rfl) Try.underlying9
  obtain ⟨n3, e3, x3, y3⟩ := Yj (Yi (s := 1) (vs := [v3]) h Try.underlying95 3 _ rfl (by kernel_rfl) rfl).reads Try.underlying3
  obtain ⟨n4, e4, x4, y4⟩ := Yj (Yi (s := 1) (vs := [v4]) h Try.underlying95 4 _ rfl (by kernel_rfl) rfl).reads Try.underlying3
  simp only [List.cons.injEq, and_true] at e0 e1 e2 e3 e4
  subst e0 e1 e2 e3 e4
  exact ⟨⟨n0, n1, n2, n3, n4⟩, rfl, trivial, y2⟩
set_option maxRecDepth 100000 in
theorem hr_of {W : World} {es : List Value} (hl : es.length = 17) (h : ReadsB Try.prog W 141 es 1048576) : ∃ a : Hr, es = cHr a ∧ OkHr a ∧ TxHr a := by
  obtain ⟨v0, v1, v2, v3, v4, v5, v6, v7, v8, v9, v10, v11, v12, v13, v14, v15, v16, rfl⟩ : ∃ v0 v1 v2 v3 v4 v5 v6 v7 v8 v9 v10 v11 v12 v13 v14 v15 v16, es = [v0, v1, v2, v3, v4, v5, v6, v7, v8, v9, v10, v11, v12, v13, v14, v15, v16] := vlen_17 hl
  obtain ⟨n0, e0, x0, y0⟩ := rb_str (Yi (s := 1) (vs := [v0]) h Try.underlying141 0 _ rfl (by kernel_rfl) rfl) Try.underlying9
  have hR1 := Yi (s := 16) (vs := [v1, v2, v3, v4, v5, v6, v7, v8, v9, v10, v11, v12, v13, v14, v15, v16]) h Try.underlying141 1 _ rfl (by kernel_rfl) rfl
  obtain ⟨n1, e1, x1, y1⟩ := Yj (rb_elem (s := 1) (vs := [v1]) hR1 Try.underlying139 0 (by omega) (by kernel_rfl) rfl).reads Try.underlying3
  obtain ⟨n2, e2, x2, y2⟩ := Yj (rb_elem (s := 1) (vs := [v2]) hR1 Try.underlying139 1 (by omega) (by kernel_rfl) rfl).reads Try.underlying3
  obtain ⟨n3, e3, x3, y3⟩ := Yj (rb_elem (s := 1) (vs := [v3]) hR1 Try.underlying139 2 (by omega) (by kernel_rfl) rfl).reads Try.underlying3
  obtain ⟨n4, e4, x4, y4⟩ := Yj (rb_elem (s := 1) (vs := [v4]) hR1 Try.underlying139 3 (by omega) (by kernel_rfl) rfl).reads Try.underlying3
  obtain ⟨n5, e5, x5, y5⟩ := Yj (rb_elem (s := 1) (vs := [v5]) hR1 Try.underlying139 4 (by omega) (by kernel_rfl) rfl).reads Try.underlying3
  obtain ⟨n6, e6, x6, y6⟩ := Yj (rb_elem (s := 1) (vs := [v6]) hR1 Try.underlying139 5 (by omega) (by kernel_rfl) rfl).reads Try.underlying3
  obtain ⟨n7, e7, x7, y7⟩ := Yj (rb_elem (s := 1) (vs := [v7]) hR1 Try.underlying139 6 (by omega) (by kernel_rfl) rfl).reads Try.underlying3
  obtain ⟨n8, e8, x8, y8⟩ := Yj (rb_elem (s := 1) (vs := [v8]) hR1 Try.underlying139 7 (by omega) (by kernel_rfl) rfl).reads Try.underlying3
  obtain ⟨n9, e9, x9, y9⟩ := Yj (rb_elem (s := 1) (vs := [v9]) hR1 Try.underlying139 8 (by omega) (by kernel_rfl) rfl).reads Try.underlying3
  obtain ⟨n10, e10, x10, y10⟩ := Yj (rb_elem (s := 1) (vs := [v10]) hR1 Try.underlying139 9 (by omega) (by kernel_rfl) rfl).reads Try.underlying3
  obtain ⟨n11, e11, x11, y11⟩ := Yj (rb_elem (s := 1) (vs := [v11]) hR1 Try.underlying139 10 (by omega) (by kernel_rfl) rfl).reads Try.underlying3
  obtain ⟨n12, e12, x12, y12⟩ := Yj (rb_elem (s := 1) (vs := [v12]) hR1 Try.underlying139 11 (by omega) (by kernel_rfl) rfl).reads Try.underlying3
  obtain ⟨n13, e13, x13, y13⟩ := Yj (rb_elem (s := 1) (vs := [v13]) hR1 Try.underlying139 12 (by omega) (by kernel_rfl) rfl).reads Try.underlying3
  obtain ⟨n14, e14, x14, y14⟩ := Yj (rb_elem (s := 1) (vs := [v14]) hR1 Try.underlying139 13 (by omega) (by kernel_rfl) rfl).reads Try.underlying3
  obtain ⟨n15, e15, x15, y15⟩ := Yj (rb_elem (s := 1) (vs := [v15]) hR1 Try.underlying139 14 (by omega) (by kernel_rfl) rfl).reads Try.underlying3
  obtain ⟨n16, e16, x16, y16⟩ := Yj (rb_elem (s := 1) (vs := [v16]) hR1 Try.underlying139 15 (by omega) (by kernel_rfl) rfl).reads Try.underlying3
  simp only [List.cons.injEq, and_true] at e0 e1 e2 e3 e4 e5 e6 e7 e8 e9 e10 e11 e12 e13 e14 e15 e16
  subst e0 e1 e2 e3 e4 e5 e6 e7 e8 e9 e10 e11 e12 e13 e14 e15 e16
  exact ⟨⟨n0, n1, n2, n3, n4, n5, n6, n7, n8, n9, n10, n11, n12, n13, n14, n15, n16⟩, rfl, trivial, y0⟩
set_option maxRecDepth 100000 in
theorem lt_of {W : World} {es : List Value} (hl : es.length = 6) (h : ReadsB Try.prog W 143 es 1048576) : ∃ a : Lt, es = cLt a ∧ OkLt a ∧ TxLt a := by
  obtain ⟨v0, v1, v2, v3, v4, v5, rfl⟩ : ∃ v0 v1 v2 v3 v4 v5, es = [v0, v1, v2, v3, v4, v5] := vlen_6 hl
  obtain ⟨n0, e0, x0, y0⟩ := Yj (Yi (s := 1) (vs := [v0]) h Try.underlying143 0 _ rfl (by kernel_rfl) rfl).reads Try.underlying3
  obtain ⟨n1, e1, x1, y1⟩ := Yj (Yi (s := 1) (vs := [v1]) h Try.underlying143 1 _ rfl (by kernel_rfl) rfl).reads Try.underlying3
  obtain ⟨n2, e2, x2, y2⟩ := Yj (Yi (s := 1) (vs := [v2]) h Try.underlying143 2 _ rfl (by kernel_rfl) rfl).reads Try.underlying3
  obtain ⟨n3, e3, x3, y3⟩ := Yj (Yi (s := 1) (vs := [v3]) h Try.underlying143 3 _ rfl (by kernel_rfl) rfl).reads Try.underlying3
  obtain ⟨n4, e4, x4, y4⟩ := rb_str (Yi (s := 1) (vs := [v4]) h Try.underlying143 4 _ rfl (by kernel_rfl) rfl) Try.underlying9
  obtain ⟨n5, e5, x5, y5⟩ := Yj (Yi (s := 1) (vs := [v5]) h Try.underlying143 5 _ rfl (by kernel_rfl) rfl).reads Try.underlying23
  have x5 : (0 : Int) ≤ n5 := x5
  have y5 : n5 ≤ (18446744073709551615 : Int) := y5
  obtain ⟨n5, rfl⟩ := Int.eq_ofNat_of_zero_le x5
  simp only [List.cons.injEq, and_true] at e0 e1 e2 e3 e4 e5
  subst e0 e1 e2 e3 e4 e5
  exact ⟨⟨n0, n1, n2, n3, n4, n5⟩, rfl, (by show n5 < 18446744073709551616; omega), y4⟩
set_option maxRecDepth 100000 in
theorem wt_of {W : World} {es : List Value} (hl : es.length = 2) (h : ReadsB Try.prog W 145 es 1048576) : ∃ a : Wt, es = cWt a ∧ OkWt a ∧ TxWt a := by
  obtain ⟨v0, v1, rfl⟩ : ∃ v0 v1, es = [v0, v1] := vlen_2 hl
  obtain ⟨n0, e0, x0, y0⟩ := rb_str (Yi (s := 1) (vs := [v0]) h Try.underlying145 0 _ rfl (by kernel_rfl) rfl) Try.underlying9
  obtain ⟨n1, e1, x1, y1⟩ := Yj (Yi (s := 1) (vs := [v1]) h Try.underlying145 1 _ rfl (by kernel_rfl) rfl).reads Try.underlying3
  simp only [List.cons.injEq, and_true] at e0 e1
  subst e0 e1
  exact ⟨⟨n0, n1⟩, rfl, trivial, y0⟩
set_option maxRecDepth 100000 in
theorem fl_of {W : World} {es : List Value} (hl : es.length = 4) (h : ReadsB Try.prog W 217 es 1048576) : ∃ a : Fl, es = cFl a ∧ OkFl a ∧ ∀ z ∈ kFl a, ∀ b, z.1 = some b → W.heap[b]? = some z.2 := by
  obtain ⟨v0, v1, v2, v3, rfl⟩ : ∃ v0 v1 v2 v3, es = [v0, v1, v2, v3] := vlen_4 hl
  obtain ⟨n0, e0, x0, y0⟩ := Yj (Yi (s := 1) (vs := [v0]) h Try.underlying217 0 _ rfl (by kernel_rfl) rfl).reads Try.underlying3
  obtain ⟨n1, e1, x1, y1⟩ := Yj (Yi (s := 1) (vs := [v1]) h Try.underlying217 1 _ rfl (by kernel_rfl) rfl).reads Try.underlying3
  obtain ⟨n2, e2, x2, y2⟩ := Yj (Yi (s := 1) (vs := [v2]) h Try.underlying217 2 _ rfl (by kernel_rfl) rfl).reads Try.underlying3
  obtain ⟨p3, ob3, off3, cap3, c3, T3, fr3, l3, e3, hle3, hmax3, hlB3, hs3, hg3, hb3⟩ := rb_slice2 (sz := 2) (Yi (s := 1) (vs := [v3]) h Try.underlying217 3 _ rfl (by kernel_rfl) rfl) Try.underlying215 (by kernel_rfl) (by omega) cIt cIt_len (fun x => OkIt x ∧ TxIt x) (fun es hl h => it_of hl h)
  simp only [List.cons.injEq, and_true] at e0 e1 e2 e3
  subst e0 e1 e2 e3
  exact ⟨⟨n0, n1, n2, ⟨p3, ob3, off3, cap3, c3, T3, fr3, l3⟩⟩, rfl, ⟨⟨hle3, hmax3, hlB3, hs3⟩, fun _ _ => trivial⟩, fun z hz => by rw [List.mem_singleton.1 hz]; exact hb3⟩
set_option maxRecDepth 100000 in
theorem dt_of {W : World} {es : List Value} (hl : es.length = 6) (h : ReadsB Try.prog W 212 es 1048576) : ∃ a : Dt, es = cDt a ∧ OkDt a ∧ ∀ z ∈ kDt a, ∀ b, z.1 = some b → W.heap[b]? = some z.2 := by
  obtain ⟨v0, v1, v2, v3, v4, v5, rfl⟩ : ∃ v0 v1 v2 v3 v4 v5, es = [v0, v1, v2, v3, v4, v5] := vlen_6 hl
  obtain ⟨n0, e0, x0, y0⟩ := Yj (Yi (s := 1) (vs := [v0]) h Try.underlying212 0 _ rfl (by kernel_rfl) rfl).reads Try.underlying3
  obtain ⟨n1, e1, x1, y1⟩ := Yj (Yi (s := 1) (vs := [v1]) h Try.underlying212 1 _ rfl (by kernel_rfl) rfl).reads Try.underlying3
  obtain ⟨n2, e2, x2, y2⟩ := Yj (Yi (s := 1) (vs := [v2]) h Try.underlying212 2 _ rfl (by kernel_rfl) rfl).reads Try.underlying3
  have hR3 := (Yi (s := 3) (vs := [v3, v4, v5]) h Try.underlying212 3 _ rfl (by kernel_rfl) rfl)
  obtain ⟨n3, e3, x3, y3⟩ := Yj (Yi (s := 1) (vs := [v3]) hR3 Try.underlying210 0 _ rfl (by kernel_rfl) rfl).reads Try.underlying3
  obtain ⟨p4, ob4, off4, cap4, c4, T4, fr4, l4, e4, hle4, hmax4, hlB4, hs4, hg4, hb4⟩ := rb_slice2 (sz := 4) (Yi (s := 1) (vs := [v4]) hR3 Try.underlying210 1 _ rfl (by kernel_rfl) rfl) Try.underlying207 (by kernel_rfl) (by omega) cFl cFl_len (fun x => OkFl x ∧ ∀ z ∈ kFl x, ∀ b, z.1 = some b → W.heap[b]? = some z.2) (fun es hl h => fl_of hl h)
  obtain ⟨n5, e5⟩ := reads_bool (Yi (s := 1) (vs := [v5]) hR3 Try.underlying210 2 _ rfl (by kernel_rfl) rfl).reads Try.underlying4
  simp only [List.cons.injEq, and_true] at e0 e1 e2 e3 e4 e5
  subst e0 e1 e2 e3 e4 e5
  exact ⟨⟨n0, n1, n2, n3, ⟨p4, ob4, off4, cap4, c4, T4, fr4, l4⟩, n5⟩, rfl, ⟨⟨hle4, hmax4, hlB4, hs4⟩, fun y hy => (hg4 y hy).1⟩, fun z hz => by
    rcases List.mem_cons.1 hz with rfl | hz
    · exact hb4
    · obtain ⟨y, hy, hz⟩ := List.mem_flatMap.1 hz
      exact (hg4 y hy).2 z hz⟩
set_option maxRecDepth 100000 in
theorem ds_of {W : World} {es : List Value} (hl : es.length = 3) (h : ReadsB Try.prog W 111 es 1048576) : ∃ a : Ds, es = cDs a ∧ OkDs a ∧ ∀ z ∈ kDs a, ∀ b, z.1 = some b → W.heap[b]? = some z.2 := by
  obtain ⟨v0, v1, v2, rfl⟩ : ∃ v0 v1 v2, es = [v0, v1, v2] := vlen_3 hl
  obtain ⟨n0, e0, x0, y0⟩ := Yj (Yi (s := 1) (vs := [v0]) h Try.underlying111 0 _ rfl (by kernel_rfl) rfl).reads Try.underlying3
  obtain ⟨p1, ob1, off1, cap1, c1, T1, fr1, l1, e1, hle1, hmax1, hlB1, hs1, hg1, hb1⟩ := rb_slice2 (sz := 6) (Yi (s := 1) (vs := [v1]) h Try.underlying111 1 _ rfl (by kernel_rfl) rfl) Try.underlying107 (by kernel_rfl) (by omega) cDt cDt_len (fun x => OkDt x ∧ ∀ z ∈ kDt x, ∀ b, z.1 = some b → W.heap[b]? = some z.2) (fun es hl h => dt_of hl h)
  obtain ⟨n2, e2⟩ := reads_bool (Yi (s := 1) (vs := [v2]) h Try.underlying111 2 _ rfl (by kernel_rfl) rfl).reads Try.underlying4
  simp only [List.cons.injEq, and_true] at e0 e1 e2
  subst e0 e1 e2
  exact ⟨⟨n0, ⟨p1, ob1, off1, cap1, c1, T1, fr1, l1⟩, n2⟩, rfl, ⟨⟨hle1, hmax1, hlB1, hs1⟩, fun y hy => (hg1 y hy).1⟩, fun z hz => by
    rcases List.mem_cons.1 hz with rfl | hz
    · exact hb1
    · obtain ⟨y, hy, hz⟩ := List.mem_flatMap.1 hz
      exact (hg1 y hy).2 z hz⟩
theorem i1_of {W : World} {es : List Value} (hl : es.length = 1) (h : ReadsB Try.prog W 3 es 1048576) : ∃ a : Int, es = i1C a ∧ True := by
  obtain ⟨n0, e0, x0, y0⟩ := Yj h.reads Try.underlying3
  exact ⟨n0, e0, trivial⟩
set_option maxRecDepth 100000 in
theorem dp_of {W : World} {es : List Value} (hl : es.length = 4) (h : ReadsB Try.prog W 106 es 1048576) : ∃ a : Dp, es = cDp a ∧ OkDp a ∧ a.n.length ≤ 1048576 ∧ ∀ z ∈ kDp a, ∀ b, z.1 = some b → W.heap[b]? = some z.2 := by
  obtain ⟨v0, v1, v2, v3, rfl⟩ : ∃ v0 v1 v2 v3, es = [v0, v1, v2, v3] := vlen_4 hl
  obtain ⟨n0, e0, x0, y0⟩ := rb_str (Yi (s := 1) (vs := [v0]) h Try.underlying106 0 _ rfl (by kernel_rfl) rfl) Try.underlying9
  obtain ⟨n1, e1, x1, y1⟩ := Yj (Yi (s := 1) (vs := [v1]) h Try.underlying106 1 _ rfl (by kernel_rfl) rfl).reads Try.underlying3
  obtain ⟨p2, ob2, off2, cap2, c2, T2, fr2, l2, e2, hle2, hmax2, hlB2, hs2, hg2, hb2⟩ := rb_slice2 (sz := 1) (Yi (s := 1) (vs := [v2]) h Try.underlying106 2 _ rfl (by kernel_rfl) rfl) Try.underlying99 (by kernel_rfl) (by omega) i1C i1_len (fun x => True) (fun es hl h => i1_of hl h)
  obtain ⟨p3, ob3, off3, cap3, c3, T3, fr3, l3, e3, hle3, hmax3, hlB3, hs3, hg3, hb3⟩ := rb_slice2 (sz := 3) (Yi (s := 1) (vs := [v3]) h Try.underlying106 3 _ rfl (by kernel_rfl) rfl) Try.underlying104 (by kernel_rfl) (by omega) cDs cDs_len (fun x => OkDs x ∧ ∀ z ∈ kDs x, ∀ b, z.1 = some b → W.heap[b]? = some z.2) (fun es hl h => ds_of hl h)
  simp only [List.cons.injEq, and_true] at e0 e1 e2 e3
  subst e0 e1 e2 e3
  exact ⟨⟨n0, n1, ⟨p2, ob2, off2, cap2, c2, T2, fr2, l2⟩, ⟨p3, ob3, off3, cap3, c3, T3, fr3, l3⟩⟩, rfl, ⟨⟨hle2, hmax2, hlB2, hs2⟩, ⟨hle3, hmax3, hlB3, hs3⟩, fun y hy => (hg3 y hy).1⟩, y0, fun z hz => by
    rcases List.mem_cons.1 hz with rfl | hz
    · exact hb2
    rcases List.mem_cons.1 hz with rfl | hz
    · exact hb3
    · obtain ⟨y, hy, hz⟩ := List.mem_flatMap.1 hz
      exact (hg3 y hy).2 z hz⟩
set_option maxRecDepth 100000 in
theorem dst_of {W : World} {es : List Value} (hl : es.length = 15) (h : ReadsB Try.prog W 38 es 1048576) : ∃ a : Dst, es = cDst a ∧ (MkDst a ∧ OkPS (vDst a) ∧ TxDst a) ∧ ∀ z ∈ kDst a, ∀ b, z.1 = some b → W.heap[b]? = some z.2 := by
  obtain ⟨v0, v1, v2, v3, v4, v5, v6, v7, v8, v9, v10, v11, v12, v13, v14, rfl⟩ : ∃ v0 v1 v2 v3 v4 v5 v6 v7 v8 v9 v10 v11 v12 v13 v14, es = [v0, v1, v2, v3, v4, v5, v6, v7, v8, v9, v10, v11, v12, v13, v14] := vlen_15 hl
  obtain ⟨n0, e0, x0, y0⟩ := Yj (Yi (s := 1) (vs := [v0]) h Try.underlying38 0 _ rfl (by kernel_rfl) rfl).reads Try.underlying23
  obtain ⟨n1, e1⟩ := reads_bool (Yi (s := 1) (vs := [v1]) h Try.underlying38 1 _ rfl (by kernel_rfl) rfl).reads Try.underlying4
  obtain ⟨n2, e2, x2, y2⟩ := Yj (Yi (s := 1) (vs := [v2]) h Try.underlying38 2 _ rfl (by kernel_rfl) rfl).reads Try.underlying3
  obtain ⟨n3, e3, x3, y3⟩ := Yj (Yi (s := 1) (vs := [v3]) h Try.underlying38 3 _ rfl (by kernel_rfl) rfl).reads Try.underlying3
  obtain ⟨n4, e4, x4, y4⟩ := Yj (Yi (s := 1) (vs := [v4]) h Try.underlying38 4 _ rfl (by kernel_rfl) rfl).reads Try.underlying3
  obtain ⟨n5, e5, x5, y5⟩ := Yj (Yi (s := 1) (vs := [v5]) h Try.underlying38 5 _ rfl (by kernel_rfl) rfl).reads Try.underlying3
  obtain ⟨n6, e6, x6, y6⟩ := Yj (Yi (s := 1) (vs := [v6]) h Try.underlying38 6 _ rfl (by kernel_rfl) rfl).reads Try.underlying3
  obtain ⟨p7, ob7, off7, cap7, c7, T7, fr7, l7, e7, hle7, hmax7, hlB7, hs7, hg7, hb7⟩ := rb_slice2 (sz := 18) (Yi (s := 1) (vs := [v7]) h Try.underlying38 7 _ rfl (by kernel_rfl) rfl) Try.underlying24 (by kernel_rfl) (by omega) cOp cOp_len (fun x => OkOp x ∧ TxOp x) (fun es hl h => op_of hl h)
  obtain ⟨p8, ob8, off8, cap8, c8, T8, fr8, l8, e8, hle8, hmax8, hlB8, hs8, hg8, hb8⟩ := rb_slice2 (sz := 18) (Yi (s := 1) (vs := [v8]) h Try.underlying38 8 _ rfl (by kernel_rfl) rfl) Try.underlying24 (by kernel_rfl) (by omega) cOp cOp_len (fun x => OkOp x ∧ TxOp x) (fun es hl h => op_of hl h)
  obtain ⟨p9, ob9, off9, cap9, c9, T9, fr9, l9, e9, hle9, hmax9, hlB9, hs9, hg9, hb9⟩ := rb_slice2 (sz := 7) (Yi (s := 1) (vs := [v9]) h Try.underlying38 9 _ rfl (by kernel_rfl) rfl) Try.underlying25 (by kernel_rfl) (by omega) cWk cWk_len (fun x => OkWk x ∧ TxWk x) (fun es hl h => wk_of hl h)
  obtain ⟨p10, ob10, off10, cap10, c10, T10, fr10, l10, e10, hle10, hmax10, hlB10, hs10, hg10, hb10⟩ := rb_slice2 (sz := 5) (Yi (s := 1) (vs := [v10]) h Try.underlying38 10 _ rfl (by kernel_rfl) rfl) Try.underlying26 (by kernel_rfl) (by omega) cIv cIv_len (fun x => OkIv x ∧ TxIv x) (fun es hl h => iv_of hl h)
  obtain ⟨p11, ob11, off11, cap11, c11, T11, fr11, l11, e11, hle11, hmax11, hlB11, hs11, hg11, hb11⟩ := rb_slice2 (sz := 4) (Yi (s := 1) (vs := [v11]) h Try.underlying38 11 _ rfl (by kernel_rfl) rfl) Try.underlying36 (by kernel_rfl) (by omega) cDp cDp_len (fun x => OkDp x ∧ x.n.length ≤ 1048576 ∧ ∀ z ∈ kDp x, ∀ b, z.1 = some b → W.heap[b]? = some z.2) (fun es hl h => dp_of hl h)
  obtain ⟨p12, ob12, off12, cap12, c12, T12, fr12, l12, e12, hle12, hmax12, hlB12, hs12, hg12, hb12⟩ := rb_slice2 (sz := 17) (Yi (s := 1) (vs := [v12]) h Try.underlying38 12 _ rfl (by kernel_rfl) rfl) Try.underlying28 (by kernel_rfl) (by omega) cHr cHr_len (fun x => OkHr x ∧ TxHr x) (fun es hl h => hr_of hl h)
  obtain ⟨p13, ob13, off13, cap13, c13, T13, fr13, l13, e13, hle13, hmax13, hlB13, hs13, hg13, hb13⟩ := rb_slice2 (sz := 6) (Yi (s := 1) (vs := [v13]) h Try.underlying38 13 _ rfl (by kernel_rfl) rfl) Try.underlying29 (by kernel_rfl) (by omega) cLt cLt_len (fun x => OkLt x ∧ TxLt x) (fun es hl h => lt_of hl h)
  obtain ⟨p14, ob14, off14, cap14, c14, T14, fr14, l14, e14, hle14, hmax14, hlB14, hs14, hg14, hb14⟩ := rb_slice2 (sz := 2) (Yi (s := 1) (vs := [v14]) h Try.underlying38 14 _ rfl (by kernel_rfl) rfl) Try.underlying30 (by kernel_rfl) (by omega) cWt cWt_len (fun x => OkWt x ∧ TxWt x) (fun es hl h => wt_of hl h)
  have x0 : (0 : Int) ≤ n0 := x0
  have y0 : n0 ≤ (18446744073709551615 : Int) := y0
  obtain ⟨n0, rfl⟩ := Int.eq_ofNat_of_zero_le x0
  simp only [List.cons.injEq, and_true] at e0 e1 e2 e3 e4 e5 e6 e7 e8 e9 e10 e11 e12 e13 e14
  subst e0 e1 e2 e3 e4 e5 e6 e7 e8 e9 e10 e11 e12 e13 e14
  exact ⟨⟨n0, n1, n2, n3, n4, n5, n6, ⟨p7, ob7, off7, cap7, c7, T7, fr7, l7⟩, ⟨p8, ob8, off8, cap8, c8, T8, fr8, l8⟩, ⟨p9, ob9, off9, cap9, c9, T9, fr9, l9⟩, ⟨p10, ob10, off10, cap10, c10, T10, fr10, l10⟩, ⟨p11, ob11, off11, cap11, c11, T11, fr11, l11⟩, ⟨p12, ob12, off12, cap12, c12, T12, fr12, l12⟩, ⟨p13, ob13, off13, cap13, c13, T13, fr13, l13⟩, ⟨p14, ob14, off14, cap14, c14, T14, fr14, l14⟩⟩, rfl, ⟨⟨⟨hle7, hmax7, hlB7, hs7⟩, ⟨hle8, hmax8, hlB8, hs8⟩, ⟨hle9, hmax9, hlB9, hs9⟩, ⟨hle10, hmax10, hlB10, hs10⟩, ⟨hle11, hmax11, hlB11, hs11⟩, ⟨hle12, hmax12, hlB12, hs12⟩, ⟨hle13, hmax13, hlB13, hs13⟩, ⟨hle14, hmax14, hlB14, hs14⟩, fun y hy => (hg11 y hy).1⟩, ⟨by show n0 < _; omega, fun y hy => (hg7 y hy).1, fun y hy => (hg8 y hy).1, fun y hy => (hg9 y hy).1, fun y hy => (hg13 y hy).1⟩, ⟨fun y hy => (hg7 y hy).2, fun y hy => (hg8 y hy).2, fun y hy => (hg9 y hy).2, fun y hy => (hg10 y hy).2, fun y hy => (hg11 y hy).2.1, fun y hy => (hg12 y hy).2, fun y hy => (hg13 y hy).2, fun y hy => (hg14 y hy).2⟩⟩, fun z hz => by
    unfold kDst at hz
    simp only [List.mem_cons] at hz
    rcases hz with rfl | rfl | rfl | rfl | rfl | rfl | rfl | rfl | hz
    · exact hb7
    · exact hb8
    · exact hb9
    · exact hb10
    · exact hb11
    · exact hb12
    · exact hb13
    · exact hb14
    · obtain ⟨y, hy, hz⟩ := List.mem_flatMap.1 hz
      exact (hg11 y hy).2.2 z hz⟩

end
end Go.Proofs.Ytjnaeoelnmhjfaa

set_option linter.unusedSimpArgs false
set_option linter.unusedVariables false
namespace Go.Proofs.Ytjnaeoelnmhjfaa
open Go Go.RowKit

section



theorem encI_le (x : Int) : (encI x).length ≤ 10 := (chainI_len _ (wrap_bd x).1 (wrap_bd x).2).1
theorem fm_le {α : Type} {e : α → List UInt8} {c : Nat} : ∀ {l : List α}, (∀ y ∈ l, (e y).length ≤ c) → (l.flatMap e).length ≤ l.length * c
  | [], _ => by simp
  | y :: l, h => by
    have h1 := h y List.mem_cons_self
    have h2 := fm_le (l := l) fun z hz => h z (List.mem_cons_of_mem _ hz)
    rw [List.flatMap_cons, List.length_append, List.length_cons, Nat.add_mul]
    omega
theorem encIs_le_ (l : List Int) : (encIs l).length ≤ l.length * 10 := fm_le fun y _ => encI_le y
theorem text_le {s : List UInt8} (h : s.length ≤ 1048576) : (text s).length ≤ 1048586 := by have := text_len s (by omega); omega
theorem encTs_le_ {l : List (List UInt8)} (h : ∀ s ∈ l, s.length ≤ 1048576) : (encTs l).length ≤ l.length * 1048586 := fm_le fun y hy => text_le (h y hy)
theorem encB_le (b : Bool) : (encB b).length ≤ 10 := by
  unfold encB; cases b <;> exact (chainI_len _ (by simp) (by simp)).1
theorem chN_le {n : Nat} (h : n < 18446744073709551616) : (chainI (n : Int)).length ≤ 10 := (chainI_len _ (by omega) (by omega)).1
theorem encL_le {α : Type} {e : α → List UInt8} {c m : Nat} {l : List α} (hm : l.length ≤ m) (h1 : m ≤ 1000) (h : ∀ y ∈ l, (e y).length ≤ c) : (encL e l).length ≤ 10 + m * c := by
  have h2 := fm_le h
  have h3 := chN_le (n := l.length) (by omega)
  have h4 : l.length * c ≤ m * c := Nat.mul_le_mul_right _ hm
  unfold encL; rw [List.length_append]; omega
theorem encOp_len {x : Op} (hk : OkOp x) (ht : TxOp x) : (encOp x).length ≤ 3145908 := by
  unfold OkOp at hk
  unfold TxOp at ht
  have h0 := encIs_le_ [x.v0, x.v1, x.v2, x.v6, x.v7, x.v8, x.v9, x.v10, x.v11, x.v12, x.v13, x.v14]
  have h1 := encTs_le_ (l := [x.v3, x.v4, x.v5]) (by intro s hs; simp only [List.mem_cons, List.not_mem_nil, or_false] at hs; rcases hs with rfl | rfl | rfl <;> omega)
  have h2 := chN_le (n := x.v15) (by omega)
  have h3 := chN_le (n := x.v16) (by omega)
  have h4 := chN_le (n := x.v17) (by omega)
  simp only [List.length_cons, List.length_nil] at h0 h1
  unfold encOp; try simp only [List.length_append]
  omega
theorem encWk_len {x : Wk} (hk : OkWk x) (ht : TxWk x) : (encWk x).length ≤ 2097222 := by
  unfold OkWk at hk
  unfold TxWk at ht
  have h0 := encIs_le_ [x.v0, x.v1, x.v2]
  have h1 := encTs_le_ (l := [x.v3, x.v4]) (by intro s hs; simp only [List.mem_cons, List.not_mem_nil, or_false] at hs; rcases hs with rfl | rfl <;> omega)
  have h2 := encB_le x.v5
  have h3 := chN_le (n := x.v6) (by omega)
  simp only [List.length_cons, List.length_nil] at h0 h1
  unfold encWk; try simp only [List.length_append]
  omega
theorem encIv_len {x : Iv} (hk : OkIv x) (ht : TxIv x) : (encIv x).length ≤ 1048626 := by
  unfold OkIv at hk
  unfold TxIv at ht
  have h0 := encIs_le_ [x.v0, x.v1, x.v3, x.v4]
  have h1 := encTs_le_ (l := [x.v2]) (by intro s hs; simp only [List.mem_cons, List.not_mem_nil, or_false] at hs; rw [hs]; omega)
  simp only [List.length_cons, List.length_nil] at h0 h1
  unfold encIv; try simp only [List.length_append]
  omega
theorem encHr_len {x : Hr} (hk : OkHr x) (ht : TxHr x) : (encHr x).length ≤ 1048746 := by
  unfold OkHr at hk
  unfold TxHr at ht
  have h0 := encTs_le_ (l := [x.v0]) (by intro s hs; simp only [List.mem_cons, List.not_mem_nil, or_false] at hs; rw [hs]; omega)
  have h1 := encIs_le_ [x.v1, x.v2, x.v3, x.v4, x.v5, x.v6, x.v7, x.v8, x.v9, x.v10, x.v11, x.v12, x.v13, x.v14, x.v15, x.v16]
  simp only [List.length_cons, List.length_nil] at h0 h1
  unfold encHr; try simp only [List.length_append]
  omega
theorem encLt_len {x : Lt} (hk : OkLt x) (ht : TxLt x) : (encLt x).length ≤ 1048636 := by
  unfold OkLt at hk
  unfold TxLt at ht
  have h0 := encIs_le_ [x.v0, x.v1, x.v2, x.v3]
  have h1 := encTs_le_ (l := [x.v4]) (by intro s hs; simp only [List.mem_cons, List.not_mem_nil, or_false] at hs; rw [hs]; omega)
  have h2 := chN_le (n := x.v5) (by omega)
  simp only [List.length_cons, List.length_nil] at h0 h1
  unfold encLt; try simp only [List.length_append]
  omega
theorem encWt_len {x : Wt} (hk : OkWt x) (ht : TxWt x) : (encWt x).length ≤ 1048596 := by
  unfold OkWt at hk
  unfold TxWt at ht
  have h0 := encTs_le_ (l := [x.v0]) (by intro s hs; simp only [List.mem_cons, List.not_mem_nil, or_false] at hs; rw [hs]; omega)
  have h1 := encIs_le_ [x.v1]
  simp only [List.length_cons, List.length_nil] at h0 h1
  unfold encWt; try simp only [List.length_append]
  omega
theorem encIt_len {x : It} (hk : OkIt x) (ht : TxIt x) : (encIt x).length ≤ 20 := by
  unfold OkIt at hk
  unfold TxIt at ht
  have h0 := encIs_le_ [x.v0, x.v1]
  simp only [List.length_cons, List.length_nil] at h0
  unfold encIt; try simp only [List.length_append]
  omega

theorem encPF_len {f : Fl} (hS : SmallF f) : (encPF (vFl f)).length ≤ 840 := by
  have h0 := encIs_le_ [f.v0, f.v1, f.v2]
  have h1 := encL_le (e := encIt) (c := 20) (m := 40) hS (by omega) (fun y _ => encIt_len (x := y) trivial trivial)
  simp only [List.length_cons, List.length_nil] at h0
  show (encIs [f.v0, f.v1, f.v2] ++ encL encIt f.s.l).length ≤ _
  rw [List.length_append]; omega
theorem encPT_len {y : Dt} (hS : SmallT y) : (encPT (vDt y)).length ≤ 16850 := by
  have h0 := encIs_le_ [y.v0, y.v1, y.v2]
  have h1 := encB_le y.g
  have h2 := encL_le (e := encPF) (c := 840) (m := 20) (l := y.s.l.map vFl) (by rw [List.length_map]; exact hS.1) (by omega) (fun z hz => by
    obtain ⟨f, hf, rfl⟩ := List.mem_map.1 hz
    exact encPF_len (hS.2 f hf))
  simp only [List.length_cons, List.length_nil] at h0
  show (encIs [y.v0, y.v1, y.v2] ++ (encB y.g ++ encL encPF (y.s.l.map vFl))).length ≤ _
  simp only [List.length_append]; omega
theorem encPC_len {a : Int} {d : Ds} (hS : SmallD d) : (encPC (mkPC a d)).length ≤ 168530 := by
  have h0 := encIs_le_ [a]
  have h1 := encB_le d.g
  have h2 := encL_le (e := encPT) (c := 16850) (m := 10) (l := d.s.l.map vDt) (by rw [List.length_map]; exact hS.1) (by omega) (fun z hz => by
    obtain ⟨f, hf, rfl⟩ := List.mem_map.1 hz
    exact encPT_len (hS.2 f hf))
  simp only [List.length_cons, List.length_nil] at h0
  show (encIs [a] ++ (encB d.g ++ encL encPT (d.s.l.map vDt))).length ≤ _
  simp only [List.length_append]; omega
theorem encPP_len {p : Dp} (hS : SmallP p) (ht : p.n.length ≤ 1048576) : (encPP (vDp p)).length ≤ 2396846 := by
  have h0 := encIs_le_ [p.u]
  have h1 := encTs_le_ (l := [p.n]) (by intro s hs; rw [List.mem_singleton.1 hs]; exact ht)
  have h2 : (if (vDp p).ev = true then encL encPC (vDp p).l else []).length ≤ 10 + 8 * 168530 := by
    by_cases he : EvenDp p
    · have e1 : (vDp p).ev = true := decide_eq_true he
      have e2 : (vDp p).l = List.zipWith mkPC p.sv.l p.sh.l := by unfold vDp; exact if_pos he
      rw [if_pos e1, e2]
      refine encL_le (by rw [List.length_zipWith]; have := hS.1; omega) (by omega) (fun z hz => ?_)
      obtain ⟨i, hi⟩ := List.mem_iff_getElem?.1 hz
      rw [List.getElem?_zipWith] at hi
      rcases e1 : p.sv.l[i]? with _ | a <;> rcases e2 : p.sh.l[i]? with _ | d <;> rw [e1, e2] at hi <;> simp at hi
      subst hi
      exact encPC_len (hS.2.2 d (List.mem_of_getElem? e2))
    · have e1 : ¬ (vDp p).ev = true := by show ¬ decide (EvenDp p) = true; simpa using he
      rw [if_neg e1]; simp
  simp only [List.length_cons, List.length_nil] at h0 h1
  show (encTs [p.n] ++ (encIs [p.u] ++ (if (vDp p).ev = true then encL encPC (vDp p).l else []))).length ≤ _
  simp only [List.length_append]; omega
theorem encPS_len {x : Dst} (hk : OkPS (vDst x)) (ht : TxDst x) (hS : Small x) : (encPS (vDst x)).length ≤ 1000000000 := by
  obtain ⟨k0, k1, k2, k3, k4⟩ := hk
  have h0 := encIs_le_ [x.v2, x.v3, x.v4, x.v5, x.v6]
  have h1 := encB_le x.g
  have h2 : (encU x.v0).length ≤ 10 := chN_le k0
  have h_li := encL_le (e := encOp) (c := 3145908) (m := 40) hS.li (by omega) (fun y hy => encOp_len (k1 y hy) (ht.li y hy))
  have h_en := encL_le (e := encOp) (c := 3145908) (m := 40) hS.en (by omega) (fun y hy => encOp_len (k2 y hy) (ht.en y hy))
  have h_wo := encL_le (e := encWk) (c := 2097222) (m := 40) hS.wo (by omega) (fun y hy => encWk_len (k3 y hy) (ht.wo y hy))
  have h_iv := encL_le (e := encIv) (c := 1048626) (m := 60) hS.iv (by omega) (fun y hy => encIv_len trivial (ht.iv y hy))
  have h_hi := encL_le (e := encHr) (c := 1048746) (m := 40) hS.hi (by omega) (fun y hy => encHr_len trivial (ht.hi y hy))
  have h_le := encL_le (e := encLt) (c := 1048636) (m := 60) hS.le (by omega) (fun y hy => encLt_len (k4 y hy) (ht.le y hy))
  have h_wa := encL_le (e := encWt) (c := 1048596) (m := 40) hS.wa (by omega) (fun y hy => encWt_len trivial (ht.wa y hy))
  have h_po := encL_le (e := encPP) (c := 2396846) (m := 10) (l := x.po.l.map vDp) (by rw [List.length_map]; exact hS.po) (by omega) (fun z hz => by
    obtain ⟨p, hp, rfl⟩ := List.mem_map.1 hz
    exact encPP_len (hS.p p hp) (ht.po p hp))
  simp only [List.length_cons, List.length_nil] at h0
  show (encU x.v0 ++ (encB x.g ++ (encIs [x.v2, x.v3, x.v4, x.v5, x.v6] ++ (encL encOp x.li.l ++ (encL encOp x.en.l ++ (encL encWk x.wo.l ++ (encL encIv x.iv.l ++ (encL encPP (x.po.l.map vDp) ++ (encL encHr x.hi.l ++ (encL encLt x.le.l ++ encL encWt x.wa.l)))))))))).length ≤ _
  simp only [List.length_append]; omega
theorem okSt_of2 {x : St} (h : MkSt x) (g : OkPS (vSt x)) : OkSt x :=
  ⟨g.1, h.li, g.2.1, h.en, g.2.2.1, h.wo, g.2.2.2.1, h.iv, (fun _ _ => trivial), h.po, h.po2, h.hi, (fun _ _ => trivial), h.le, g.2.2.2.2, h.wa, (fun _ _ => trivial)⟩
theorem dec_of {p q : PS} {c : Int} (hg : GPS p) (h : DecP (encPS p) q c) : c = 0 ∧ q = p := by
  rcases h with ⟨rfl, _, _, a3⟩ | ⟨rfl, _, a3⟩
  · exact ⟨rfl, (a3 p hg rfl).symm⟩
  · exact absurd rfl (a3 p hg)

end
end Go.Proofs.Ytjnaeoelnmhjfaa

set_option linter.unusedSimpArgs false
set_option linter.unusedVariables false
namespace Go.Proofs.Ytjnaeoelnmhjfaa
open Go Go.RowKit

section
theorem i_125 : Try.prog.info? 125 = some Try.t125 := by kernel_rfl
theorem p_125 : placesOf Try.prog (Try.prog.fieldsOf 125) = some [(0, 1), (1, 1)] := by kernel_rfl


theorem wk_open {y : Wk} {D : List Wk} {t R F : List UInt8} (h : t ++ ((y :: D).flatMap encWk ++ R) = F) : t ++ (encIs [y.v0, y.v1, y.v2] ++ (encTs [y.v3, y.v4] ++ (encB y.v5 ++ (encUs [y.v6] ++ (D.flatMap encWk ++ R))))) = F := by
  rw [← h]; simp [encWk, encUs]
theorem wk_openB {y : Wk} {D : List Wk} {v B W : Bool} (h : (v || ((y :: D).any badWk || B)) = W) : (v || ([y.v0, y.v1, y.v2].any badI || ([y.v3, y.v4].any badT || (D.any badWk || B)))) = W := by
  rw [← h]; simp only [List.any_cons (f := badWk), badWk, Bool.or_assoc]
theorem iv_open {y : Iv} {D : List Iv} {t R F : List UInt8} (h : t ++ ((y :: D).flatMap encIv ++ R) = F) : t ++ (encIs [y.v0, y.v1, y.v3, y.v4] ++ (encTs [y.v2] ++ (D.flatMap encIv ++ R))) = F := by
  rw [← h]; simp [encIv]
theorem iv_openB {y : Iv} {D : List Iv} {v B W : Bool} (h : (v || ((y :: D).any badIv || B)) = W) : (v || ([y.v0, y.v1, y.v3, y.v4].any badI || ([y.v2].any badT || (D.any badIv || B)))) = W := by
  rw [← h]; simp only [List.any_cons (f := badIv), badIv, Bool.or_assoc]
theorem ds_open (x : Dst) : ([] : List UInt8) ++ (encUs [x.v0] ++ (encB x.g ++ (encIs [x.v2, x.v3, x.v4, x.v5, x.v6] ++ (encL encOp x.li.l ++ (encL encOp x.en.l ++ (encL encWk x.wo.l ++ (encL encIv x.iv.l ++ (encL encPP (x.po.l.map vDp) ++ encRest x)))))))) = encPS (vDst x) := by
  simp [encPS, vDst, encU, encUs, encRest]
theorem ds_openB (x : Dst) : (false || ([x.v2, x.v3, x.v4, x.v5, x.v6].any badI || (badL badOp x.li.l || (badL badOp x.en.l || (badL badWk x.wo.l || (badL badIv x.iv.l || (badL badPP (x.po.l.map vDp) || badRest x))))))) = badPS (vDst x) := by
  simp [badPS, vDst, badRest]
theorem ds_end {t tp F : List UInt8} {v wp W : Bool} {x : Dst} (hw : t ++ (encL encPP (x.po.l.map vDp) ++ encRest x) = F) (gw : (v || (badL badPP (x.po.l.map vDp) || badRest x)) = W) (h1 : wp = (v || badL badPP (x.po.l.map vDp))) (h2 : wp = false → tp = t ++ encL encPP (x.po.l.map vDp)) : (wp || badRest x) = W ∧ ((wp || badRest x) = false → tp ++ encRest x = F) := by
  refine ⟨by rw [h1, ← gw, Bool.or_assoc], fun h => ?_⟩
  rw [Bool.or_eq_false_iff] at h
  rw [h2 h.1, List.append_assoc]; exact hw

set_option maxRecDepth 100000 in
set_option maxHeartbeats 4000000 in
theorem rw_encode (x : Dst) (hx : MkDst x) (hok : x.v0 < 18446744073709551616 ∧ (∀ y ∈ x.li.l, OkOp y) ∧ (∀ y ∈ x.en.l, OkOp y) ∧ (∀ y ∈ x.wo.l, OkWk y) ∧ (∀ y ∈ x.le.l, OkLt y)) (hl : (encPS (vDst x)).length ≤ 140737488350000) :
    Ct Try.prog 17 [.agg (cDst x).toArray] (insK x.li :: insK x.en :: insK x.wo :: insK x.iv :: insK x.hi :: insK x.le :: insK x.wa :: insK x.po :: x.po.l.flatMap kDp) [] fun v post => v = dumpP (vDst x) ∧ post = [] := by
 obtain ⟨k0, k1, k2, k3, k4⟩ := hok
 obtain ⟨F, hF⟩ : ∃ F, encPS (vDst x) = F := ⟨_, rfl⟩
 obtain ⟨W, hW⟩ : ∃ W, badPS (vDst x) = W := ⟨_, rfl⟩
 have hFl : F.length ≤ 140737488350000 := by rw [← hF]; exact hl
 have hw := (ds_open x).trans hF
 have gw := (ds_openB x).trans hW
 have hh1 := hx.wo.le
 have hh2 := hx.wo.max
 have hh3 := hx.wo.n
 have hh4 := hx.iv.le
 have hh5 := hx.iv.max
 have hh6 := hx.iv.n
 refine Yv Try.func17 rfl rfl (fun w0 => ?_)
 show G _ _ [(0, _)] _ _
 refine Zi ?_
 refine Zd (l := [0, 1, 2]) rfl ?_
 refine Yr rfl rfl rfl rfl (N_boxA rfl rfl) (fun b1 => ?_)
 refine Za rfl rfl rfl rfl (Zk rfl rfl) ?_
 refine Za rfl rfl rfl rfl (Zk rfl rfl) ?_
 refine Zg ?_
 refine Zi ?_
 refine Zd (l := [0, 1, 2]) rfl ?_
 refine Za rfl rfl rfl rfl (V_buildS (cs := [_, _]) rfl Try.underlying125 i_125 rfl p_125 rfl rfl rfl) ?_
 refine Yr rfl rfl rfl rfl (N_boxA rfl rfl) (fun b9 => ?_)
 refine Za rfl rfl rfl rfl (Zk rfl rfl) ?_
 refine Zg ?_
 refine Zi ?_
 refine Zd (l := [0, 1, 2, 3, 4]) rfl ?_
 refine Za rfl rfl rfl rfl (Zc rfl rfl) ?_
 refine Za rfl rfl rfl rfl (Zb (fo := 0) rfl Try.underlying38 rfl i_23 rfl rfl rfl) ?_
 refine Za rfl rfl rfl rfl (Zj rfl rfl (List.mem_append_right _ (Zf 1 rfl)) rfl Try.underlying23 rfl) ?_
 refine Yr rfl rfl rfl rfl (Zn (s := 1) (cs := [_]) rfl Try.underlying219 i_23 rfl rfl rfl rfl rfl rfl rfl rfl rfl) (fun b13 => ?_)
 refine Yn (L2 := [_, _]) rfl rfl rfl rfl rfl rfl Try.call57 (rw_numsL b9 _ _ _ _ [x.v0] (by simp) (by intro z hz; rw [List.mem_singleton.1 hz]; assumption) (st_l hw hFl)) [1] rfl (Yb (List.mem_append_right _ (Zf 0 rfl)) Yd) ?_
 rintro v post ⟨rfl, rfl⟩
 show G _ _ _ [_, _, _] _
 replace hw := st_t hw
 refine Zg ?_
 refine Zi ?_
 refine Zd (l := [0, 1, 2, 3]) rfl ?_
 refine Za rfl rfl rfl rfl (Zc rfl rfl) ?_
 refine Za rfl rfl rfl rfl (Zb (fo := 1) rfl Try.underlying38 rfl i_4 rfl rfl rfl) ?_
 refine Za rfl rfl rfl rfl (Zj rfl rfl (List.mem_append_right _ (Zf 2 rfl)) rfl Try.underlying4 rfl) ?_
 refine Yn (L2 := [_, _]) rfl rfl rfl rfl rfl rfl Try.call58 (rw_flag b9 _ _ x.g (st_l hw hFl)) [0] rfl Yd ?_
 rintro v post ⟨rfl, rfl⟩
 show G _ _ _ [_, _, _] _
 replace hw := st_t hw
 refine Zg ?_
 refine Zi ?_
 refine Zd (l := [0, 1, 2, 3, 4, 5, 6, 7, 8, 9, 10, 11, 12]) rfl ?_
 refine Za rfl rfl rfl rfl (Zc rfl rfl) ?_
 refine Za rfl rfl rfl rfl (Zb (fo := 2) rfl Try.underlying38 rfl i_3 rfl rfl rfl) ?_
 refine Za rfl rfl rfl rfl (Zj rfl rfl (List.mem_append_right _ (Zf 2 rfl)) rfl Try.underlying3 rfl) ?_
 refine Za rfl rfl rfl rfl (Zb (fo := 3) rfl Try.underlying38 rfl i_3 rfl rfl rfl) ?_
 refine Za rfl rfl rfl rfl (Zj rfl rfl (List.mem_append_right _ (Zf 2 rfl)) rfl Try.underlying3 rfl) ?_
 refine Za rfl rfl rfl rfl (Zb (fo := 4) rfl Try.underlying38 rfl i_3 rfl rfl rfl) ?_
 refine Za rfl rfl rfl rfl (Zj rfl rfl (List.mem_append_right _ (Zf 2 rfl)) rfl Try.underlying3 rfl) ?_
 refine Za rfl rfl rfl rfl (Zb (fo := 5) rfl Try.underlying38 rfl i_3 rfl rfl rfl) ?_
 refine Za rfl rfl rfl rfl (Zj rfl rfl (List.mem_append_right _ (Zf 2 rfl)) rfl Try.underlying3 rfl) ?_
 refine Za rfl rfl rfl rfl (Zb (fo := 6) rfl Try.underlying38 rfl i_3 rfl rfl rfl) ?_
 refine Za rfl rfl rfl rfl (Zj rfl rfl (List.mem_append_right _ (Zf 2 rfl)) rfl Try.underlying3 rfl) ?_
 refine Yr rfl rfl rfl rfl (Zn (s := 1) (cs := [_, _, _, _, _]) rfl Try.underlying99 i_3 rfl rfl rfl rfl rfl rfl rfl rfl rfl) (fun b30 => ?_)
 refine Yn (L2 := [_, _, _]) rfl rfl rfl rfl rfl rfl Try.call59 (rw_intsL b9 _ _ _ _ [x.v2, x.v3, x.v4, x.v5, x.v6] (by simp) (st_l hw hFl)) [1] rfl (Yb (List.mem_append_right _ (Zf 0 rfl)) Yd) ?_
 rintro v post ⟨rfl, rfl⟩
 show G _ _ _ [_, _, _, _] _
 replace hw := st_t hw
 replace gw := st_w gw
 refine Zg ?_
 refine Zi ?_
 refine Zd (l := [0, 1, 2, 3]) rfl ?_
 refine Za rfl rfl rfl rfl (Zc rfl rfl) ?_
 refine Za rfl rfl rfl rfl (Zb (fo := 7) rfl Try.underlying38 rfl i_24 rfl rfl rfl) ?_
 refine Za rfl rfl rfl rfl (Zj rfl rfl (List.mem_append_right _ (Zf 3 rfl)) rfl Try.underlying24 rfl) ?_
 refine Yn (L2 := [_, _, _]) rfl rfl rfl rfl rfl rfl Try.call60 (rw_ops b9 _ _ x.li hx.li k1 (st_l hw hFl)) [0] rfl (Yb (List.mem_append_left _ (Zf 0 rfl)) Yd) ?_
 rintro v post ⟨rfl, rfl⟩
 show G _ _ _ [_, _, _, _] _
 replace hw := st_t hw
 replace gw := st_w gw
 refine Zg ?_
 refine Zi ?_
 refine Zd (l := [0, 1, 2, 3]) rfl ?_
 refine Za rfl rfl rfl rfl (Zc rfl rfl) ?_
 refine Za rfl rfl rfl rfl (Zb (fo := 8) rfl Try.underlying38 rfl i_24 rfl rfl rfl) ?_
 refine Za rfl rfl rfl rfl (Zj rfl rfl (List.mem_append_right _ (Zf 3 rfl)) rfl Try.underlying24 rfl) ?_
 refine Yn (L2 := [_, _, _]) rfl rfl rfl rfl rfl rfl Try.call60 (rw_ops b9 _ _ x.en hx.en k2 (st_l hw hFl)) [0] rfl (Yb (List.mem_append_left _ (Zf 1 rfl)) Yd) ?_
 rintro v post ⟨rfl, rfl⟩
 show G _ _ _ [_, _, _, _] _
 replace hw := st_t hw
 replace gw := st_w gw
 refine Zg ?_
 refine Zi ?_
 replace hw := l_open hw
 replace gw := l_openB gw
 refine Zd (l := [0, 1, 2, 3, 4]) rfl ?_
 refine Za rfl rfl rfl rfl (Zc rfl rfl) ?_
 refine Za rfl rfl rfl rfl (Zb (fo := 9) rfl Try.underlying38 rfl i_25 rfl rfl rfl) ?_
 refine Za rfl rfl rfl rfl (Zj rfl rfl (List.mem_append_right _ (Zf 3 rfl)) rfl Try.underlying25 rfl) ?_
 refine Za rfl rfl rfl rfl (Yf rfl rfl Try.underlying25 rfl) ?_
 refine Yn (L2 := [_, _, _]) rfl rfl rfl rfl rfl rfl Try.call61 (rw_count b9 _ _ x.wo.l.length hx.wo.n (st_l hw hFl)) [0] rfl Yd ?_
 rintro v post ⟨rfl, rfl⟩
 show G _ _ _ [_, _, _, _] _
 replace hw := st_t hw
 replace gw := st_w gw
 refine Zg ?_
 refine Zi ?_
 refine Zi ?_
 refine Zd (l := [0]) rfl ?_
 refine Za rfl rfl rfl rfl (Zk rfl rfl) ?_
 refine Zg ?_
 refine Zp ?_
 refine Yc ?he9 [0, 2] ?hl9 (Xc (X := Nat × List UInt8 × Bool) (fun x_ => match x_ with | ⟨i, t, v⟩ => i ≤ x.wo.l.length ∧ t ++ ((x.wo.l.drop i).flatMap encWk ++ (encL encIv x.iv.l ++ (encL encPP (x.po.l.map vDp) ++ encRest x))) = F ∧ (v || ((x.wo.l.drop i).any badWk || (badL badIv x.iv.l || (badL badPP (x.po.l.map vDp) || badRest x)))) = W) (fun x_ => match x_ with | ⟨i, t, v⟩ => x.wo.l.length - i) (fun x_ => match x_ with | ⟨i, t, v⟩ => [(1, .pointer (some ⟨b1, 0, none⟩)), (2, .string (bs [])), (3, .int .i64 0), (4, .pointer (some ⟨b9, 0, none⟩)), (5, .int .i64 (i : Int))]) (fun x_ => match x_ with | ⟨i, t, v⟩ => [(some b9, .cells #[.string (bs (t)), .bool v] 125 (0, 0)), (some b1, .cells (cDst x).toArray 38 (0, 0))]) ?round9 (0, [] ++ encUs [x.v0] ++ encB x.g ++ encIs [x.v2, x.v3, x.v4, x.v5, x.v6] ++ encL encOp x.li.l ++ encL encOp x.en.l ++ chainI (x.wo.l.length : Int), ((((false || [x.v2, x.v3, x.v4, x.v5, x.v6].any badI) || badL badOp x.li.l) || badL badOp x.en.l) || decide (1000 < (x.wo.l.length : Int)))) ?h09)
 case he9 => exact (And.intro rfl (And.intro rfl (And.intro rfl (And.intro rfl (And.intro rfl trivial)))))
 case hl9 => exact ⟨_, rfl⟩
 case h09 => exact ⟨Nat.zero_le _, hw, gw⟩
 case round9 =>
  intro x_ hJ ih
  try dsimp only at hJ ih
  obtain ⟨i, t, v⟩ := x_
  try dsimp only at hJ ih
  obtain ⟨hi, hw, gw⟩ := hJ
  show G _ _ [(1, .pointer (some ⟨b1, 0, none⟩)), (2, .string (bs [])), (3, .int .i64 0), (4, .pointer (some ⟨b9, 0, none⟩)), (5, .int .i64 (i : Int))] [(some b9, .cells #[.string (bs (t)), .bool v] 125 (0, 0)), (some b1, .cells (cDst x).toArray 38 (0, 0))] _
  refine Zi ?_
  refine Zi ?_
  refine Zd (l := [0, 1, 2, 3, 4]) rfl ?_
  refine Za rfl rfl rfl rfl (Zc rfl rfl) ?_
  refine Za rfl rfl rfl rfl (Zb (fo := 9) rfl Try.underlying38 rfl i_25 rfl rfl rfl) ?_
  refine Za rfl rfl rfl rfl (Zj rfl rfl (List.mem_append_right _ (Zf 1 rfl)) rfl Try.underlying25 rfl) ?_
  refine Za rfl rfl rfl rfl (Yf rfl rfl Try.underlying25 rfl) ?_
  refine Za rfl rfl rfl rfl (Xh rfl rfl rfl) ?_
  refine Zg ?_
  refine Yl rfl (fun hc1 => ?_) (fun hc1 => ?_)
  ·
   refine Zu ?_
   refine Zi ?_
   refine Zp ?_
   refine Zi ?_
   obtain ⟨y, hy⟩ := Xv (show i < x.wo.l.length by omega)
   obtain ⟨cy, py, qy, ssy⟩ := hx.wo.isS (i := i) (by omega)
   have hyu := k3 y (List.mem_of_getElem? hy)
   unfold OkWk at hyu
   rw [drop_at_ hy] at hw gw
   replace hw := wk_open hw
   replace gw := wk_openB gw
   refine Zd (l := [0, 1, 2, 3, 4, 5, 6]) rfl ?_
   refine Za rfl rfl rfl rfl (Zb (fo := 9) rfl Try.underlying38 rfl i_25 rfl rfl rfl) ?_
   refine Za rfl rfl rfl rfl (Zj rfl rfl (List.mem_append_right _ (Zf 1 rfl)) rfl Try.underlying25 rfl) ?_
   rw [py]
   refine Za rfl rfl rfl rfl (Zc rfl rfl) ?_
   refine Za rfl rfl rfl rfl (Zl (s := 7) rfl Try.underlying25 i_92 rfl rfl rfl rfl (by omega)) ?_
   refine Za rfl rfl rfl rfl (Xm (s := 7) (vs := (cWk y).toArray) rfl rfl (by rw [← Yg qy]; exact List.mem_append_left _ (Zf 2 rfl)) Try.underlying92 rfl i_92 rfl (ssy.elem cWk_len hy) (by rfl)) ?_
   refine Yr rfl rfl rfl rfl (Xb rfl i_92 rfl) (fun b6 => ?_)
   refine Xl (l1 := []) (L' := [_, _, _]) rfl rfl rfl rfl (Xk (s := 7) rfl rfl rfl (Zf 0 rfl) (by rfl) i_92 rfl (by rfl) (by simp [Value.oneCell', cOp, cWk, cIv, cHr, cLt, cWt, cIt, cFl, cTn, cCl, cPo, cSt, cDt, cDs, Sl.v, zIns, insV, cDp, cDst])) rfl ?_
   refine Zg ?_
   refine Zi ?_
   refine Zd (l := [0, 1, 2, 3, 4, 5, 6, 7, 8]) rfl ?_
   refine Za rfl rfl rfl rfl (Zc rfl rfl) ?_
   refine Za rfl rfl rfl rfl (Zb (fo := 0) rfl Try.underlying92 rfl i_3 rfl rfl rfl) ?_
   refine Za rfl rfl rfl rfl (Zj rfl rfl (List.mem_append_right _ (Zf 0 rfl)) rfl Try.underlying3 rfl) ?_
   refine Za rfl rfl rfl rfl (Zb (fo := 1) rfl Try.underlying92 rfl i_3 rfl rfl rfl) ?_
   refine Za rfl rfl rfl rfl (Zj rfl rfl (List.mem_append_right _ (Zf 0 rfl)) rfl Try.underlying3 rfl) ?_
   refine Za rfl rfl rfl rfl (Zb (fo := 2) rfl Try.underlying92 rfl i_3 rfl rfl rfl) ?_
   refine Za rfl rfl rfl rfl (Zj rfl rfl (List.mem_append_right _ (Zf 0 rfl)) rfl Try.underlying3 rfl) ?_
   refine Yr rfl rfl rfl rfl (Zn (s := 1) (cs := [_, _, _]) rfl Try.underlying99 i_3 rfl rfl rfl rfl rfl rfl rfl rfl rfl) (fun b64 => ?_)
   refine Yn (L2 := [_, _, _]) rfl rfl rfl rfl rfl rfl Try.call59 (rw_intsL b9 _ _ _ _ [y.v0, y.v1, y.v2] (by simp) (st_l hw hFl)) [2] rfl (Yb (List.mem_append_right _ (Zf 0 rfl)) Yd) ?_
   rintro v post ⟨rfl, rfl⟩
   show G _ _ _ [_, _, _, _] _
   replace hw := st_t hw
   replace gw := st_w gw
   refine Zg ?_
   refine Zi ?_
   refine Zd (l := [0, 1, 2, 3, 4, 5, 6]) rfl ?_
   refine Za rfl rfl rfl rfl (Zc rfl rfl) ?_
   refine Za rfl rfl rfl rfl (Zb (fo := 3) rfl Try.underlying92 rfl i_9 rfl rfl rfl) ?_
   refine Za rfl rfl rfl rfl (Zj rfl rfl (List.mem_append_right _ (Zf 2 rfl)) rfl Try.underlying9 rfl) ?_
   refine Za rfl rfl rfl rfl (Zb (fo := 4) rfl Try.underlying92 rfl i_9 rfl rfl rfl) ?_
   refine Za rfl rfl rfl rfl (Zj rfl rfl (List.mem_append_right _ (Zf 2 rfl)) rfl Try.underlying9 rfl) ?_
   refine Yr rfl rfl rfl rfl (Zn (s := 1) (cs := [_, _]) rfl Try.underlying220 i_9 rfl rfl rfl rfl rfl rfl rfl rfl rfl) (fun b71 => ?_)
   refine Yn (L2 := [_, _, _, _]) rfl rfl rfl rfl rfl rfl Try.call62 (rw_textsL b9 _ _ _ _ [y.v3, y.v4] (by simp) (st_l hw hFl)) [1] rfl (Yb (List.mem_append_right _ (Zf 0 rfl)) Yd) ?_
   rintro v post ⟨rfl, rfl⟩
   show G _ _ _ [_, _, _, _, _] _
   replace hw := st_t hw
   replace gw := st_w gw
   refine Zg ?_
   refine Zi ?_
   refine Zd (l := [0, 1, 2, 3]) rfl ?_
   refine Za rfl rfl rfl rfl (Zc rfl rfl) ?_
   refine Za rfl rfl rfl rfl (Zb (fo := 5) rfl Try.underlying92 rfl i_4 rfl rfl rfl) ?_
   refine Za rfl rfl rfl rfl (Zj rfl rfl (List.mem_append_right _ (Zf 3 rfl)) rfl Try.underlying4 rfl) ?_
   refine Yn (L2 := [_, _, _, _]) rfl rfl rfl rfl rfl rfl Try.call58 (rw_flag b9 _ _ y.v5 (st_l hw hFl)) [0] rfl Yd ?_
   rintro v post ⟨rfl, rfl⟩
   show G _ _ _ [_, _, _, _, _] _
   replace hw := st_t hw
   refine Zg ?_
   refine Zd (l := [0, 1, 2, 3, 4]) rfl ?_
   refine Za rfl rfl rfl rfl (Zc rfl rfl) ?_
   refine Za rfl rfl rfl rfl (Zb (fo := 6) rfl Try.underlying92 rfl i_23 rfl rfl rfl) ?_
   refine Za rfl rfl rfl rfl (Zj rfl rfl (List.mem_append_right _ (Zf 3 rfl)) rfl Try.underlying23 rfl) ?_
   refine Yr rfl rfl rfl rfl (Zn (s := 1) (cs := [_]) rfl Try.underlying219 i_23 rfl rfl rfl rfl rfl rfl rfl rfl rfl) (fun b80 => ?_)
   refine Yn (L2 := [_, _, _, _, _]) rfl rfl rfl rfl rfl rfl Try.call57 (rw_numsL b9 _ _ _ _ [y.v6] (by simp) (by intro z hz; rw [List.mem_singleton.1 hz]; assumption) (st_l hw hFl)) [1] rfl (Yb (List.mem_append_right _ (Zf 0 rfl)) Yd) ?_
   rintro v post ⟨rfl, rfl⟩
   show G _ _ _ [_, _, _, _, _, _] _
   replace hw := st_t hw
   refine Zg ?_
   refine Zs ?_
   refine Zd (l := [0, 1, 2]) rfl ?_
   refine Za rfl rfl rfl rfl (Zc rfl rfl) ?_
   refine Za rfl rfl rfl rfl ((Yu rfl rfl rfl).int (Zv (by omega))) ?_
   refine Za rfl rfl rfl rfl (Zk rfl rfl) ?_
   refine Zg ?_
   refine Yc ?_ [0, 4] ?_ (ih (i + 1, t ++ encIs [y.v0, y.v1, y.v2] ++ encTs [y.v3, y.v4] ++ encB y.v5 ++ encUs [y.v6], ((v || [y.v0, y.v1, y.v2].any badI) || [y.v3, y.v4].any badT)) ?_ ?_)
   · (refine (And.intro ?_ (And.intro ?_ (And.intro ?_ (And.intro ?_ (And.intro ?_ trivial))))) <;> first | rfl | exact Zm (by omega) | exact Zm (by simp))
   · exact ⟨_, rfl⟩
   · exact ⟨by omega, hw, gw⟩
   · (first | omega | (dsimp only; omega))
  refine Yx rfl ?_
  refine Zi ?_
  replace hw := l_open (drop_end (by omega) hw)
  replace gw := l_openB (drop_endB (by omega) gw)
  refine Zd (l := [0, 1, 2, 3, 4]) rfl ?_
  refine Za rfl rfl rfl rfl (Zc rfl rfl) ?_
  refine Za rfl rfl rfl rfl (Zb (fo := 10) rfl Try.underlying38 rfl i_26 rfl rfl rfl) ?_
  refine Za rfl rfl rfl rfl (Zj rfl rfl (List.mem_append_right _ (Zf 1 rfl)) rfl Try.underlying26 rfl) ?_
  refine Za rfl rfl rfl rfl (Yf rfl rfl Try.underlying26 rfl) ?_
  refine Yn (L2 := [_]) rfl rfl rfl rfl rfl rfl Try.call61 (rw_count b9 _ _ x.iv.l.length hx.iv.n (st_l hw hFl)) [0] rfl Yd ?_
  rintro v post ⟨rfl, rfl⟩
  show G _ _ _ [_, _] _
  replace hw := st_t hw
  replace gw := st_w gw
  refine Zg ?_
  refine Zi ?_
  refine Zi ?_
  refine Zd (l := [0]) rfl ?_
  refine Za rfl rfl rfl rfl (Zk rfl rfl) ?_
  refine Zg ?_
  refine Zp ?_
  refine Yc ?he18 [0, 0] ?hl18 (Xc (X := Nat × List UInt8 × Bool) (fun x_ => match x_ with | ⟨i, t, v⟩ => i ≤ x.iv.l.length ∧ t ++ ((x.iv.l.drop i).flatMap encIv ++ (encL encPP (x.po.l.map vDp) ++ encRest x)) = F ∧ (v || ((x.iv.l.drop i).any badIv || (badL badPP (x.po.l.map vDp) || badRest x))) = W) (fun x_ => match x_ with | ⟨i, t, v⟩ => x.iv.l.length - i) (fun x_ => match x_ with | ⟨i, t, v⟩ => [(1, .pointer (some ⟨b1, 0, none⟩)), (2, .string (bs [])), (3, .int .i64 0), (4, .pointer (some ⟨b9, 0, none⟩)), (7, .int .i64 (i : Int))]) (fun x_ => match x_ with | ⟨i, t, v⟩ => [(some b9, .cells #[.string (bs (t)), .bool v] 125 (0, 0)), (some b1, .cells (cDst x).toArray 38 (0, 0))]) ?round18 (0, t ++ chainI (x.iv.l.length : Int), (v || decide (1000 < (x.iv.l.length : Int)))) ?h018)
  case he18 => exact (And.intro rfl (And.intro rfl (And.intro rfl (And.intro rfl (And.intro rfl trivial)))))
  case hl18 => exact ⟨_, rfl⟩
  case h018 => exact ⟨Nat.zero_le _, hw, gw⟩
  case round18 =>
   intro x_ hJ ih2
   try dsimp only at hJ ih2
   obtain ⟨i, t, v⟩ := x_
   try dsimp only at hJ ih2
   obtain ⟨hi, hw, gw⟩ := hJ
   show G _ _ [(1, .pointer (some ⟨b1, 0, none⟩)), (2, .string (bs [])), (3, .int .i64 0), (4, .pointer (some ⟨b9, 0, none⟩)), (7, .int .i64 (i : Int))] [(some b9, .cells #[.string (bs (t)), .bool v] 125 (0, 0)), (some b1, .cells (cDst x).toArray 38 (0, 0))] _
   refine Zi ?_
   refine Zi ?_
   refine Zd (l := [0, 1, 2, 3, 4]) rfl ?_
   refine Za rfl rfl rfl rfl (Zc rfl rfl) ?_
   refine Za rfl rfl rfl rfl (Zb (fo := 10) rfl Try.underlying38 rfl i_26 rfl rfl rfl) ?_
   refine Za rfl rfl rfl rfl (Zj rfl rfl (List.mem_append_right _ (Zf 1 rfl)) rfl Try.underlying26 rfl) ?_
   refine Za rfl rfl rfl rfl (Yf rfl rfl Try.underlying26 rfl) ?_
   refine Za rfl rfl rfl rfl (Xh rfl rfl rfl) ?_
   refine Zg ?_
   refine Yl rfl (fun hc2 => ?_) (fun hc2 => ?_)
   ·
    refine Zu ?_
    refine Zi ?_
    refine Zp ?_
    refine Zi ?_
    obtain ⟨y, hy⟩ := Xv (show i < x.iv.l.length by omega)
    obtain ⟨cy, py, qy, ssy⟩ := hx.iv.isS (i := i) (by omega)
    rw [drop_at_ hy] at hw gw
    replace hw := iv_open hw
    replace gw := iv_openB gw
    refine Ya (Lq := [_]) (isq := [1]) (m := 27) Ym rfl rfl ?_
    refine Zh 0 rfl rfl rfl rfl (by kernel_rfl) (fun _ _ => Zc rfl rfl) ?_
    refine Zh 1 rfl rfl rfl rfl (by kernel_rfl) (fun _ _ => Zb (fo := 10) rfl Try.underlying38 rfl i_26 rfl rfl rfl) ?_
    refine Zh 2 rfl rfl rfl rfl (by kernel_rfl) (fun _ _ => Zj rfl rfl (List.mem_append_right _ (Zf 0 rfl)) rfl Try.underlying26 rfl) ?_
    rw [py]
    refine Zh 3 rfl rfl rfl rfl (by kernel_rfl) (fun _ _ => Zc rfl rfl) ?_
    refine Zh 4 rfl rfl rfl rfl (by kernel_rfl) (fun _ _ => Zl (s := 5) rfl Try.underlying26 i_95 rfl rfl rfl rfl (by omega)) ?_
    refine Zh 5 rfl rfl rfl rfl (by kernel_rfl) (fun _ _ => Zb (fo := _) rfl Try.underlying95 rfl i_3 rfl rfl rfl) ?_
    refine Zh 6 rfl rfl rfl rfl (by kernel_rfl) (fun _ _ => Zj rfl rfl (by rw [← Yg qy]; exact List.mem_append_left _ (Zf 3 rfl)) (Zr (Ys ssy cIv_len hy 0 (by omega) rfl)) Try.underlying3 rfl) ?_
    refine Zh 7 rfl rfl rfl rfl (by kernel_rfl) (fun _ _ => Zb (fo := 10) rfl Try.underlying38 rfl i_26 rfl rfl rfl) ?_
    refine Zh 8 rfl rfl rfl rfl (by kernel_rfl) (fun _ _ => Zj rfl rfl (List.mem_append_right _ (Zf 0 rfl)) rfl Try.underlying26 rfl) ?_
    rw [py]
    refine Zh 9 rfl rfl rfl rfl (by kernel_rfl) (fun _ _ => Zc rfl rfl) ?_
    refine Zh 10 rfl rfl rfl rfl (by kernel_rfl) (fun _ _ => Zl (s := 5) rfl Try.underlying26 i_95 rfl rfl rfl rfl (by omega)) ?_
    refine Zh 11 rfl rfl rfl rfl (by kernel_rfl) (fun _ _ => Zb (fo := _ + 1) rfl Try.underlying95 rfl i_3 rfl rfl rfl) ?_
    refine Zh 12 rfl rfl rfl rfl (by kernel_rfl) (fun _ _ => Zj rfl rfl (by rw [← Yg qy]; exact List.mem_append_left _ (Zf 3 rfl)) (Zr (Ys ssy cIv_len hy 1 (by omega) rfl)) Try.underlying3 rfl) ?_
    refine Zh 13 rfl rfl rfl rfl (by kernel_rfl) (fun _ _ => Zb (fo := 10) rfl Try.underlying38 rfl i_26 rfl rfl rfl) ?_
    refine Zh 14 rfl rfl rfl rfl (by kernel_rfl) (fun _ _ => Zj rfl rfl (List.mem_append_right _ (Zf 0 rfl)) rfl Try.underlying26 rfl) ?_
    rw [py]
    refine Zh 15 rfl rfl rfl rfl (by kernel_rfl) (fun _ _ => Zc rfl rfl) ?_
    refine Zh 16 rfl rfl rfl rfl (by kernel_rfl) (fun _ _ => Zl (s := 5) rfl Try.underlying26 i_95 rfl rfl rfl rfl (by omega)) ?_
    refine Zh 17 rfl rfl rfl rfl (by kernel_rfl) (fun _ _ => Zb (fo := _ + 3) rfl Try.underlying95 rfl i_3 rfl rfl rfl) ?_
    refine Zh 18 rfl rfl rfl rfl (by kernel_rfl) (fun _ _ => Zj rfl rfl (by rw [← Yg qy]; exact List.mem_append_left _ (Zf 3 rfl)) (Zr (Ys ssy cIv_len hy 3 (by omega) rfl)) Try.underlying3 rfl) ?_
    refine Zh 19 rfl rfl rfl rfl (by kernel_rfl) (fun _ _ => Zb (fo := 10) rfl Try.underlying38 rfl i_26 rfl rfl rfl) ?_
    refine Zh 20 rfl rfl rfl rfl (by kernel_rfl) (fun _ _ => Zj rfl rfl (List.mem_append_right _ (Zf 0 rfl)) rfl Try.underlying26 rfl) ?_
    rw [py]
    refine Zh 21 rfl rfl rfl rfl (by kernel_rfl) (fun _ _ => Zc rfl rfl) ?_
    refine Zh 22 rfl rfl rfl rfl (by kernel_rfl) (fun _ _ => Zl (s := 5) rfl Try.underlying26 i_95 rfl rfl rfl rfl (by omega)) ?_
    refine Zh 23 rfl rfl rfl rfl (by kernel_rfl) (fun _ _ => Zb (fo := _ + 4) rfl Try.underlying95 rfl i_3 rfl rfl rfl) ?_
    refine Zh 24 rfl rfl rfl rfl (by kernel_rfl) (fun _ _ => Zj rfl rfl (by rw [← Yg qy]; exact List.mem_append_left _ (Zf 3 rfl)) (Zr (Ys ssy cIv_len hy 4 (by omega) rfl)) Try.underlying3 rfl) ?_
    refine GH_all [25] (by kernel_rfl) (by decide) ?_
    refine (And.intro ?_ trivial)
    ·
     refine Yz rfl rfl rfl rfl (Zn (s := 1) (cs := [_, _, _, _]) rfl Try.underlying99 i_3 rfl rfl rfl rfl rfl rfl rfl rfl rfl) [2] (fun _ => ⟨_, rfl⟩) (fun b119 => ?_)
     refine GH_all [26] (by kernel_rfl) (by decide) ?_
     refine (And.intro ?_ trivial)
     ·
      refine Xq (L2 := [_, _]) rfl rfl rfl rfl rfl rfl Try.call59 (rw_intsL b9 _ _ _ _ [y.v0, y.v1, y.v3, y.v4] (by simp) (st_l hw hFl)) [1] rfl (Yb (List.mem_append_right _ (Zf 0 rfl)) Yd) [2] (by rintro v post ⟨rfl, rfl⟩; exact ⟨_, rfl⟩) ?_
      rintro v post ⟨rfl, rfl⟩
      show GH _ _ _ _ _ _ _ [_, _, _] _
      replace hw := st_t hw
      replace gw := st_w gw
      refine Zw (by kernel_rfl) ?_
      refine Zd (l := [0, 1, 2, 3, 4, 5, 6, 7, 8]) rfl ?_
      refine Za rfl rfl rfl rfl (Zc rfl rfl) ?_
      refine Za rfl rfl rfl rfl (Zb (fo := 10) rfl Try.underlying38 rfl i_26 rfl rfl rfl) ?_
      refine Za rfl rfl rfl rfl (Zj rfl rfl (List.mem_append_right _ (Zf 2 rfl)) rfl Try.underlying26 rfl) ?_
      rw [py]
      refine Za rfl rfl rfl rfl (Zc rfl rfl) ?_
      refine Za rfl rfl rfl rfl (Zl (s := 5) rfl Try.underlying26 i_95 rfl rfl rfl rfl (by omega)) ?_
      refine Za rfl rfl rfl rfl (Zb (fo := _ + 2) rfl Try.underlying95 rfl i_9 rfl rfl rfl) ?_
      refine Za rfl rfl rfl rfl (Zj rfl rfl (by rw [← Yg qy]; exact List.mem_append_left _ (Zf 3 rfl)) (Zr (Ys ssy cIv_len hy 2 (by omega) rfl)) Try.underlying9 rfl) ?_
      refine Yr rfl rfl rfl rfl (Zn (s := 1) (cs := [_]) rfl Try.underlying220 i_9 rfl rfl rfl rfl rfl rfl rfl rfl rfl) (fun b128 => ?_)
      refine Yn (L2 := [_, _, _]) rfl rfl rfl rfl rfl rfl Try.call62 (rw_textsL b9 _ _ _ _ [y.v2] (by simp) (st_l hw hFl)) [1] rfl (Yb (List.mem_append_right _ (Zf 0 rfl)) Yd) ?_
      rintro v post ⟨rfl, rfl⟩
      show G _ _ _ [_, _, _, _] _
      replace hw := st_t hw
      replace gw := st_w gw
      refine Zg ?_
      refine Zs ?_
      refine Zd (l := [0, 1, 2]) rfl ?_
      refine Za rfl rfl rfl rfl (Zc rfl rfl) ?_
      refine Za rfl rfl rfl rfl ((Yu rfl rfl rfl).int (Zv (by omega))) ?_
      refine Za rfl rfl rfl rfl (Zk rfl rfl) ?_
      refine Zg ?_
      refine Yc ?_ [0, 2] ?_ (ih2 (i + 1, t ++ encIs [y.v0, y.v1, y.v3, y.v4] ++ encTs [y.v2], ((v || [y.v0, y.v1, y.v3, y.v4].any badI) || [y.v2].any badT)) ?_ ?_)
      · (refine (And.intro ?_ (And.intro ?_ (And.intro ?_ (And.intro ?_ (And.intro ?_ trivial))))) <;> first | rfl | exact Zm (by omega) | exact Zm (by simp))
      · exact ⟨_, rfl⟩
      · exact ⟨by omega, hw, gw⟩
      · (first | omega | (dsimp only; omega))
   refine Yx rfl ?_
   refine Zi ?_
   replace hw := drop_end (by omega) hw
   replace gw := drop_endB (by omega) gw
   refine Zd (l := [0, 1, 2, 3]) rfl ?_
   refine Za rfl rfl rfl rfl (Zc rfl rfl) ?_
   refine Za rfl rfl rfl rfl (Zb (fo := 11) rfl Try.underlying38 rfl i_36 rfl rfl rfl) ?_
   refine Za rfl rfl rfl rfl (Zj rfl rfl (List.mem_append_right _ (Zf 1 rfl)) rfl Try.underlying36 rfl) ?_
   refine Yn (L2 := [_]) rfl rfl rfl rfl rfl rfl Try.call63 (rw_pools b9 _ _ x.po hx.po hx.po2 (st_l hw hFl)) [0] rfl (fun z hz => List.mem_append_left _ (List.mem_append_right ([_, _, _, _, _, _, _] : List HBk) hz)) ?_
   rintro v post ⟨tp, wp, hlen, hwp, himp, rfl, rfl⟩
   show G _ _ _ [_, _] _
   refine Zg ?_
   refine Zi ?_
   refine Zd (l := [0, 1, 2]) rfl ?_
   refine Za rfl rfl rfl rfl (Zc rfl rfl) ?_
   refine Za rfl rfl rfl rfl (V_loadW (s := 15) rfl rfl (List.mem_append_right _ (Zf 1 rfl)) Try.underlying38 rfl i_38 rfl (by rfl)) ?_
   refine Yn (L2 := [_]) rfl rfl rfl rfl rfl rfl Try.call64 (rw_rest b9 tp wp x hx k4 (by have := congrArg List.length hw; simp only [List.length_append] at this; omega)) [0] rfl (Yb (List.mem_append_left _ (Zf 4 rfl)) (Yb (List.mem_append_left _ (Zf 5 rfl)) (Yb (List.mem_append_left _ (Zf 6 rfl)) Yd))) ?_
   rintro v post ⟨rfl, rfl⟩
   show G _ _ _ [_, _] _
   refine Zg ?_
   refine Zi ?_
   refine Zi ?_
   obtain ⟨e1, e2⟩ := ds_end hw gw hwp himp
   refine Zd (l := [0, 1, 2, 3]) rfl ?_
   refine Za rfl rfl rfl rfl (Zc rfl rfl) ?_
   refine Za rfl rfl rfl rfl (Ze rfl rfl) ?_
   refine Za rfl rfl rfl rfl (Zb (fo := 1) rfl Try.underlying125 rfl i_4 rfl rfl rfl) ?_
   refine Za rfl rfl rfl rfl (Zj rfl rfl (List.mem_append_right _ (Zf 0 rfl)) rfl Try.underlying4 rfl) ?_
   refine Zg ?_
   refine G_if rfl (fun hc3 => ?_) (fun hc3 => ?_)
   ·
    refine Zi ?_
    refine Zd (l := [0, 1]) rfl ?_
    refine Za rfl rfl rfl rfl (Zk rfl rfl) ?_
    refine Za rfl rfl rfl rfl (Zk rfl rfl) ?_
    refine Zg ?_
    refine Xa (post := []) Try.func17 rfl (Zy (Yy rfl) (Zy (Yy rfl) Zo)) [] rfl ?_
    dsimp only [packed]
    first
      | exact ⟨(dumpP_bad (by rw [hW, ← e1]; assumption)).symm, rfl⟩
      | (have hf : (wp || badRest x) = false := by assumption
         exact ⟨by rw [dumpP_ok (by rw [hW, ← e1]; exact hf), hF, e2 hf], rfl⟩)
   refine Zu ?_
   refine Zi ?_
   refine Zd (l := [0, 1, 2, 3, 4, 5]) rfl ?_
   refine Za rfl rfl rfl rfl (Zc rfl rfl) ?_
   refine Za rfl rfl rfl rfl (Ze rfl rfl) ?_
   refine Za rfl rfl rfl rfl (Zb (fo := 0) rfl Try.underlying125 rfl i_9 rfl rfl rfl) ?_
   refine Za rfl rfl rfl rfl (Zj rfl rfl (List.mem_append_right _ (Zf 0 rfl)) rfl Try.underlying9 rfl) ?_
   refine Za rfl rfl rfl rfl (Zk rfl rfl) ?_
   refine Za rfl rfl rfl rfl (Zk rfl rfl) ?_
   refine Zg ?_
   refine Xa (post := []) Try.func17 rfl (Zy (Yy rfl) (Zy (Yy rfl) Zo)) [] rfl ?_
   dsimp only [packed]
   first
     | exact ⟨(dumpP_bad (by rw [hW, ← e1]; assumption)).symm, rfl⟩
     | (have hf : (wp || badRest x) = false := by assumption
        exact ⟨by rw [dumpP_ok (by rw [hW, ← e1]; exact hf), hF, e2 hf], rfl⟩)

end
end Go.Proofs.Ytjnaeoelnmhjfaa

set_option linter.unusedSimpArgs false
set_option linter.unusedVariables false
namespace Go.Proofs.Ytjnaeoelnmhjfaa
open Go Go.RowKit

def KeyOk (P : Program) (d : Nat) (t : TypeId) (cs : List Value) : Prop := ∃ l, P.keyLits d t cs = some l
theorem mapM_ex {α β : Type} {f : α → Option β} : ∀ {L : List α}, (∀ x ∈ L, ∃ a, f x = some a) → ∃ az, L.mapM f = some az
  | [], _ => ⟨[], rfl⟩
  | x :: L, h => by
    obtain ⟨a, ha⟩ := h x List.mem_cons_self
    obtain ⟨az, haz⟩ := mapM_ex fun y hy => h y (List.mem_cons_of_mem _ hy)
    exact ⟨a :: az, by rw [List.mapM_cons, ha, haz]; rfl⟩
theorem ko_i64 {P : Program} {d : Nat} {t : TypeId} {n : Int} (hu : P.underlying t = some (.int .i64)) (h : 0 ≤ n ∧ n ≤ 1099511627776) : KeyOk P (d + 1) t [.int .i64 n] := by
  have h0 : (-9223372036854775808 : Int) ≤ n := by omega
  have h1 : n ≤ (9223372036854775807 : Int) := by omega
  unfold KeyOk Program.keyLits
  simp only [hu]
  rw [if_pos ⟨trivial, by simp only [Lit.wf, Bool.and_eq_true, decide_eq_true_eq]; exact ⟨h0, h1⟩⟩]
  exact ⟨_, rfl⟩
theorem ko_u64 {P : Program} {d : Nat} {t : TypeId} {n : Nat} (hu : P.underlying t = some (.int .u64)) (h : n < 18446744073709551616) : KeyOk P (d + 1) t [.int .u64 (n : Int)] := by
  have h0 : (0 : Int) ≤ (n : Int) := by omega
  have h1 : (n : Int) ≤ (18446744073709551615 : Int) := by omega
  unfold KeyOk Program.keyLits
  simp only [hu]
  rw [if_pos ⟨trivial, by simp only [Lit.wf, Bool.and_eq_true, decide_eq_true_eq]; exact ⟨h0, h1⟩⟩]
  exact ⟨_, rfl⟩
theorem ko_str {P : Program} {d : Nat} {t : TypeId} {l : List UInt8} (hu : P.underlying t = some .string) (h : l.length ≤ 9223372036854775807) : KeyOk P (d + 1) t [.string (bs l)] := by
  unfold KeyOk Program.keyLits
  simp only [hu]
  rw [if_pos (by rw [bs_size]; unfold maxLen; omega)]
  exact ⟨_, rfl⟩
theorem ko_bool {P : Program} {d : Nat} {t : TypeId} {b : Bool} (hu : P.underlying t = some .bool) : KeyOk P (d + 1) t [.bool b] := by
  unfold KeyOk Program.keyLits
  simp only [hu]
  exact ⟨_, rfl⟩
def AllK (P : Program) (d : Nat) (cs : List Value) : List Field → Prop
  | [] => True
  | f :: r => (∃ s, P.cellsOf f.type = s ∧ KeyOk P d f.type ((cs.drop f.offset).take s)) ∧ AllK P d cs r
theorem allK {P : Program} {d : Nat} {cs : List Value} : ∀ {fs : List Field}, AllK P d cs fs → ∀ f ∈ fs, KeyOk P d f.type ((cs.drop f.offset).take (P.cellsOf f.type))
  | [], _, _, h => by cases h
  | g :: r, h, f, hf => by
    rcases List.mem_cons.1 hf with rfl | hf
    · obtain ⟨s, rfl, hk⟩ := h.1; exact hk
    · exact allK h.2 f hf
theorem ko_struct {P : Program} {d : Nat} {t : TypeId} {fs : Array Field} {cs : List Value} (hu : P.underlying t = some (.struct fs)) (hn : cs.length = P.cellsOf t) (hb : fs.all (·.name != "_") = true) (h : AllK P d cs fs.toList) : KeyOk P (d + 1) t cs := by
  obtain ⟨az, haz⟩ := mapM_ex (f := fun f : Field => P.keyLits d f.type ((cs.drop f.offset).take (P.cellsOf f.type))) (L := fs.toList) (allK h)
  unfold KeyOk Program.keyLits
  simp only [hu]
  rw [if_pos ⟨hn, hb⟩, haz]
  exact ⟨_, rfl⟩
theorem ko_ints {P : Program} {d : Nat} {t e : TypeId} {n : Nat} {xs : List Int} (hu : P.underlying t = some (.array n e)) (he : P.underlying e = some (.int .i64)) (hc : P.cellsOf t = n) (h1 : P.cellsOf e = 1) (hn : xs.length = n) (h : ∀ x ∈ xs, 0 ≤ x ∧ x ≤ 1099511627776) : KeyOk P (d + 2) t (xs.map fun z => Value.int .i64 z) := by
  obtain ⟨az, haz⟩ := mapM_ex (f := fun i : Nat => P.keyLits (d + 1) e (((xs.map fun z => Value.int .i64 z).drop (i * 1)).take 1)) (L := List.range n) (fun i hi => by
    have hi : i < xs.length := by rw [hn]; exact List.mem_range.1 hi
    rw [Nat.mul_one, ← List.map_drop, ← List.map_take, List.drop_eq_getElem_cons hi, List.take_succ_cons, List.take_zero, List.map_singleton]
    exact ko_i64 he (h _ (List.getElem_mem hi)))
  unfold KeyOk Program.keyLits
  simp only [hu]
  rw [if_pos (by rw [List.length_map, hn, hc]), h1, haz]
  exact ⟨_, rfl⟩
end Go.Proofs.Ytjnaeoelnmhjfaa

set_option linter.unusedSimpArgs false
set_option linter.unusedVariables false
namespace Go.Proofs.Ytjnaeoelnmhjfaa
open Go Go.RowKit

section



theorem gi_bd {x : Int} (h : GI x) : 0 ≤ x ∧ x ≤ 1099511627776 := GI_iff.1 h
theorem gt_bd {s : List UInt8} (h : GT s) : s.length ≤ 9223372036854775807 := by have := GT_iff.1 h; omega
theorem key_Op {x : Op} (h : GOp x) : ∃ l, Try.prog.keyLits 4 137 (cOp x).toArray.toList = some l := by
  obtain ⟨⟨b0, b1⟩, ⟨u2, u3, u4⟩⟩ := gOp_iff.1 h
  exact ko_struct Try.underlying137 (by kernel_rfl) (by kernel_rfl) ⟨⟨1, by kernel_rfl, ko_i64 Try.underlying3 (gi_bd (Xj.2 b0 x.v0 (by simp)))⟩, ⟨⟨1, by kernel_rfl, ko_i64 Try.underlying3 (gi_bd (Xj.2 b0 x.v1 (by simp)))⟩, ⟨⟨1, by kernel_rfl, ko_i64 Try.underlying3 (gi_bd (Xj.2 b0 x.v2 (by simp)))⟩, ⟨⟨3, by kernel_rfl, ko_struct Try.underlying135 (by kernel_rfl) (by kernel_rfl) ⟨⟨1, by kernel_rfl, ko_str Try.underlying9 (gt_bd (gts_any.2 b1 x.v3 (by simp)))⟩, ⟨⟨1, by kernel_rfl, ko_str Try.underlying9 (gt_bd (gts_any.2 b1 x.v4 (by simp)))⟩, ⟨⟨1, by kernel_rfl, ko_str Try.underlying9 (gt_bd (gts_any.2 b1 x.v5 (by simp)))⟩, trivial⟩⟩⟩⟩, ⟨⟨1, by kernel_rfl, ko_i64 Try.underlying3 (gi_bd (Xj.2 b0 x.v6 (by simp)))⟩, ⟨⟨1, by kernel_rfl, ko_i64 Try.underlying3 (gi_bd (Xj.2 b0 x.v7 (by simp)))⟩, ⟨⟨1, by kernel_rfl, ko_i64 Try.underlying3 (gi_bd (Xj.2 b0 x.v8 (by simp)))⟩, ⟨⟨1, by kernel_rfl, ko_i64 Try.underlying3 (gi_bd (Xj.2 b0 x.v9 (by simp)))⟩, ⟨⟨1, by kernel_rfl, ko_i64 Try.underlying3 (gi_bd (Xj.2 b0 x.v10 (by simp)))⟩, ⟨⟨1, by kernel_rfl, ko_i64 Try.underlying3 (gi_bd (Xj.2 b0 x.v11 (by simp)))⟩, ⟨⟨1, by kernel_rfl, ko_i64 Try.underlying3 (gi_bd (Xj.2 b0 x.v12 (by simp)))⟩, ⟨⟨1, by kernel_rfl, ko_i64 Try.underlying3 (gi_bd (Xj.2 b0 x.v13 (by simp)))⟩, ⟨⟨1, by kernel_rfl, ko_i64 Try.underlying3 (gi_bd (Xj.2 b0 x.v14 (by simp)))⟩, ⟨⟨1, by kernel_rfl, ko_u64 Try.underlying23 u2⟩, ⟨⟨1, by kernel_rfl, ko_u64 Try.underlying23 u3⟩, ⟨⟨1, by kernel_rfl, ko_u64 Try.underlying23 u4⟩, trivial⟩⟩⟩⟩⟩⟩⟩⟩⟩⟩⟩⟩⟩⟩⟩⟩
theorem key_Wk {x : Wk} (h : GWk x) : ∃ l, Try.prog.keyLits 4 92 (cWk x).toArray.toList = some l := by
  obtain ⟨⟨b0, b1⟩, u3⟩ := gWk_iff.1 h
  exact ko_struct Try.underlying92 (by kernel_rfl) (by kernel_rfl) ⟨⟨1, by kernel_rfl, ko_i64 Try.underlying3 (gi_bd (Xj.2 b0 x.v0 (by simp)))⟩, ⟨⟨1, by kernel_rfl, ko_i64 Try.underlying3 (gi_bd (Xj.2 b0 x.v1 (by simp)))⟩, ⟨⟨1, by kernel_rfl, ko_i64 Try.underlying3 (gi_bd (Xj.2 b0 x.v2 (by simp)))⟩, ⟨⟨1, by kernel_rfl, ko_str Try.underlying9 (gt_bd (gts_any.2 b1 x.v3 (by simp)))⟩, ⟨⟨1, by kernel_rfl, ko_str Try.underlying9 (gt_bd (gts_any.2 b1 x.v4 (by simp)))⟩, ⟨⟨1, by kernel_rfl, ko_bool Try.underlying4⟩, ⟨⟨1, by kernel_rfl, ko_u64 Try.underlying23 u3⟩, trivial⟩⟩⟩⟩⟩⟩⟩
theorem key_Iv {x : Iv} (h : GIv x) : ∃ l, Try.prog.keyLits 4 95 (cIv x).toArray.toList = some l := by
  obtain ⟨⟨b0, b1⟩, _⟩ := gIv_iff.1 h
  exact ko_struct Try.underlying95 (by kernel_rfl) (by kernel_rfl) ⟨⟨1, by kernel_rfl, ko_i64 Try.underlying3 (gi_bd (Xj.2 b0 x.v0 (by simp)))⟩, ⟨⟨1, by kernel_rfl, ko_i64 Try.underlying3 (gi_bd (Xj.2 b0 x.v1 (by simp)))⟩, ⟨⟨1, by kernel_rfl, ko_str Try.underlying9 (gt_bd (gts_any.2 b1 x.v2 (by simp)))⟩, ⟨⟨1, by kernel_rfl, ko_i64 Try.underlying3 (gi_bd (Xj.2 b0 x.v3 (by simp)))⟩, ⟨⟨1, by kernel_rfl, ko_i64 Try.underlying3 (gi_bd (Xj.2 b0 x.v4 (by simp)))⟩, trivial⟩⟩⟩⟩⟩
theorem key_Hr {x : Hr} (h : GHr x) : ∃ l, Try.prog.keyLits 4 141 (cHr x).toArray.toList = some l := by
  obtain ⟨⟨b0, b1⟩, _⟩ := gHr_iff.1 h
  exact ko_struct Try.underlying141 (by kernel_rfl) (by kernel_rfl) ⟨⟨1, by kernel_rfl, ko_str Try.underlying9 (gt_bd (gts_any.2 b0 x.v0 (by simp)))⟩, ⟨⟨16, by kernel_rfl, ko_ints (xs := [x.v1, x.v2, x.v3, x.v4, x.v5, x.v6, x.v7, x.v8, x.v9, x.v10, x.v11, x.v12, x.v13, x.v14, x.v15, x.v16]) Try.underlying139 Try.underlying3 (by kernel_rfl) (by kernel_rfl) rfl (fun y hy => gi_bd (Xj.2 b1 y hy))⟩, trivial⟩⟩
theorem key_Lt {x : Lt} (h : GLt x) : ∃ l, Try.prog.keyLits 4 143 (cLt x).toArray.toList = some l := by
  obtain ⟨⟨b0, b1⟩, u2⟩ := gLt_iff.1 h
  exact ko_struct Try.underlying143 (by kernel_rfl) (by kernel_rfl) ⟨⟨1, by kernel_rfl, ko_i64 Try.underlying3 (gi_bd (Xj.2 b0 x.v0 (by simp)))⟩, ⟨⟨1, by kernel_rfl, ko_i64 Try.underlying3 (gi_bd (Xj.2 b0 x.v1 (by simp)))⟩, ⟨⟨1, by kernel_rfl, ko_i64 Try.underlying3 (gi_bd (Xj.2 b0 x.v2 (by simp)))⟩, ⟨⟨1, by kernel_rfl, ko_i64 Try.underlying3 (gi_bd (Xj.2 b0 x.v3 (by simp)))⟩, ⟨⟨1, by kernel_rfl, ko_str Try.underlying9 (gt_bd (gts_any.2 b1 x.v4 (by simp)))⟩, ⟨⟨1, by kernel_rfl, ko_u64 Try.underlying23 u2⟩, trivial⟩⟩⟩⟩⟩⟩
theorem key_Wt {x : Wt} (h : GWt x) : ∃ l, Try.prog.keyLits 4 145 (cWt x).toArray.toList = some l := by
  obtain ⟨⟨b0, b1⟩, _⟩ := gWt_iff.1 h
  exact ko_struct Try.underlying145 (by kernel_rfl) (by kernel_rfl) ⟨⟨1, by kernel_rfl, ko_str Try.underlying9 (gt_bd (gts_any.2 b0 x.v0 (by simp)))⟩, ⟨⟨1, by kernel_rfl, ko_i64 Try.underlying3 (gi_bd (Xj.2 b1 x.v1 (by simp)))⟩, trivial⟩⟩
theorem key_It {x : It} (h : GIt x) : ∃ l, Try.prog.keyLits 4 262 (cIt x).toArray.toList = some l := by
  obtain ⟨b0, _⟩ := gIt_iff.1 h
  exact ko_struct Try.underlying262 (by kernel_rfl) (by kernel_rfl) ⟨⟨1, by kernel_rfl, ko_i64 Try.underlying3 (gi_bd (Xj.2 b0 x.v0 (by simp)))⟩, ⟨⟨1, by kernel_rfl, ko_i64 Try.underlying3 (gi_bd (Xj.2 b0 x.v1 (by simp)))⟩, trivial⟩⟩

end
end Go.Proofs.Ytjnaeoelnmhjfaa

set_option linter.unusedSimpArgs false
set_option linter.unusedVariables false
namespace Go.Proofs.Ytjnaeoelnmhjfaa
open Go Go.RowKit

section
theorem map_at {α β γ : Type} {f : α → γ} {g : β → γ} {l : List α} {m : List β} (h : l.map f = m.map g) {i : Nat} {x : α} {y : β} (hx : l[i]? = some x) (hy : m[i]? = some y) : f x = g y := by
  have h1 := congrArg (fun z => z[i]?) h
  simp only [List.getElem?_map, hx, hy, Option.map_some, Option.some.injEq] at h1
  exact h1
theorem in_a1 {α : Type} {K : α → List HBk} {l1 l2 : List α} {a b : HBk} {i : Nat} {y : α} {z : HBk} (hy : l1[i]? = some y) (hz : z ∈ K y) : z ∈ a :: b :: (l1.flatMap K ++ l2.flatMap K) := List.mem_cons_of_mem _ (List.mem_cons_of_mem _ (List.mem_append_left _ (List.mem_flatMap.2 ⟨y, List.mem_of_getElem? hy, hz⟩)))
theorem in_a2 {α : Type} {K : α → List HBk} {l1 l2 : List α} {a b : HBk} {i : Nat} {y : α} {z : HBk} (hy : l2[i]? = some y) (hz : z ∈ K y) : z ∈ a :: b :: (l1.flatMap K ++ l2.flatMap K) := List.mem_cons_of_mem _ (List.mem_cons_of_mem _ (List.mem_append_right _ (List.mem_flatMap.2 ⟨y, List.mem_of_getElem? hy, hz⟩)))
theorem sub_2 {S1 S2 A : List HBk} {a b : HBk} (h1 : ∀ z ∈ a :: S1, z ∈ A) (h2 : ∀ z ∈ b :: S2, z ∈ A) : ∀ z ∈ a :: b :: (S1 ++ S2), z ∈ A := by
  intro z hz
  simp only [List.mem_cons, List.mem_append] at hz
  rcases hz with rfl | rfl | hz | hz
  · exact h1 _ List.mem_cons_self
  · exact h2 _ List.mem_cons_self
  · exact h1 _ (List.mem_cons_of_mem _ hz)
  · exact h2 _ (List.mem_cons_of_mem _ hz)

end
end Go.Proofs.Ytjnaeoelnmhjfaa
