/- What the law DumpDecodes needs, part 6.  -/
import Derived.Test.YtjnaeoelnmhjfaaPkDumpDecodes1
import Derived.Test.YtjnaeoelnmhjfaaPkDumpDecodes2
import Derived.Test.YtjnaeoelnmhjfaaPkDumpDecodes3
import Derived.Test.YtjnaeoelnmhjfaaPkDumpDecodes4
import Derived.Test.YtjnaeoelnmhjfaaPkDumpDecodes5


set_option linter.unusedSimpArgs false
set_option linter.unusedVariables false
namespace Go.Proofs.Ytjnaeoelnmhjfaa
open Go Go.RowKit

section
theorem i_207 : Try.prog.info? 207 = some Try.t207 := by kernel_rfl
theorem i_210 : Try.prog.info? 210 = some Try.t210 := by kernel_rfl
theorem i_212 : Try.prog.info? 212 = some Try.t212 := by kernel_rfl
theorem i_217 : Try.prog.info? 217 = some Try.t217 := by kernel_rfl
theorem p_212 : placesOf Try.prog (Try.prog.fieldsOf 212) = some [(0, 1), (1, 1), (2, 1), (3, 3)] := by kernel_rfl
theorem p_217 : placesOf Try.prog (Try.prog.fieldsOf 217) = some [(0, 1), (1, 1), (2, 1), (3, 1)] := by kernel_rfl
theorem p_262 : placesOf Try.prog (Try.prog.fieldsOf 262) = some [(0, 1), (1, 1)] := by kernel_rfl


theorem rdg_Le {α : Type} {enc : α → List UInt8} {g : α → Prop} {n i : Nat} {vs : List α} {l l0 l1 : List UInt8} {e e0 e1 : Nat} (he : e ≤ 1000) (h0 : rdInt 1000 l e = (n, l0, e0)) (h : RdgL enc g n l0 e0 i vs l1 e1) (hi : i = n ∨ e1 ≠ 0) : Rdg (encL enc) (GL g) l e vs l1 e1 := by
  rcases hi with rfl | hi
  · exact rdg_L he h0 h
  · exact rdg_Lbad he h0 h hi _
def vDt (x : Dt) : PT := ⟨x.v0, x.v1, x.v2, x.g, x.s.l.map vFl⟩

set_option maxRecDepth 100000 in
set_option maxHeartbeats 4000000 in
theorem rq_flows (br : Nat) (l : List UInt8) (e : Nat) (hl : l.length ≤ 140737488350000) (he : e ≤ 1000) :
    Ct Try.prog 145 [.pointer (some ⟨br, 0, none⟩)] [] [(some br, .cells #[.string (bs l), .int .i64 ((e : Nat) : Int)] 86 (0, 0))] fun v post => ∃ (s : Ins Fl) (l1 : List UInt8) (e1 : Nat) (M : List HBk), InsOk 4 cFl s ∧ s.l.length ≤ 1000 ∧ Rdg (encL encPF) (GL GPF) l e (s.l.map vFl) l1 e1 ∧ (∀ m ∈ s.l, OkFl m) ∧ (∀ z ∈ insK s :: s.l.flatMap kFl, z ∈ M) ∧ v = insV s ∧ post = (some br, .cells #[.string (bs l1), .int .i64 ((e1 : Nat) : Int)] 86 (0, 0)) :: M := by
 refine Yu Try.func145 rfl rfl (fun w0 => ?_)
 show G _ _ [(0, _)] _ _
 refine Zh ?_
 refine Zd (l := [0]) rfl ?_
 refine Za rfl rfl rfl rfl (Zk rfl rfl) ?_
 refine Zg ?_
 refine Zh ?_
 refine Zd (l := [0, 1]) rfl ?_
 refine Yw rfl rfl rfl rfl (N_build0 rfl Try.underlying207 i_217) (fun b10 => ?_)
 refine Za rfl rfl rfl rfl (Zk rfl rfl) ?_
 refine Zg ?_
 refine Zh ?_
 refine Zd (l := [0, 1, 2]) rfl ?_
 refine Za rfl rfl rfl rfl (Zc rfl rfl) ?_
 refine Zq (L2 := [_]) rfl rfl rfl rfl rfl rfl Try.call40 (rq_N br l e (by omega) he) [1] [] rfl rfl ?_
 rintro v post ⟨n, l0, e0, h0, rfl, rfl⟩
 show G _ _ _ [_, _] _
 obtain ⟨hn, hl0, he0⟩ := rd_n he h0
 refine Za rfl rfl rfl rfl (Zk rfl rfl) ?_
 refine Zg ?_
 refine Zh ?_
 refine Zh ?_
 refine Zd (l := [0]) rfl ?_
 refine Za rfl rfl rfl rfl (Zk rfl rfl) ?_
 refine Zg ?_
 refine Zs ?_
 refine Xj (L1 := [_, _]) ?he4 [0, 0] ?hl4 (Xb (X := Nat × Sl × List Fl × List UInt8 × Nat × List HBk) (fun x_ => match x_ with | ⟨i, u, ms, l1, e1, M⟩ => i ≤ n ∧ ms.length = i ∧ Own 4 u (ms.flatMap cFl) i ∧ RdgL encPF GPF n l0 e0 i (ms.map vFl) l1 e1 ∧ (∀ m ∈ ms, OkFl m) ∧ ∀ z ∈ ms.flatMap kFl, z ∈ M) (fun x_ => match x_ with | ⟨i, u, ms, l1, e1, M⟩ => n - i) (fun x_ => match x_ with | ⟨i, u, ms, l1, e1, M⟩ => [(0, .pointer (some ⟨br, 0, none⟩)), (3, u.v i), (4, .int .i64 (n : Int)), (5, .int .i64 (i : Int))]) (fun x_ => match x_ with | ⟨i, u, ms, l1, e1, M⟩ => ((some br, .cells #[.string (bs l1), .int .i64 ((e1 : Nat) : Int)] 86 (0, 0)) :: (u.ob, .cells u.cs 217 u.fz) :: M)) ?round4 (0, ⟨some b10, #[], (0, 0), 0⟩, [], l0, e0, []) ?h04)
 case he4 => exact (And.intro rfl (And.intro rfl (And.intro rfl (And.intro rfl trivial))))
 case hl4 => exact ⟨_, _, rfl, .refl _⟩
 case h04 => exact ⟨Nat.zero_le _, rfl, own_empty 4 b10, .zero he0, by simp, by simp⟩
 case round4 =>
  intro x_ hJ ih
  try dsimp only at hJ ih
  obtain ⟨i, u, ms, l1, e1, M⟩ := x_
  try dsimp only at hJ ih
  obtain ⟨hi, hml, hu, hx, hoks, hM⟩ := hJ
  show G _ _ [(0, .pointer (some ⟨br, 0, none⟩)), (3, u.v i), (4, .int .i64 (n : Int)), (5, .int .i64 (i : Int))] ((some br, .cells #[.string (bs l1), .int .i64 ((e1 : Nat) : Int)] 86 (0, 0)) :: (u.ob, .cells u.cs 217 u.fz) :: M) _
  have hl1 := hx.len
  have he1 := hx.err
  refine Zh ?_
  refine Zh ?_
  refine Zd (l := [0, 1, 2, 3, 4, 5, 6, 7, 8, 9]) rfl ?_
  refine Za rfl rfl rfl rfl (Zc rfl rfl) ?_
  refine Za rfl rfl rfl rfl (Zc rfl rfl) ?_
  refine Za rfl rfl rfl rfl (Xn rfl rfl rfl) ?_
  refine Za rfl rfl rfl rfl (Zc rfl rfl) ?_
  refine Xa 16 rfl (fun hc1 => ?_) (fun hc1 => ?_)
  ·
   refine Za rfl rfl rfl rfl (Zc rfl rfl) ?_
   refine Za rfl rfl rfl rfl (Ze rfl rfl) ?_
   refine Za rfl rfl rfl rfl (Zb (fo := 1) rfl Try.underlying86 rfl i_3 rfl rfl rfl) ?_
   refine Za rfl rfl rfl rfl (Zj rfl rfl (Zf 0 rfl) rfl Try.underlying3 rfl) ?_
   refine Za rfl rfl rfl rfl (V_eql rfl rfl rfl) ?_
   refine Za rfl rfl rfl rfl (Yz rfl rfl rfl) ?_
   refine Zg ?_
   refine Yk rfl (fun hc2 => ?_) (fun hc2 => ?_)
   ·
    refine Zu ?_
    refine Zh ?_
    refine Zs ?_
    refine Zh ?_
    refine Zd (l := [0, 1, 2, 3, 4]) rfl ?_
    refine Za rfl rfl rfl rfl (Zc rfl rfl) ?_
    refine Zq (L2 := (_ :: _)) rfl rfl rfl rfl rfl rfl Try.call38 (rq_I br l1 e1 (by omega) (by omega)) [0] [] rfl rfl ?_
    rintro v post ⟨a0, l2, e2, r2, rfl, rfl⟩
    show G _ _ _ (_ :: _ :: _) _
    have hl2_ := r2.len
    have he2_ := r2.err
    refine Za rfl rfl rfl rfl (Xw (cs := [_, _, _, _]) rfl Try.underlying217 i_217 rfl p_217 rfl rfl rfl) ?_
    refine Yw rfl rfl rfl rfl (Ym rfl i_217 rfl) (fun b6 => ?_)
    refine Yj (l1 := []) (L' := (_ :: _ :: _ :: _)) rfl rfl rfl rfl (Yv (s := 4) rfl rfl rfl (Zf 0 rfl) (by rfl) i_217 rfl (by rfl) (by simp [Value.oneCell', cOp, cWk, cIv, cHr, cLt, cWt, cIt, cFl, cTn, cCl, cPo, cSt, cDt, cDs, Sl.v, zIns, insV])) rfl ?_
    refine Zg ?_
    refine Zh ?_
    refine Zd (l := [0, 1, 2, 3]) rfl ?_
    refine Za rfl rfl rfl rfl (Zc rfl rfl) ?_
    refine Zq (L2 := (_ :: _ :: _)) rfl rfl rfl rfl rfl rfl Try.call38 (rq_I br l2 e2 (by omega) (by omega)) [1] [] rfl rfl ?_
    rintro v post ⟨a1, l3, e3, r3, rfl, rfl⟩
    show G _ _ _ (_ :: _ :: _ :: _) _
    have hl3_ := r3.len
    have he3_ := r3.err
    refine Za rfl rfl rfl rfl (Zb (fo := 1) rfl Try.underlying217 rfl i_3 rfl rfl rfl) ?_
    refine Yj (l1 := [_]) (L' := (_ :: _ :: _ :: _)) rfl rfl rfl rfl (Zm rfl rfl rfl (Zf 1 rfl) (by first | exact of_decide_eq_true rfl | omega | (simp [cOp, cWk, cIv, cHr, cLt, cWt, cIt, cFl, cTn, cCl, cPo, cSt, cDt, cDs, Sl.v, zIns, insV]; done) | (simp [cOp, cWk, cIv, cHr, cLt, cWt, cIt, cFl, cTn, cCl, cPo, cSt, cDt, cDs, Sl.v, zIns, insV]; omega) | (simp [cOp, cWk, cIv, cHr, cLt, cWt, cIt, cFl, cTn, cCl, cPo, cSt, cDt, cDs, Sl.v, zIns, insV] at *; omega)) i_3 rfl rfl) rfl ?_
    refine Zg ?_
    refine Zh ?_
    refine Zd (l := [0, 1, 2, 3]) rfl ?_
    refine Za rfl rfl rfl rfl (Zc rfl rfl) ?_
    refine Zq (L2 := (_ :: _ :: _)) rfl rfl rfl rfl rfl rfl Try.call38 (rq_I br l3 e3 (by omega) (by omega)) [0] [] rfl rfl ?_
    rintro v post ⟨a2, l4, e4, r4, rfl, rfl⟩
    show G _ _ _ (_ :: _ :: _ :: _) _
    have hl4_ := r4.len
    have he4_ := r4.err
    refine Za rfl rfl rfl rfl (Zb (fo := 2) rfl Try.underlying217 rfl i_3 rfl rfl rfl) ?_
    refine Yj (l1 := [_]) (L' := (_ :: _ :: _ :: _)) rfl rfl rfl rfl (Zm rfl rfl rfl (Zf 1 rfl) (by first | exact of_decide_eq_true rfl | omega | (simp [cOp, cWk, cIv, cHr, cLt, cWt, cIt, cFl, cTn, cCl, cPo, cSt, cDt, cDs, Sl.v, zIns, insV]; done) | (simp [cOp, cWk, cIv, cHr, cLt, cWt, cIt, cFl, cTn, cCl, cPo, cSt, cDt, cDs, Sl.v, zIns, insV]; omega) | (simp [cOp, cWk, cIv, cHr, cLt, cWt, cIt, cFl, cTn, cCl, cPo, cSt, cDt, cDs, Sl.v, zIns, insV] at *; omega)) i_3 rfl rfl) rfl ?_
    refine Zg ?_
    refine Zh ?_
    refine Zd (l := [0, 1, 2]) rfl ?_
    refine Za rfl rfl rfl rfl (Zc rfl rfl) ?_
    refine Zq (L2 := (_ :: _ :: _)) rfl rfl rfl rfl rfl rfl Try.call40 (rq_N br l4 e4 (by omega) (by omega)) [0] [] rfl rfl ?_
    rintro v post ⟨n2, l5, e5, h5, rfl, rfl⟩
    show G _ _ _ (_ :: _ :: _ :: _) _
    obtain ⟨hn2, hl5_, he5_⟩ := rd_n (by omega) h5
    refine Za rfl rfl rfl rfl (Zk rfl rfl) ?_
    refine Zg ?_
    refine Zh ?_
    refine Zh ?_
    refine Xq (.cells #[] 262 (0, 0)) ?_
    refine Zd (l := [0]) rfl ?_
    refine Za rfl rfl rfl rfl (Zk rfl rfl) ?_
    refine Zg ?_
    refine G_joinB (X := Sl × List It × List UInt8 × Nat) (fun xj => match xj with | ⟨v, its, l6, e6⟩ => its.length ≤ 1000 ∧ Own 2 v (its.flatMap cIt) its.length ∧ Rdg (encL encIt) (GL GIt) l4 e4 its l6 e6) (fun xj => match xj with | ⟨v, its, l6, e6⟩ => [(0, .pointer (some ⟨br, 0, none⟩)), (3, u.v i), (4, .int .i64 (n : Int)), (5, .int .i64 (i : Int)), (6, .pointer (some ⟨b6, 0, none⟩))]) (fun xj => match xj with | ⟨v, its, l6, e6⟩ => ((some br, .cells #[.string (bs l6), .int .i64 ((e6 : Nat) : Int)] 86 (0, 0)) :: (some b6, .cells #[.int .i64 (a0 : Int), .int .i64 (a1 : Int), .int .i64 (a2 : Int), v.v its.length] 217 (0, 0)) :: (v.ob, .cells v.cs 262 v.fz) :: (u.ob, .cells u.cs 217 u.fz) :: M)) ?restB2 (fun jnB2 => ?mainB2)
    case restB2 =>
     intro xj hjB
     obtain ⟨v, its, l6, e6⟩ := xj
     dsimp only at hjB
     obtain ⟨hil, hv, r6⟩ := hjB
     show G _ _ [(0, .pointer (some ⟨br, 0, none⟩)), (3, u.v i), (4, .int .i64 (n : Int)), (5, .int .i64 (i : Int)), (6, .pointer (some ⟨b6, 0, none⟩))] ((some br, .cells #[.string (bs l6), .int .i64 ((e6 : Nat) : Int)] 86 (0, 0)) :: (some b6, .cells #[.int .i64 (a0 : Int), .int .i64 (a1 : Int), .int .i64 (a2 : Int), v.v its.length] 217 (0, 0)) :: (v.ob, .cells v.cs 262 v.fz) :: (u.ob, .cells u.cs 217 u.fz) :: M) _
     have hl6 := r6.len
     have he6 := r6.err
     rw [show #[.int .i64 (a0 : Int), .int .i64 (a1 : Int), .int .i64 (a2 : Int), v.v its.length] = (cFl (⟨(a0 : Nat), (a1 : Nat), (a2 : Nat), insOf v 262 its⟩ : Fl)).toArray from rfl]
     refine Zd (l := [0, 1, 2, 3, 4]) rfl ?_
     refine Za rfl rfl rfl rfl (Zc rfl rfl) ?_
     refine Za rfl rfl rfl rfl (V_loadW (s := 4) rfl rfl (Zf 1 rfl) Try.underlying217 rfl i_217 rfl (by rfl)) ?_
     refine Yw rfl rfl rfl rfl (Zn (s := 4) (cs := [_, _, _, _]) rfl Try.underlying207 i_217 rfl rfl rfl rfl rfl rfl rfl rfl rfl) (fun b61 => ?_)
     refine G_append (l1 := [_, _, _, _]) (s := u) (nn := i) (m := 1) (news := (cFl (⟨(a0 : Nat), (a1 : Nat), (a2 : Nat), insOf v 262 its⟩ : Fl))) (bt := 48) rfl rfl rfl rfl Try.underlying207 Try.underlying207 (by first | exact .inl rfl | exact .inr ⟨_, rfl⟩) i_217 rfl rfl rfl rfl rfl rfl hu rfl (Yg (Zf 0 rfl) rfl rfl (by simp [cFl, insOf, Value.oneCell'])) (by omega) (by omega) ?_
     intro u1 hu1 _
     show G _ _ _ (_ :: _ :: _ :: _ :: _ :: _) _
     refine Za rfl rfl rfl rfl (Zk rfl rfl) ?_
     refine Zg ?_
     refine Zv ?_
     refine Zd (l := [0, 1, 2]) rfl ?_
     refine Za rfl rfl rfl rfl (Zc rfl rfl) ?_
     refine Za rfl rfl rfl rfl ((Xe rfl rfl rfl).int (Zw (by omega))) ?_
     refine Za rfl rfl rfl rfl (Zk rfl rfl) ?_
     refine Zg ?_
     refine Xj (L1 := [_, _]) ?_ [1, 3] ?bhl4 (ih (i + 1, u1, ms ++ [(⟨(a0 : Nat), (a1 : Nat), (a2 : Nat), insOf v 262 its⟩ : Fl)], l6, e6, ?M1) ?_ ?_)
     case bhl4 => (dsimp only; refine ⟨(_ :: _ :: _ :: _), [], rfl, ?_⟩; exact perm_all _)
     · (refine (And.intro ?_ (And.intro ?_ (And.intro ?_ (And.intro ?_ trivial)))) <;> first | rfl | exact Zl (by omega) | exact Zl (by simp))
     · exact ⟨by omega, by simp [hml], by rw [List.flatMap_append, List.flatMap_singleton]; exact hu1, by rw [List.map_append]; exact hx.next (rdgPF (rdg_is3 (by omega) r2 r3 r4) r6) (by omega), oks_nx hoks ⟨Yh hv (by omega), fun _ _ => trivial⟩, sub_next hM (M0 := [(v.ob, .cells v.cs 262 v.fz)]) (fun z hz => hz) (fun z hz => by simp [hz]) (fun z hz => by rw [List.mem_singleton.1 hz]; simp)⟩
     · (first | omega | (dsimp only; omega))
    case mainB2 =>
     refine Zs ?_
     refine Xj (L1 := [_, _, _, _]) ?he11 [1, 1, 0, 0] ?hl11 (Xb (X := Nat × Sl × List It × List UInt8 × Nat) (fun y_ => match y_ with | ⟨k, v, its, l6, e6⟩ => k ≤ n2 ∧ its.length = k ∧ Own 2 v (its.flatMap cIt) k ∧ RdgL encIt GIt n2 l5 e5 k its l6 e6) (fun y_ => match y_ with | ⟨k, v, its, l6, e6⟩ => n2 - k) (fun y_ => match y_ with | ⟨k, v, its, l6, e6⟩ => [(0, .pointer (some ⟨br, 0, none⟩)), (3, u.v i), (4, .int .i64 (n : Int)), (5, .int .i64 (i : Int)), (6, .pointer (some ⟨b6, 0, none⟩)), (7, .int .i64 (n2 : Int)), (8, .int .i64 (k : Int))]) (fun y_ => match y_ with | ⟨k, v, its, l6, e6⟩ => ((some br, .cells #[.string (bs l6), .int .i64 ((e6 : Nat) : Int)] 86 (0, 0)) :: (some b6, .cells #[.int .i64 (a0 : Int), .int .i64 (a1 : Int), .int .i64 (a2 : Int), v.v k] 217 (0, 0)) :: (v.ob, .cells v.cs 262 v.fz) :: (u.ob, .cells u.cs 217 u.fz) :: M)) ?round11 (0, slNil, [], l5, e5) ?h011)
     case he11 => exact (And.intro rfl (And.intro rfl (And.intro rfl (And.intro rfl (And.intro rfl (And.intro rfl (And.intro rfl trivial)))))))
     case hl11 => exact ⟨_, _, rfl, List.perm_append_comm (l₁ := [])⟩
     case h011 => exact ⟨Nat.zero_le _, rfl, own_nil 2, .zero he5_⟩
     case round11 =>
      intro y_ hJ ih2
      try dsimp only at hJ ih2
      obtain ⟨k, v, its, l6, e6⟩ := y_
      try dsimp only at hJ ih2
      obtain ⟨hk, hil, hv, hy⟩ := hJ
      show G _ _ [(0, .pointer (some ⟨br, 0, none⟩)), (3, u.v i), (4, .int .i64 (n : Int)), (5, .int .i64 (i : Int)), (6, .pointer (some ⟨b6, 0, none⟩)), (7, .int .i64 (n2 : Int)), (8, .int .i64 (k : Int))] ((some br, .cells #[.string (bs l6), .int .i64 ((e6 : Nat) : Int)] 86 (0, 0)) :: (some b6, .cells #[.int .i64 (a0 : Int), .int .i64 (a1 : Int), .int .i64 (a2 : Int), v.v k] 217 (0, 0)) :: (v.ob, .cells v.cs 262 v.fz) :: (u.ob, .cells u.cs 217 u.fz) :: M) _
      have hl6 := hy.len
      have he6 := hy.err
      refine Zh ?_
      refine Zh ?_
      refine Zd (l := [0, 1, 2, 3, 4, 5, 6, 7, 8, 9]) rfl ?_
      refine Za rfl rfl rfl rfl (Zc rfl rfl) ?_
      refine Za rfl rfl rfl rfl (Zc rfl rfl) ?_
      refine Za rfl rfl rfl rfl (Xn rfl rfl rfl) ?_
      refine Za rfl rfl rfl rfl (Zc rfl rfl) ?_
      refine Xa 39 rfl (fun hc3 => ?_) (fun hc3 => ?_)
      ·
       refine Za rfl rfl rfl rfl (Zc rfl rfl) ?_
       refine Za rfl rfl rfl rfl (Ze rfl rfl) ?_
       refine Za rfl rfl rfl rfl (Zb (fo := 1) rfl Try.underlying86 rfl i_3 rfl rfl rfl) ?_
       refine Za rfl rfl rfl rfl (Zj rfl rfl (Zf 0 rfl) rfl Try.underlying3 rfl) ?_
       refine Za rfl rfl rfl rfl (V_eql rfl rfl rfl) ?_
       refine Za rfl rfl rfl rfl (Yz rfl rfl rfl) ?_
       refine Zg ?_
       refine Yk rfl (fun hc4 => ?_) (fun hc4 => ?_)
       ·
        refine Zu ?_
        refine Zh ?_
        refine Zs ?_
        refine Zh ?_
        refine Zd (l := [0, 1, 2]) rfl ?_
        refine Za rfl rfl rfl rfl (Zc rfl rfl) ?_
        refine Zq (L2 := (_ :: _ :: _ :: _)) rfl rfl rfl rfl rfl rfl Try.call38 (rq_I br l6 e6 (by omega) (by omega)) [0] [] rfl rfl ?_
        rintro v post ⟨a3, l7, e7, r7, rfl, rfl⟩
        show G _ _ _ (_ :: _ :: _ :: _ :: _) _
        have hl7_ := r7.len
        have he7_ := r7.err
        refine Za rfl rfl rfl rfl (Zk rfl rfl) ?_
        refine Zg ?_
        refine Yf (Lq := []) (isq := []) (m := 10) Yo rfl rfl ?_
        refine GH_join (X := {y : Sl × It × List UInt8 × Nat // Own 2 y.1 ((its ++ [y.2.1]).flatMap cIt) (k + 1) ∧ RdgL encIt GIt n2 l5 e5 (k + 1) (its ++ [y.2.1]) y.2.2.1 y.2.2.2}) (fun xj => match xj with | ⟨⟨y1, a_, lq, eq⟩, hq1, hq2⟩ => [(0, .pointer (some ⟨br, 0, none⟩)), (3, u.v i), (4, .int .i64 (n : Int)), (5, .int .i64 (i : Int)), (6, .pointer (some ⟨b6, 0, none⟩)), (7, .int .i64 (n2 : Int)), (8, .int .i64 (k : Int))]) (fun xj => match xj with | ⟨⟨y1, a_, lq, eq⟩, hq1, hq2⟩ => ((some br, .cells #[.string (bs lq), .int .i64 ((eq : Nat) : Int)] 86 (0, 0)) :: (some b6, .cells #[.int .i64 (a0 : Int), .int .i64 (a1 : Int), .int .i64 (a2 : Int), y1.v (k + 1)] 217 (0, 0)) :: (y1.ob, .cells y1.cs 262 y1.fz) :: (u.ob, .cells u.cs 217 u.fz) :: M)) ?rest14 (fun jn14 => ?main14)
        case rest14 =>
         intro xj
         obtain ⟨⟨y1, a_, lq, eq⟩, hq1, hq2⟩ := xj
         show G _ _ [(0, .pointer (some ⟨br, 0, none⟩)), (3, u.v i), (4, .int .i64 (n : Int)), (5, .int .i64 (i : Int)), (6, .pointer (some ⟨b6, 0, none⟩)), (7, .int .i64 (n2 : Int)), (8, .int .i64 (k : Int))] ((some br, .cells #[.string (bs lq), .int .i64 ((eq : Nat) : Int)] 86 (0, 0)) :: (some b6, .cells #[.int .i64 (a0 : Int), .int .i64 (a1 : Int), .int .i64 (a2 : Int), y1.v (k + 1)] 217 (0, 0)) :: (y1.ob, .cells y1.cs 262 y1.fz) :: (u.ob, .cells u.cs 217 u.fz) :: M) _
         refine Zv ?_
         refine Zd (l := [0, 1, 2]) rfl ?_
         refine Za rfl rfl rfl rfl (Zc rfl rfl) ?_
         refine Za rfl rfl rfl rfl ((Xe rfl rfl rfl).int (Zw (by omega))) ?_
         refine Za rfl rfl rfl rfl (Zk rfl rfl) ?_
         refine Zg ?_
         refine Xj (L1 := [_, _, _, _]) ?_ [0, 0, 0, 0] ?_ (ih2 (k + 1, y1, its ++ [a_], lq, eq) ?_ ?_)
         · (refine (And.intro ?_ (And.intro ?_ (And.intro ?_ (And.intro ?_ (And.intro ?_ (And.intro ?_ (And.intro ?_ trivial))))))) <;> first | rfl | exact Zl (by omega) | exact Zl (by simp))
         · exact ⟨_, _, rfl, List.perm_append_comm (l₁ := [])⟩
         · exact ⟨by omega, by simp [hil], hq1, hq2⟩
         · (first | omega | (dsimp only; omega))
        case main14 =>
         refine Zi 0 rfl rfl rfl rfl (by kernel_rfl) (fun _ _ => Zb (fo := 3) rfl Try.underlying217 rfl i_215 rfl rfl rfl) ?_
         refine Zi 2 rfl rfl rfl rfl (by kernel_rfl) (fun _ _ => Zc rfl rfl) ?_
         refine Zi 3 rfl rfl rfl rfl (by kernel_rfl) (fun _ _ => Zc rfl rfl) ?_
         refine GH_all [1, 4] (by kernel_rfl) (by decide) ?_
         refine (And.intro ?_ (And.intro ?_ trivial))
         ·
          refine Xo rfl rfl rfl rfl (Zj rfl rfl (Zf 1 rfl) rfl Try.underlying215 rfl) ?_
          refine GH_all [4] (by kernel_rfl) (by decide) ?_
          refine (And.intro ?_ trivial)
          ·
           refine Ye (L2 := (_ :: _ :: _ :: _)) rfl rfl rfl rfl rfl rfl Try.call38 (rq_I br l7 e7 (by omega) (by omega)) [0] [] rfl rfl [] (by rintro v post ⟨a4, l8, e8, r8, rfl, rfl⟩; exact ⟨_, rfl⟩) ?_
           rintro v post ⟨a4, l8, e8, r8, rfl, rfl⟩
           show GH _ _ _ _ _ _ _ (_ :: _ :: _ :: _ :: _) _
           refine Zi 5 rfl rfl rfl rfl (by kernel_rfl) (fun _ _ => Xw (cs := [_, _]) rfl Try.underlying262 i_262 rfl p_262 rfl rfl rfl) ?_
           refine GH_all [6] (by kernel_rfl) (by decide) ?_
           refine (And.intro ?_ trivial)
           ·
            refine Yl rfl rfl rfl rfl (Zn (s := 2) (cs := [_, _]) rfl Try.underlying215 i_262 rfl rfl rfl rfl rfl rfl rfl rfl rfl) [] (fun _ => ⟨_, rfl⟩) (fun b56 => ?_)
            refine GH_all [7] (by kernel_rfl) (by decide) ?_
            refine (And.intro ?_ trivial)
            ·
             refine Yq (l1 := [_, _, _]) (s := v) (nn := k) (m := 1) (news := (cIt (⟨(a3 : Nat), (a4 : Nat)⟩ : It))) (bt := 16) rfl rfl rfl rfl Try.underlying215 Try.underlying215 (by first | exact .inl rfl | exact .inr ⟨_, rfl⟩) i_262 rfl rfl rfl rfl rfl rfl hv rfl (Yg (Zf 0 rfl) rfl rfl (by simp [cIt, Value.oneCell'])) (by omega) (by omega) [] (fun _ => ⟨_, rfl⟩) ?_
             intro v1 hv1 _
             show GH _ _ _ _ _ _ _ (_ :: _ :: _ :: _ :: _ :: _) _
             refine Zi 8 rfl rfl rfl rfl (by kernel_rfl) (fun _ _ => Zb (fo := 3) rfl Try.underlying217 rfl i_215 rfl rfl rfl) ?_
             refine GH_all [9] (by kernel_rfl) (by decide) ?_
             refine (And.intro ?_ trivial)
             ·
              refine Xk (l1 := [_, _]) (L' := (_ :: _ :: _ :: _ :: _ :: _)) rfl rfl rfl rfl (Zm rfl rfl rfl (Zf 2 rfl) (by first | exact of_decide_eq_true rfl | omega | (simp [cOp, cWk, cIv, cHr, cLt, cWt, cIt, cFl, cTn, cCl, cPo, cSt, cDt, cDs, Sl.v, zIns, insV]; done) | (simp [cOp, cWk, cIv, cHr, cLt, cWt, cIt, cFl, cTn, cCl, cPo, cSt, cDt, cDs, Sl.v, zIns, insV]; omega) | (simp [cOp, cWk, cIv, cHr, cLt, cWt, cIt, cFl, cTn, cCl, cPo, cSt, cDt, cDs, Sl.v, zIns, insV] at *; omega)) i_215 rfl rfl) rfl [] rfl ?_
              refine Ya (by kernel_rfl) ?_
              exact Xj (L1 := [_, _, _, _]) (by exact (And.intro rfl (And.intro rfl (And.intro rfl (And.intro rfl (And.intro rfl (And.intro rfl (And.intro rfl trivial)))))))) [1, 1, 1, 1] (by exact ⟨_, _, rfl, List.perm_append_comm (l₁ := [_])⟩) (jn14 ⟨(v1, (⟨(a3 : Nat), (a4 : Nat)⟩ : It), l8, e8), by rw [List.flatMap_append, List.flatMap_singleton]; exact hv1, hy.next (rdgIt (rdg_is2 (by omega) r7 r8)) (by omega)⟩)
         ·
          refine Ye (L2 := (_ :: _ :: _ :: _)) rfl rfl rfl rfl rfl rfl Try.call38 (rq_I br l7 e7 (by omega) (by omega)) [0] [] rfl rfl [] (by rintro v post ⟨a4, l8, e8, r8, rfl, rfl⟩; exact ⟨_, rfl⟩) ?_
          rintro v post ⟨a4, l8, e8, r8, rfl, rfl⟩
          show GH _ _ _ _ _ _ _ (_ :: _ :: _ :: _ :: _) _
          refine Zi 5 rfl rfl rfl rfl (by kernel_rfl) (fun _ _ => Xw (cs := [_, _]) rfl Try.underlying262 i_262 rfl p_262 rfl rfl rfl) ?_
          refine GH_all [1, 6] (by kernel_rfl) (by decide) ?_
          refine (And.intro ?_ (And.intro ?_ trivial))
          ·
           refine Xo rfl rfl rfl rfl (Zj rfl rfl (Zf 1 rfl) rfl Try.underlying215 rfl) ?_
           refine GH_all [6] (by kernel_rfl) (by decide) ?_
           refine (And.intro ?_ trivial)
           ·
            refine Yl rfl rfl rfl rfl (Zn (s := 2) (cs := [_, _]) rfl Try.underlying215 i_262 rfl rfl rfl rfl rfl rfl rfl rfl rfl) [] (fun _ => ⟨_, rfl⟩) (fun b56 => ?_)
            refine GH_all [7] (by kernel_rfl) (by decide) ?_
            refine (And.intro ?_ trivial)
            ·
             refine Yq (l1 := [_, _, _]) (s := v) (nn := k) (m := 1) (news := (cIt (⟨(a3 : Nat), (a4 : Nat)⟩ : It))) (bt := 16) rfl rfl rfl rfl Try.underlying215 Try.underlying215 (by first | exact .inl rfl | exact .inr ⟨_, rfl⟩) i_262 rfl rfl rfl rfl rfl rfl hv rfl (Yg (Zf 0 rfl) rfl rfl (by simp [cIt, Value.oneCell'])) (by omega) (by omega) [] (fun _ => ⟨_, rfl⟩) ?_
             intro v1 hv1 _
             show GH _ _ _ _ _ _ _ (_ :: _ :: _ :: _ :: _ :: _) _
             refine Zi 8 rfl rfl rfl rfl (by kernel_rfl) (fun _ _ => Zb (fo := 3) rfl Try.underlying217 rfl i_215 rfl rfl rfl) ?_
             refine GH_all [9] (by kernel_rfl) (by decide) ?_
             refine (And.intro ?_ trivial)
             ·
              refine Xk (l1 := [_, _]) (L' := (_ :: _ :: _ :: _ :: _ :: _)) rfl rfl rfl rfl (Zm rfl rfl rfl (Zf 2 rfl) (by first | exact of_decide_eq_true rfl | omega | (simp [cOp, cWk, cIv, cHr, cLt, cWt, cIt, cFl, cTn, cCl, cPo, cSt, cDt, cDs, Sl.v, zIns, insV]; done) | (simp [cOp, cWk, cIv, cHr, cLt, cWt, cIt, cFl, cTn, cCl, cPo, cSt, cDt, cDs, Sl.v, zIns, insV]; omega) | (simp [cOp, cWk, cIv, cHr, cLt, cWt, cIt, cFl, cTn, cCl, cPo, cSt, cDt, cDs, Sl.v, zIns, insV] at *; omega)) i_215 rfl rfl) rfl [] rfl ?_
              refine Ya (by kernel_rfl) ?_
              exact Xj (L1 := [_, _, _, _]) (by exact (And.intro rfl (And.intro rfl (And.intro rfl (And.intro rfl (And.intro rfl (And.intro rfl (And.intro rfl trivial)))))))) [1, 1, 1, 1] (by exact ⟨_, _, rfl, List.perm_append_comm (l₁ := [_])⟩) (jn14 ⟨(v1, (⟨(a3 : Nat), (a4 : Nat)⟩ : It), l8, e8), by rw [List.flatMap_append, List.flatMap_singleton]; exact hv1, hy.next (rdgIt (rdg_is2 (by omega) r7 r8)) (by omega)⟩)
          ·
           refine Yl rfl rfl rfl rfl (Zn (s := 2) (cs := [_, _]) rfl Try.underlying215 i_262 rfl rfl rfl rfl rfl rfl rfl rfl rfl) [] (fun _ => ⟨_, rfl⟩) (fun b56 => ?_)
           refine GH_all [1] (by kernel_rfl) (by decide) ?_
           refine (And.intro ?_ trivial)
           ·
            refine Xo rfl rfl rfl rfl (Zj rfl rfl (Zf 2 rfl) rfl Try.underlying215 rfl) ?_
            refine GH_all [7] (by kernel_rfl) (by decide) ?_
            refine (And.intro ?_ trivial)
            ·
             refine Yq (l1 := [_, _, _]) (s := v) (nn := k) (m := 1) (news := (cIt (⟨(a3 : Nat), (a4 : Nat)⟩ : It))) (bt := 16) rfl rfl rfl rfl Try.underlying215 Try.underlying215 (by first | exact .inl rfl | exact .inr ⟨_, rfl⟩) i_262 rfl rfl rfl rfl rfl rfl hv rfl (Yg (Zf 0 rfl) rfl rfl (by simp [cIt, Value.oneCell'])) (by omega) (by omega) [] (fun _ => ⟨_, rfl⟩) ?_
             intro v1 hv1 _
             show GH _ _ _ _ _ _ _ (_ :: _ :: _ :: _ :: _ :: _) _
             refine Zi 8 rfl rfl rfl rfl (by kernel_rfl) (fun _ _ => Zb (fo := 3) rfl Try.underlying217 rfl i_215 rfl rfl rfl) ?_
             refine GH_all [9] (by kernel_rfl) (by decide) ?_
             refine (And.intro ?_ trivial)
             ·
              refine Xk (l1 := [_, _]) (L' := (_ :: _ :: _ :: _ :: _ :: _)) rfl rfl rfl rfl (Zm rfl rfl rfl (Zf 2 rfl) (by first | exact of_decide_eq_true rfl | omega | (simp [cOp, cWk, cIv, cHr, cLt, cWt, cIt, cFl, cTn, cCl, cPo, cSt, cDt, cDs, Sl.v, zIns, insV]; done) | (simp [cOp, cWk, cIv, cHr, cLt, cWt, cIt, cFl, cTn, cCl, cPo, cSt, cDt, cDs, Sl.v, zIns, insV]; omega) | (simp [cOp, cWk, cIv, cHr, cLt, cWt, cIt, cFl, cTn, cCl, cPo, cSt, cDt, cDs, Sl.v, zIns, insV] at *; omega)) i_215 rfl rfl) rfl [] rfl ?_
              refine Ya (by kernel_rfl) ?_
              exact Xj (L1 := [_, _, _, _]) (by exact (And.intro rfl (And.intro rfl (And.intro rfl (And.intro rfl (And.intro rfl (And.intro rfl (And.intro rfl trivial)))))))) [1, 1, 1, 1] (by exact ⟨_, _, rfl, List.perm_append_comm (l₁ := [_])⟩) (jn14 ⟨(v1, (⟨(a3 : Nat), (a4 : Nat)⟩ : It), l8, e8), by rw [List.flatMap_append, List.flatMap_singleton]; exact hv1, hy.next (rdgIt (rdg_is2 (by omega) r7 r8)) (by omega)⟩)
       refine Yr rfl ?_
       subst hil
       refine Xj (L1 := [_, _, _, _])  ?_ [0, 0, 0, 0] ?_ (jnB2 (v, its, l6, e6) ?_)
       · (refine (And.intro ?_ (And.intro ?_ (And.intro ?_ (And.intro ?_ (And.intro ?_ trivial))))) <;> first | rfl | exact Zl (by omega) | exact Zl (by simp))
       · exact ⟨_, _, rfl, List.perm_append_comm (l₁ := [])⟩
       · exact ⟨by omega, hv, rdg_Le (by omega) h5 hy (by omega)⟩
      refine Yb rfl rfl rfl rfl ?_
      refine Yb rfl rfl rfl rfl ?_
      refine Yb rfl rfl rfl rfl ?_
      refine Yb rfl rfl rfl rfl ?_
      refine Yb rfl rfl rfl rfl ?_
      refine Za rfl rfl rfl rfl (Xg rfl rfl rfl) ?_
      refine Zg ?_
      refine Xu rfl ?_
      refine Yr rfl ?_
      subst hil
      refine Xj (L1 := [_, _, _, _])  ?_ [0, 0, 0, 0] ?_ (jnB2 (v, its, l6, e6) ?_)
      · (refine (And.intro ?_ (And.intro ?_ (And.intro ?_ (And.intro ?_ (And.intro ?_ trivial))))) <;> first | rfl | exact Zl (by omega) | exact Zl (by simp))
      · exact ⟨_, _, rfl, List.perm_append_comm (l₁ := [])⟩
      · exact ⟨by omega, hv, rdg_Le (by omega) h5 hy (by omega)⟩
   refine Yr rfl ?_
   refine Zh ?_
   refine Zd (l := [0, 1]) rfl ?_
   refine Za rfl rfl rfl rfl (Zc rfl rfl) ?_
   refine Za rfl rfl rfl rfl (Zk rfl rfl) ?_
   refine Zg ?_
   refine G_retT (p1 := [_, _]) (T := _) Try.func145 rfl (Zy (Yt rfl) Zp) [0, 0] ⟨_, _, rfl, List.perm_append_comm (l₁ := [])⟩ ?_
   dsimp only [packed]
   exact ⟨insOf u 217 ms, l1, e1, _, Yh (by rw [hml]; exact hu) (by omega), by show ms.length ≤ _; omega, rdg_Le he h0 hx (by omega), hoks, sub_hd hM, by rw [Xd, hml], rfl⟩
  refine Yb rfl rfl rfl rfl ?_
  refine Yb rfl rfl rfl rfl ?_
  refine Yb rfl rfl rfl rfl ?_
  refine Yb rfl rfl rfl rfl ?_
  refine Yb rfl rfl rfl rfl ?_
  refine Za rfl rfl rfl rfl (Xg rfl rfl rfl) ?_
  refine Zg ?_
  refine Xu rfl ?_
  refine Yr rfl ?_
  refine Zh ?_
  refine Zd (l := [0, 1]) rfl ?_
  refine Za rfl rfl rfl rfl (Zc rfl rfl) ?_
  refine Za rfl rfl rfl rfl (Zk rfl rfl) ?_
  refine Zg ?_
  refine G_retT (p1 := [_, _]) (T := _) Try.func145 rfl (Zy (Yt rfl) Zp) [0, 0] ⟨_, _, rfl, List.perm_append_comm (l₁ := [])⟩ ?_
  dsimp only [packed]
  exact ⟨insOf u 217 ms, l1, e1, _, Yh (by rw [hml]; exact hu) (by omega), by show ms.length ≤ _; omega, rdg_Le he h0 hx (by omega), hoks, sub_hd hM, by rw [Xd, hml], rfl⟩

set_option maxRecDepth 100000 in
set_option maxHeartbeats 4000000 in
theorem rq_tenants (br : Nat) (l : List UInt8) (e : Nat) (hl : l.length ≤ 140737488350000) (he : e ≤ 1000) :
    Ct Try.prog 114 [.pointer (some ⟨br, 0, none⟩)] [] [(some br, .cells #[.string (bs l), .int .i64 ((e : Nat) : Int)] 86 (0, 0))] fun v post => ∃ (s : Ins Dt) (l1 : List UInt8) (e1 : Nat) (M : List HBk), InsOk 6 cDt s ∧ s.l.length ≤ 1000 ∧ Rdg (encL encPT) (GL GPT) l e (s.l.map vDt) l1 e1 ∧ (∀ m ∈ s.l, OkDt m) ∧ (∀ z ∈ insK s :: s.l.flatMap kDt, z ∈ M) ∧ v = insV s ∧ post = (some br, .cells #[.string (bs l1), .int .i64 ((e1 : Nat) : Int)] 86 (0, 0)) :: M := by
 refine Yu Try.func114 rfl rfl (fun w0 => ?_)
 show G _ _ [(0, _)] _ _
 refine Zh ?_
 refine Zd (l := [0]) rfl ?_
 refine Za rfl rfl rfl rfl (Zk rfl rfl) ?_
 refine Zg ?_
 refine Zh ?_
 refine Zd (l := [0, 1]) rfl ?_
 refine Yw rfl rfl rfl rfl (N_build0 rfl Try.underlying107 i_212) (fun b7 => ?_)
 refine Za rfl rfl rfl rfl (Zk rfl rfl) ?_
 refine Zg ?_
 refine Zh ?_
 refine Zd (l := [0, 1, 2]) rfl ?_
 refine Za rfl rfl rfl rfl (Zc rfl rfl) ?_
 refine Zq (L2 := [_]) rfl rfl rfl rfl rfl rfl Try.call40 (rq_N br l e (by omega) he) [1] [] rfl rfl ?_
 rintro v post ⟨n, l0, e0, h0, rfl, rfl⟩
 show G _ _ _ [_, _] _
 obtain ⟨hn, hl0, he0⟩ := rd_n he h0
 refine Za rfl rfl rfl rfl (Zk rfl rfl) ?_
 refine Zg ?_
 refine Zh ?_
 refine Zh ?_
 refine Zd (l := [0]) rfl ?_
 refine Za rfl rfl rfl rfl (Zk rfl rfl) ?_
 refine Zg ?_
 refine Zs ?_
 refine Xj (L1 := [_, _]) ?he4 [0, 0] ?hl4 (Xb (X := Nat × Sl × List Dt × List UInt8 × Nat × List HBk) (fun x_ => match x_ with | ⟨i, u, ms, l1, e1, M⟩ => i ≤ n ∧ ms.length = i ∧ Own 6 u (ms.flatMap cDt) i ∧ RdgL encPT GPT n l0 e0 i (ms.map vDt) l1 e1 ∧ (∀ m ∈ ms, OkDt m) ∧ ∀ z ∈ ms.flatMap kDt, z ∈ M) (fun x_ => match x_ with | ⟨i, u, ms, l1, e1, M⟩ => n - i) (fun x_ => match x_ with | ⟨i, u, ms, l1, e1, M⟩ => [(0, .pointer (some ⟨br, 0, none⟩)), (3, u.v i), (4, .int .i64 (n : Int)), (5, .int .i64 (i : Int))]) (fun x_ => match x_ with | ⟨i, u, ms, l1, e1, M⟩ => ((some br, .cells #[.string (bs l1), .int .i64 ((e1 : Nat) : Int)] 86 (0, 0)) :: (u.ob, .cells u.cs 212 u.fz) :: M)) ?round4 (0, ⟨some b7, #[], (0, 0), 0⟩, [], l0, e0, []) ?h04)
 case he4 => exact (And.intro rfl (And.intro rfl (And.intro rfl (And.intro rfl trivial))))
 case hl4 => exact ⟨_, _, rfl, .refl _⟩
 case h04 => exact ⟨Nat.zero_le _, rfl, own_empty 6 b7, .zero he0, by simp, by simp⟩
 case round4 =>
  intro x_ hJ ih
  try dsimp only at hJ ih
  obtain ⟨i, u, ms, l1, e1, M⟩ := x_
  try dsimp only at hJ ih
  obtain ⟨hi, hml, hu, hx, hoks, hM⟩ := hJ
  show G _ _ [(0, .pointer (some ⟨br, 0, none⟩)), (3, u.v i), (4, .int .i64 (n : Int)), (5, .int .i64 (i : Int))] ((some br, .cells #[.string (bs l1), .int .i64 ((e1 : Nat) : Int)] 86 (0, 0)) :: (u.ob, .cells u.cs 212 u.fz) :: M) _
  have hl1 := hx.len
  have he1 := hx.err
  refine Zh ?_
  refine Zh ?_
  refine Zd (l := [0, 1, 2, 3, 4, 5, 6, 7, 8, 9]) rfl ?_
  refine Za rfl rfl rfl rfl (Zc rfl rfl) ?_
  refine Za rfl rfl rfl rfl (Zc rfl rfl) ?_
  refine Za rfl rfl rfl rfl (Xn rfl rfl rfl) ?_
  refine Za rfl rfl rfl rfl (Zc rfl rfl) ?_
  refine Xa 13 rfl (fun hc1 => ?_) (fun hc1 => ?_)
  ·
   refine Za rfl rfl rfl rfl (Zc rfl rfl) ?_
   refine Za rfl rfl rfl rfl (Ze rfl rfl) ?_
   refine Za rfl rfl rfl rfl (Zb (fo := 1) rfl Try.underlying86 rfl i_3 rfl rfl rfl) ?_
   refine Za rfl rfl rfl rfl (Zj rfl rfl (Zf 0 rfl) rfl Try.underlying3 rfl) ?_
   refine Za rfl rfl rfl rfl (V_eql rfl rfl rfl) ?_
   refine Za rfl rfl rfl rfl (Yz rfl rfl rfl) ?_
   refine Zg ?_
   refine Yk rfl (fun hc2 => ?_) (fun hc2 => ?_)
   ·
    refine Zu ?_
    refine Zh ?_
    refine Zs ?_
    refine Zh ?_
    refine Zd (l := [0, 1, 2, 3, 4]) rfl ?_
    refine Za rfl rfl rfl rfl (Zc rfl rfl) ?_
    refine Zq (L2 := (_ :: _)) rfl rfl rfl rfl rfl rfl Try.call38 (rq_I br l1 e1 (by omega) (by omega)) [0] [] rfl rfl ?_
    rintro v post ⟨a0, l2, e2, r2, rfl, rfl⟩
    show G _ _ _ (_ :: _ :: _) _
    have hl2_ := r2.len
    have he2_ := r2.err
    refine Za rfl rfl rfl rfl (Xw (cs := [_, _, _, _, _, _]) rfl Try.underlying212 i_212 rfl p_212 rfl rfl rfl) ?_
    refine Yw rfl rfl rfl rfl (Ym rfl i_212 rfl) (fun b6 => ?_)
    refine Yj (l1 := []) (L' := (_ :: _ :: _ :: _)) rfl rfl rfl rfl (Yv (s := 6) rfl rfl rfl (Zf 0 rfl) (by rfl) i_212 rfl (by rfl) (by simp [Value.oneCell', cOp, cWk, cIv, cHr, cLt, cWt, cIt, cFl, cTn, cCl, cPo, cSt, cDt, cDs, Sl.v, zIns, insV])) rfl ?_
    refine Zg ?_
    refine Zh ?_
    refine Zd (l := [0, 1, 2, 3]) rfl ?_
    refine Za rfl rfl rfl rfl (Zc rfl rfl) ?_
    refine Zq (L2 := (_ :: _ :: _)) rfl rfl rfl rfl rfl rfl Try.call38 (rq_I br l2 e2 (by omega) (by omega)) [1] [] rfl rfl ?_
    rintro v post ⟨a1, l3, e3, r3, rfl, rfl⟩
    show G _ _ _ (_ :: _ :: _ :: _) _
    have hl3_ := r3.len
    have he3_ := r3.err
    refine Za rfl rfl rfl rfl (Zb (fo := 1) rfl Try.underlying212 rfl i_3 rfl rfl rfl) ?_
    refine Yj (l1 := [_]) (L' := (_ :: _ :: _ :: _)) rfl rfl rfl rfl (Zm rfl rfl rfl (Zf 1 rfl) (by first | exact of_decide_eq_true rfl | omega | (simp [cOp, cWk, cIv, cHr, cLt, cWt, cIt, cFl, cTn, cCl, cPo, cSt, cDt, cDs, Sl.v, zIns, insV]; done) | (simp [cOp, cWk, cIv, cHr, cLt, cWt, cIt, cFl, cTn, cCl, cPo, cSt, cDt, cDs, Sl.v, zIns, insV]; omega) | (simp [cOp, cWk, cIv, cHr, cLt, cWt, cIt, cFl, cTn, cCl, cPo, cSt, cDt, cDs, Sl.v, zIns, insV] at *; omega)) i_3 rfl rfl) rfl ?_
    refine Zg ?_
    refine Zh ?_
    refine Zd (l := [0, 1, 2, 3]) rfl ?_
    refine Za rfl rfl rfl rfl (Zc rfl rfl) ?_
    refine Zq (L2 := (_ :: _ :: _)) rfl rfl rfl rfl rfl rfl Try.call38 (rq_I br l3 e3 (by omega) (by omega)) [0] [] rfl rfl ?_
    rintro v post ⟨a2, l4, e4, r4, rfl, rfl⟩
    show G _ _ _ (_ :: _ :: _ :: _) _
    have hl4_ := r4.len
    have he4_ := r4.err
    refine Za rfl rfl rfl rfl (Zb (fo := 2) rfl Try.underlying212 rfl i_3 rfl rfl rfl) ?_
    refine Yj (l1 := [_]) (L' := (_ :: _ :: _ :: _)) rfl rfl rfl rfl (Zm rfl rfl rfl (Zf 1 rfl) (by first | exact of_decide_eq_true rfl | omega | (simp [cOp, cWk, cIv, cHr, cLt, cWt, cIt, cFl, cTn, cCl, cPo, cSt, cDt, cDs, Sl.v, zIns, insV]; done) | (simp [cOp, cWk, cIv, cHr, cLt, cWt, cIt, cFl, cTn, cCl, cPo, cSt, cDt, cDs, Sl.v, zIns, insV]; omega) | (simp [cOp, cWk, cIv, cHr, cLt, cWt, cIt, cFl, cTn, cCl, cPo, cSt, cDt, cDs, Sl.v, zIns, insV] at *; omega)) i_3 rfl rfl) rfl ?_
    refine Zg ?_
    refine Zh ?_
    refine Zd (l := [0, 1, 2, 3, 4]) rfl ?_
    refine Za rfl rfl rfl rfl (Zc rfl rfl) ?_
    refine Zq (L2 := (_ :: _ :: _)) rfl rfl rfl rfl rfl rfl Try.call37 (rq_B br l4 e4 (by omega) (by omega)) [0] [] rfl rfl ?_
    rintro v post ⟨g, l5, e5, r5, rfl, rfl⟩
    show G _ _ _ (_ :: _ :: _ :: _) _
    have hl5_ := r5.len
    have he5_ := r5.err
    refine Za rfl rfl rfl rfl (Zb (fo := 3) rfl Try.underlying212 rfl i_210 rfl rfl rfl) ?_
    refine Za rfl rfl rfl rfl (Zb (fo := 5) rfl Try.underlying210 rfl i_4 rfl rfl rfl) ?_
    refine Yj (l1 := [_]) (L' := (_ :: _ :: _ :: _)) rfl rfl rfl rfl (Zm rfl rfl rfl (Zf 1 rfl) (by first | exact of_decide_eq_true rfl | omega | (simp [cOp, cWk, cIv, cHr, cLt, cWt, cIt, cFl, cTn, cCl, cPo, cSt, cDt, cDs, Sl.v, zIns, insV]; done) | (simp [cOp, cWk, cIv, cHr, cLt, cWt, cIt, cFl, cTn, cCl, cPo, cSt, cDt, cDs, Sl.v, zIns, insV]; omega) | (simp [cOp, cWk, cIv, cHr, cLt, cWt, cIt, cFl, cTn, cCl, cPo, cSt, cDt, cDs, Sl.v, zIns, insV] at *; omega)) i_4 rfl rfl) rfl ?_
    refine Zg ?_
    refine Zh ?_
    refine Zd (l := [0, 1, 2, 3, 4]) rfl ?_
    refine Za rfl rfl rfl rfl (Zc rfl rfl) ?_
    refine Zq (L2 := (_ :: _ :: _)) rfl rfl rfl rfl rfl rfl Try.call145 (rq_flows br l5 e5 (by omega) (by omega)) [0] [] rfl rfl ?_
    rintro v post ⟨s, l6, e6, M0, hso, hsl, r6, hoks0, hM0, rfl, rfl⟩
    refine G_perm (perm_in [_] [_, _] _ _) ?_
    show G _ _ _ (_ :: _ :: _ :: _) _
    have hl6_ := r6.len
    have he6_ := r6.err
    refine Za rfl rfl rfl rfl (Zb (fo := 3) rfl Try.underlying212 rfl i_210 rfl rfl rfl) ?_
    refine Za rfl rfl rfl rfl (Zb (fo := 4) rfl Try.underlying210 rfl i_207 rfl rfl rfl) ?_
    refine Yj (l1 := [_]) (L' := (_ :: _ :: _ :: _)) rfl rfl rfl rfl (Zm rfl rfl rfl (Zf 1 rfl) (by first | exact of_decide_eq_true rfl | omega | (simp [cOp, cWk, cIv, cHr, cLt, cWt, cIt, cFl, cTn, cCl, cPo, cSt, cDt, cDs, Sl.v, zIns, insV]; done) | (simp [cOp, cWk, cIv, cHr, cLt, cWt, cIt, cFl, cTn, cCl, cPo, cSt, cDt, cDs, Sl.v, zIns, insV]; omega) | (simp [cOp, cWk, cIv, cHr, cLt, cWt, cIt, cFl, cTn, cCl, cPo, cSt, cDt, cDs, Sl.v, zIns, insV] at *; omega)) i_207 rfl rfl) rfl ?_
    refine Zg ?_
    refine Zd (l := [0, 1, 2, 3, 4]) rfl ?_
    refine Za rfl rfl rfl rfl (Zc rfl rfl) ?_
    refine Za rfl rfl rfl rfl (V_loadW (s := 6) rfl rfl (Zf 1 rfl) Try.underlying212 rfl i_212 rfl (by rfl)) ?_
    refine Yw rfl rfl rfl rfl (Zn (s := 6) (cs := [_, _, _, _, _, _]) rfl Try.underlying107 i_212 rfl rfl rfl rfl rfl rfl rfl rfl rfl) (fun b41 => ?_)
    refine G_append (l1 := [_, _, _]) (s := u) (nn := i) (m := 1) (news := (cDt (⟨(a0 : Nat), (a1 : Nat), (a2 : Nat), 0, s, g⟩ : Dt))) (bt := 64) rfl rfl rfl rfl Try.underlying107 Try.underlying107 (by first | exact .inl rfl | exact .inr ⟨_, rfl⟩) i_212 rfl rfl rfl rfl rfl rfl hu rfl (Yg (Zf 0 rfl) rfl rfl (by simp [cDt, Value.oneCell'])) (by omega) (by omega) ?_
    intro u1 hu1 _
    show G _ _ _ (_ :: _ :: _ :: _ :: _) _
    refine Za rfl rfl rfl rfl (Zk rfl rfl) ?_
    refine Zg ?_
    refine Zv ?_
    refine Zd (l := [0, 1, 2]) rfl ?_
    refine Za rfl rfl rfl rfl (Zc rfl rfl) ?_
    refine Za rfl rfl rfl rfl ((Xe rfl rfl rfl).int (Zw (by omega))) ?_
    refine Za rfl rfl rfl rfl (Zk rfl rfl) ?_
    refine Zg ?_
    refine Xj (L1 := [_, _]) ?_ [1, 2] ?bhl4 (ih (i + 1, u1, ms ++ [(⟨(a0 : Nat), (a1 : Nat), (a2 : Nat), 0, s, g⟩ : Dt)], l6, e6, ?M1) ?_ ?_)
    case bhl4 => (dsimp only; refine ⟨(_ :: _ :: _), [], rfl, ?_⟩; exact perm_all _)
    · (refine (And.intro ?_ (And.intro ?_ (And.intro ?_ (And.intro ?_ trivial)))) <;> first | rfl | exact Zl (by omega) | exact Zl (by simp))
    · exact ⟨by omega, by simp [hml], by rw [List.flatMap_append, List.flatMap_singleton]; exact hu1, by rw [List.map_append]; exact hx.next (rdgPT (rdg_is3 (by omega) r2 r3 r4) r5 r6) (by omega), oks_nx hoks ⟨hso, hoks0⟩, sub_next hM hM0 (fun z hz => by simp [hz]) (fun z hz => by simp [hz])⟩
    · (first | omega | (dsimp only; omega))
   refine Yr rfl ?_
   refine Zh ?_
   refine Zd (l := [0, 1]) rfl ?_
   refine Za rfl rfl rfl rfl (Zc rfl rfl) ?_
   refine Za rfl rfl rfl rfl (Zk rfl rfl) ?_
   refine Zg ?_
   refine G_retT (p1 := [_, _]) (T := _) Try.func114 rfl (Zy (Yt rfl) Zp) [0, 0] ⟨_, _, rfl, List.perm_append_comm (l₁ := [])⟩ ?_
   dsimp only [packed]
   exact ⟨insOf u 212 ms, l1, e1, _, Yh (by rw [hml]; exact hu) (by omega), by show ms.length ≤ _; omega, rdg_Le he h0 hx (by omega), hoks, sub_hd hM, by rw [Xd, hml], rfl⟩
  refine Yb rfl rfl rfl rfl ?_
  refine Yb rfl rfl rfl rfl ?_
  refine Yb rfl rfl rfl rfl ?_
  refine Yb rfl rfl rfl rfl ?_
  refine Yb rfl rfl rfl rfl ?_
  refine Za rfl rfl rfl rfl (Xg rfl rfl rfl) ?_
  refine Zg ?_
  refine Xu rfl ?_
  refine Yr rfl ?_
  refine Zh ?_
  refine Zd (l := [0, 1]) rfl ?_
  refine Za rfl rfl rfl rfl (Zc rfl rfl) ?_
  refine Za rfl rfl rfl rfl (Zk rfl rfl) ?_
  refine Zg ?_
  refine G_retT (p1 := [_, _]) (T := _) Try.func114 rfl (Zy (Yt rfl) Zp) [0, 0] ⟨_, _, rfl, List.perm_append_comm (l₁ := [])⟩ ?_
  dsimp only [packed]
  exact ⟨insOf u 212 ms, l1, e1, _, Yh (by rw [hml]; exact hu) (by omega), by show ms.length ≤ _; omega, rdg_Le he h0 hx (by omega), hoks, sub_hd hM, by rw [Xd, hml], rfl⟩

end
end Go.Proofs.Ytjnaeoelnmhjfaa

set_option linter.unusedSimpArgs false
set_option linter.unusedVariables false
namespace Go.Proofs.Ytjnaeoelnmhjfaa
open Go Go.RowKit

section
theorem i_104 : Try.prog.info? 104 = some Try.t104 := by kernel_rfl
theorem i_106 : Try.prog.info? 106 = some Try.t106 := by kernel_rfl
theorem i_111 : Try.prog.info? 111 = some Try.t111 := by kernel_rfl
theorem p_106 : placesOf Try.prog (Try.prog.fieldsOf 106) = some [(0, 1), (1, 1), (2, 1), (3, 1)] := by kernel_rfl
theorem p_111 : placesOf Try.prog (Try.prog.fieldsOf 111) = some [(0, 1), (1, 1), (2, 1)] := by kernel_rfl


/-- A need, as the document has it. -/
structure Dp where
  n : List UInt8
  u : Int
  sv : Ins Int
  sh : Ins Ds
def cDp (x : Dp) : List Value := [.string (bs x.n), .int .i64 x.u, .slice x.sv.p x.sv.l.length x.sv.cap, .slice x.sh.p x.sh.l.length x.sh.cap]
theorem cDp_len (x : Dp) : (cDp x).length = 4 := rfl
def mkPC (a : Int) (s : Ds) : PC := ⟨a, s.g, s.s.l.map vDt⟩
def EvenDp (x : Dp) : Prop := x.sv.l.length = x.sh.l.length
instance (x : Dp) : Decidable (EvenDp x) := by unfold EvenDp; infer_instance
def vDp (x : Dp) : PP := ⟨x.n, x.u, decide (EvenDp x), if EvenDp x then List.zipWith mkPC x.sv.l x.sh.l else []⟩
def OkDp (x : Dp) : Prop := InsOk 1 i1C x.sv ∧ InsOk 3 cDs x.sh ∧ ∀ s ∈ x.sh.l, OkDs s
def kDp (x : Dp) : List HBk := insK x.sv :: insK x.sh :: x.sh.l.flatMap kDs
def dpOf (n : List UInt8) (u : Int) (v1 v2 : Sl) (T1 T2 : TypeId) (svs : List Int) (shs : List Ds) : Dp := ⟨n, u, insOf v1 T1 svs, insOf v2 T2 shs⟩
theorem dpOf_v {n : List UInt8} {u : Int} {v1 v2 : Sl} {T1 T2 : TypeId} {svs : List Int} {shs : List Ds} (h : shs.length = svs.length) : vDp (dpOf n u v1 v2 T1 T2 svs shs) = ⟨n, u, true, List.zipWith mkPC svs shs⟩ := by
  have he : EvenDp (dpOf n u v1 v2 T1 T2 svs shs) := h.symm
  unfold vDp
  rw [if_pos he, decide_eq_true he]
  rfl
theorem dpOf_c {n : List UInt8} {u : Int} {v1 v2 : Sl} {T1 T2 : TypeId} {svs : List Int} {shs : List Ds} (h : shs.length = svs.length) : (cDp (dpOf n u v1 v2 T1 T2 svs shs)).toArray = #[.string (bs n), .int .i64 u, v1.v svs.length, v2.v svs.length] := by simp [cDp, dpOf, insOf, Sl.v, h]
theorem zip_snoc {α β γ : Type} (f : α → β → γ) {l : List α} {r : List β} (h : r.length = l.length) (a : α) (b : β) : List.zipWith f (l ++ [a]) (r ++ [b]) = List.zipWith f l r ++ [f a b] := by
  rw [List.zipWith_append h.symm]; rfl

set_option maxRecDepth 100000 in
set_option maxHeartbeats 4000000 in
theorem rq_pools (br : Nat) (l : List UInt8) (e : Nat) (hl : l.length ≤ 140737488350000) (he : e ≤ 1000) :
    Ct Try.prog 42 [.pointer (some ⟨br, 0, none⟩)] [] [(some br, .cells #[.string (bs l), .int .i64 ((e : Nat) : Int)] 86 (0, 0))] fun v post => ∃ (s : Ins Dp) (l1 : List UInt8) (e1 : Nat) (M : List HBk), InsOk 4 cDp s ∧ s.l.length ≤ 1000 ∧ Rdg (encL encPP) (GL GPP) l e (s.l.map vDp) l1 e1 ∧ (∀ m ∈ s.l, OkDp m) ∧ (∀ z ∈ insK s :: s.l.flatMap kDp, z ∈ M) ∧ v = insV s ∧ post = (some br, .cells #[.string (bs l1), .int .i64 ((e1 : Nat) : Int)] 86 (0, 0)) :: M := by
 refine Yu Try.func42 rfl rfl (fun w0 => ?_)
 show G _ _ [(0, _)] _ _
 refine Zh ?_
 refine Zd (l := [0]) rfl ?_
 refine Za rfl rfl rfl rfl (Zk rfl rfl) ?_
 refine Zg ?_
 refine Zh ?_
 refine Zd (l := [0, 1]) rfl ?_
 refine Yw rfl rfl rfl rfl (N_build0 rfl Try.underlying36 i_106) (fun b10 => ?_)
 refine Za rfl rfl rfl rfl (Zk rfl rfl) ?_
 refine Zg ?_
 refine Zh ?_
 refine Zd (l := [0, 1, 2]) rfl ?_
 refine Za rfl rfl rfl rfl (Zc rfl rfl) ?_
 refine Zq (L2 := [_]) rfl rfl rfl rfl rfl rfl Try.call40 (rq_N br l e (by omega) he) [1] [] rfl rfl ?_
 rintro v post ⟨n, l0, e0, h0, rfl, rfl⟩
 show G _ _ _ [_, _] _
 obtain ⟨hn, hl0, he0⟩ := rd_n he h0
 refine Za rfl rfl rfl rfl (Zk rfl rfl) ?_
 refine Zg ?_
 refine Zh ?_
 refine Zh ?_
 refine Zd (l := [0]) rfl ?_
 refine Za rfl rfl rfl rfl (Zk rfl rfl) ?_
 refine Zg ?_
 refine Zs ?_
 refine Xj (L1 := [_, _]) ?he4 [0, 0] ?hl4 (Xb (X := Nat × Sl × List Dp × List UInt8 × Nat × List HBk) (fun x_ => match x_ with | ⟨i, u, ms, l1, e1, M⟩ => i ≤ n ∧ ms.length = i ∧ Own 4 u (ms.flatMap cDp) i ∧ RdgL encPP GPP n l0 e0 i (ms.map vDp) l1 e1 ∧ (∀ m ∈ ms, OkDp m) ∧ ∀ z ∈ ms.flatMap kDp, z ∈ M) (fun x_ => match x_ with | ⟨i, u, ms, l1, e1, M⟩ => n - i) (fun x_ => match x_ with | ⟨i, u, ms, l1, e1, M⟩ => [(0, .pointer (some ⟨br, 0, none⟩)), (3, u.v i), (4, .int .i64 (n : Int)), (5, .int .i64 (i : Int))]) (fun x_ => match x_ with | ⟨i, u, ms, l1, e1, M⟩ => ((some br, .cells #[.string (bs l1), .int .i64 ((e1 : Nat) : Int)] 86 (0, 0)) :: (u.ob, .cells u.cs 106 u.fz) :: M)) ?round4 (0, ⟨some b10, #[], (0, 0), 0⟩, [], l0, e0, []) ?h04)
 case he4 => exact (And.intro rfl (And.intro rfl (And.intro rfl (And.intro rfl trivial))))
 case hl4 => exact ⟨_, _, rfl, .refl _⟩
 case h04 => exact ⟨Nat.zero_le _, rfl, own_empty 4 b10, .zero he0, by simp, by simp⟩
 case round4 =>
  intro x_ hJ ih
  try dsimp only at hJ ih
  obtain ⟨i, u, ms, l1, e1, M⟩ := x_
  try dsimp only at hJ ih
  obtain ⟨hi, hml, hu, hx, hoks, hM⟩ := hJ
  show G _ _ [(0, .pointer (some ⟨br, 0, none⟩)), (3, u.v i), (4, .int .i64 (n : Int)), (5, .int .i64 (i : Int))] ((some br, .cells #[.string (bs l1), .int .i64 ((e1 : Nat) : Int)] 86 (0, 0)) :: (u.ob, .cells u.cs 106 u.fz) :: M) _
  have hl1 := hx.len
  have he1 := hx.err
  refine Zh ?_
  refine Zh ?_
  refine Zd (l := [0, 1, 2, 3, 4, 5, 6, 7, 8, 9]) rfl ?_
  refine Za rfl rfl rfl rfl (Zc rfl rfl) ?_
  refine Za rfl rfl rfl rfl (Zc rfl rfl) ?_
  refine Za rfl rfl rfl rfl (Xn rfl rfl rfl) ?_
  refine Za rfl rfl rfl rfl (Zc rfl rfl) ?_
  refine Xa 16 rfl (fun hc1 => ?_) (fun hc1 => ?_)
  ·
   refine Za rfl rfl rfl rfl (Zc rfl rfl) ?_
   refine Za rfl rfl rfl rfl (Ze rfl rfl) ?_
   refine Za rfl rfl rfl rfl (Zb (fo := 1) rfl Try.underlying86 rfl i_3 rfl rfl rfl) ?_
   refine Za rfl rfl rfl rfl (Zj rfl rfl (Zf 0 rfl) rfl Try.underlying3 rfl) ?_
   refine Za rfl rfl rfl rfl (V_eql rfl rfl rfl) ?_
   refine Za rfl rfl rfl rfl (Yz rfl rfl rfl) ?_
   refine Zg ?_
   refine Yk rfl (fun hc2 => ?_) (fun hc2 => ?_)
   ·
    refine Zu ?_
    refine Zh ?_
    refine Zs ?_
    refine Zh ?_
    refine Zd (l := [0, 1, 2, 3, 4]) rfl ?_
    refine Za rfl rfl rfl rfl (Zc rfl rfl) ?_
    refine Zq (L2 := (_ :: _)) rfl rfl rfl rfl rfl rfl Try.call41 (rq_T br l1 e1 (by omega) (by omega)) [0] [] rfl rfl ?_
    rintro v post ⟨a0, l2, e2, r2, rfl, rfl⟩
    show G _ _ _ (_ :: _ :: _) _
    have hl2_ := r2.len
    have he2_ := r2.err
    refine Za rfl rfl rfl rfl (Xw (cs := [_, _, _, _]) rfl Try.underlying106 i_106 rfl p_106 rfl rfl rfl) ?_
    refine Yw rfl rfl rfl rfl (Ym rfl i_106 rfl) (fun b6 => ?_)
    refine Yj (l1 := []) (L' := (_ :: _ :: _ :: _)) rfl rfl rfl rfl (Yv (s := 4) rfl rfl rfl (Zf 0 rfl) (by rfl) i_106 rfl (by rfl) (by simp [Value.oneCell', cOp, cWk, cIv, cHr, cLt, cWt, cIt, cFl, cTn, cCl, cPo, cSt, cDt, cDs, Sl.v, zIns, insV, cDp])) rfl ?_
    refine Zg ?_
    refine Zh ?_
    refine Zd (l := [0, 1, 2, 3]) rfl ?_
    refine Za rfl rfl rfl rfl (Zc rfl rfl) ?_
    refine Zq (L2 := (_ :: _ :: _)) rfl rfl rfl rfl rfl rfl Try.call38 (rq_I br l2 e2 (by omega) (by omega)) [1] [] rfl rfl ?_
    rintro v post ⟨a1, l3, e3, r3, rfl, rfl⟩
    show G _ _ _ (_ :: _ :: _ :: _) _
    have hl3_ := r3.len
    have he3_ := r3.err
    refine Za rfl rfl rfl rfl (Zb (fo := 1) rfl Try.underlying106 rfl i_3 rfl rfl rfl) ?_
    refine Yj (l1 := [_]) (L' := (_ :: _ :: _ :: _)) rfl rfl rfl rfl (Zm rfl rfl rfl (Zf 1 rfl) (by first | exact of_decide_eq_true rfl | omega | (simp [cOp, cWk, cIv, cHr, cLt, cWt, cIt, cFl, cTn, cCl, cPo, cSt, cDt, cDs, Sl.v, zIns, insV, cDp]; done) | (simp [cOp, cWk, cIv, cHr, cLt, cWt, cIt, cFl, cTn, cCl, cPo, cSt, cDt, cDs, Sl.v, zIns, insV, cDp]; omega) | (simp [cOp, cWk, cIv, cHr, cLt, cWt, cIt, cFl, cTn, cCl, cPo, cSt, cDt, cDs, Sl.v, zIns, insV, cDp] at *; omega)) i_3 rfl rfl) rfl ?_
    refine Zg ?_
    refine Zh ?_
    refine Zd (l := [0, 1, 2]) rfl ?_
    refine Za rfl rfl rfl rfl (Zc rfl rfl) ?_
    refine Zq (L2 := (_ :: _ :: _)) rfl rfl rfl rfl rfl rfl Try.call40 (rq_N br l3 e3 (by omega) (by omega)) [0] [] rfl rfl ?_
    rintro v post ⟨n2, l4, e4, h4, rfl, rfl⟩
    show G _ _ _ (_ :: _ :: _ :: _) _
    obtain ⟨hn2, hl4_, he4_⟩ := rd_n (by omega) h4
    refine Za rfl rfl rfl rfl (Zk rfl rfl) ?_
    refine Zg ?_
    refine Zh ?_
    refine Zh ?_
    refine Xq (.cells #[] 111 (0, 0)) ?_
    refine Xq (.cells #[] 3 (0, 0)) ?_
    refine Zd (l := [0]) rfl ?_
    refine Za rfl rfl rfl rfl (Zk rfl rfl) ?_
    refine Zg ?_
    refine G_joinB (X := Sl × Sl × List Int × List Ds × List UInt8 × Nat × List HBk) (fun xj => match xj with | ⟨v1, v2, svs, shs, l5, e5, M2⟩ => svs.length ≤ 1000 ∧ shs.length = svs.length ∧ Own 1 v1 (svs.flatMap i1C) svs.length ∧ Own 3 v2 (shs.flatMap cDs) svs.length ∧ Rdg (encL encPC) (GL GPC) l3 e3 (List.zipWith mkPC svs shs) l5 e5 ∧ (∀ s ∈ shs, OkDs s) ∧ (∀ z ∈ shs.flatMap kDs, z ∈ M2) ∧ ∀ z ∈ M, z ∈ M2) (fun xj => match xj with | ⟨v1, v2, svs, shs, l5, e5, M2⟩ => [(0, .pointer (some ⟨br, 0, none⟩)), (3, u.v i), (4, .int .i64 (n : Int)), (5, .int .i64 (i : Int)), (6, .pointer (some ⟨b6, 0, none⟩))]) (fun xj => match xj with | ⟨v1, v2, svs, shs, l5, e5, M2⟩ => ((some br, .cells #[.string (bs l5), .int .i64 ((e5 : Nat) : Int)] 86 (0, 0)) :: (some b6, .cells #[.string (bs a0), .int .i64 (a1 : Int), v1.v svs.length, v2.v svs.length] 106 (0, 0)) :: (v1.ob, .cells v1.cs 3 v1.fz) :: (v2.ob, .cells v2.cs 111 v2.fz) :: (u.ob, .cells u.cs 106 u.fz) :: M2)) ?restB2 (fun jnB2 => ?mainB2)
    case restB2 =>
     intro xj hjB
     obtain ⟨v1, v2, svs, shs, l5, e5, M2⟩ := xj
     dsimp only at hjB
     obtain ⟨hil, hhl, ho1, ho2, r5, hokd, hMd, hMM⟩ := hjB
     show G _ _ [(0, .pointer (some ⟨br, 0, none⟩)), (3, u.v i), (4, .int .i64 (n : Int)), (5, .int .i64 (i : Int)), (6, .pointer (some ⟨b6, 0, none⟩))] ((some br, .cells #[.string (bs l5), .int .i64 ((e5 : Nat) : Int)] 86 (0, 0)) :: (some b6, .cells #[.string (bs a0), .int .i64 (a1 : Int), v1.v svs.length, v2.v svs.length] 106 (0, 0)) :: (v1.ob, .cells v1.cs 3 v1.fz) :: (v2.ob, .cells v2.cs 111 v2.fz) :: (u.ob, .cells u.cs 106 u.fz) :: M2) _
     have hl5 := r5.len
     have he5 := r5.err
     rw [← dpOf_c (T1 := 3) (T2 := 111) hhl]
     refine Zd (l := [0, 1, 2, 3, 4]) rfl ?_
     refine Za rfl rfl rfl rfl (Zc rfl rfl) ?_
     refine Za rfl rfl rfl rfl (V_loadW (s := 4) rfl rfl (Zf 1 rfl) Try.underlying106 rfl i_106 rfl (by rfl)) ?_
     refine Yw rfl rfl rfl rfl (Zn (s := 4) (cs := [_, _, _, _]) rfl Try.underlying36 i_106 rfl rfl rfl rfl rfl rfl rfl rfl rfl) (fun b65 => ?_)
     refine G_append (l1 := [_, _, _, _, _]) (s := u) (nn := i) (m := 1) (news := (cDp (dpOf a0 (a1 : Nat) v1 v2 3 111 svs shs))) (bt := 72) rfl rfl rfl rfl Try.underlying36 Try.underlying36 (by first | exact .inl rfl | exact .inr ⟨_, rfl⟩) i_106 rfl rfl rfl rfl rfl rfl hu rfl (Yg (Zf 0 rfl) rfl rfl (by simp [cDp, dpOf, insOf, Value.oneCell'])) (by omega) (by omega) ?_
     intro u1 hu1 _
     show G _ _ _ (_ :: _ :: _ :: _ :: _ :: _ :: _) _
     refine Za rfl rfl rfl rfl (Zk rfl rfl) ?_
     refine Zg ?_
     refine Zv ?_
     refine Zd (l := [0, 1, 2]) rfl ?_
     refine Za rfl rfl rfl rfl (Zc rfl rfl) ?_
     refine Za rfl rfl rfl rfl ((Xe rfl rfl rfl).int (Zw (by omega))) ?_
     refine Za rfl rfl rfl rfl (Zk rfl rfl) ?_
     refine Zg ?_
     refine Xj (L1 := [_, _]) ?_ [1, 4] ?bhl4 (ih (i + 1, u1, ms ++ [(dpOf a0 (a1 : Nat) v1 v2 3 111 svs shs)], l5, e5, ?M1) ?_ ?_)
     case bhl4 => (dsimp only; refine ⟨(_ :: _ :: _ :: _ :: _), [], rfl, ?_⟩; exact perm_all _)
     · (refine (And.intro ?_ (And.intro ?_ (And.intro ?_ (And.intro ?_ trivial)))) <;> first | rfl | exact Zl (by omega) | exact Zl (by simp))
     · exact ⟨by omega, by simp [hml], by rw [List.flatMap_append, List.flatMap_singleton]; exact hu1, by rw [List.map_append]; exact hx.next (by rw [dpOf_v hhl]; exact rdgPP rfl (rdg_ts1 (by omega) r2) (rdg_is1 (by omega) r3) r5) (by omega), oks_nx hoks ⟨Yh ho1 (by omega), Yh (by rw [hhl]; exact ho2) (by omega), hokd⟩, sub_next hM (M0 := (v1.ob, .cells v1.cs 3 v1.fz) :: (v2.ob, .cells v2.cs 111 v2.fz) :: M2) (sub_hd (sub_hd hMd)) (fun z hz => by simp [hMM z hz]) (fun z hz => by simp only [List.mem_cons] at hz; rcases hz with h | h | h <;> simp [h])⟩
     · (first | omega | (dsimp only; omega))
    case mainB2 =>
     refine Zs ?_
     refine Xj (L1 := [_, _, _, _, _]) ?he10 [2, 2, 0, 0, 0] ?hl10 (Xb (X := Nat × Sl × Sl × List Int × List Ds × List UInt8 × Nat × List HBk) (fun y_ => match y_ with | ⟨k, v1, v2, svs, shs, l5, e5, M2⟩ => k ≤ n2 ∧ svs.length = k ∧ shs.length = k ∧ Own 1 v1 (svs.flatMap i1C) k ∧ Own 3 v2 (shs.flatMap cDs) k ∧ RdgL encPC GPC n2 l4 e4 k (List.zipWith mkPC svs shs) l5 e5 ∧ (∀ s ∈ shs, OkDs s) ∧ (∀ z ∈ shs.flatMap kDs, z ∈ M2) ∧ ∀ z ∈ M, z ∈ M2) (fun y_ => match y_ with | ⟨k, v1, v2, svs, shs, l5, e5, M2⟩ => n2 - k) (fun y_ => match y_ with | ⟨k, v1, v2, svs, shs, l5, e5, M2⟩ => [(0, .pointer (some ⟨br, 0, none⟩)), (3, u.v i), (4, .int .i64 (n : Int)), (5, .int .i64 (i : Int)), (6, .pointer (some ⟨b6, 0, none⟩)), (7, .int .i64 (n2 : Int)), (8, .int .i64 (k : Int))]) (fun y_ => match y_ with | ⟨k, v1, v2, svs, shs, l5, e5, M2⟩ => ((some br, .cells #[.string (bs l5), .int .i64 ((e5 : Nat) : Int)] 86 (0, 0)) :: (some b6, .cells #[.string (bs a0), .int .i64 (a1 : Int), v1.v k, v2.v k] 106 (0, 0)) :: (v1.ob, .cells v1.cs 3 v1.fz) :: (v2.ob, .cells v2.cs 111 v2.fz) :: (u.ob, .cells u.cs 106 u.fz) :: M2)) ?round10 (0, slNil, slNil, [], [], l4, e4, M) ?h010)
     case he10 => exact (And.intro rfl (And.intro rfl (And.intro rfl (And.intro rfl (And.intro rfl (And.intro rfl (And.intro rfl trivial)))))))
     case hl10 => exact ⟨_, _, rfl, List.perm_append_comm (l₁ := [])⟩
     case h010 => exact ⟨Nat.zero_le _, rfl, rfl, own_nil 1, own_nil 3, .zero he4_, by simp, by simp, fun _ h => h⟩
     case round10 =>
      intro y_ hJ ih2
      try dsimp only at hJ ih2
      obtain ⟨k, v1, v2, svs, shs, l5, e5, M2⟩ := y_
      try dsimp only at hJ ih2
      obtain ⟨hk, hs1, hs2, ho1, ho2, hy, hokd, hMd, hMM⟩ := hJ
      show G _ _ [(0, .pointer (some ⟨br, 0, none⟩)), (3, u.v i), (4, .int .i64 (n : Int)), (5, .int .i64 (i : Int)), (6, .pointer (some ⟨b6, 0, none⟩)), (7, .int .i64 (n2 : Int)), (8, .int .i64 (k : Int))] ((some br, .cells #[.string (bs l5), .int .i64 ((e5 : Nat) : Int)] 86 (0, 0)) :: (some b6, .cells #[.string (bs a0), .int .i64 (a1 : Int), v1.v k, v2.v k] 106 (0, 0)) :: (v1.ob, .cells v1.cs 3 v1.fz) :: (v2.ob, .cells v2.cs 111 v2.fz) :: (u.ob, .cells u.cs 106 u.fz) :: M2) _
      have hl5 := hy.len
      have he5 := hy.err
      refine Zh ?_
      refine Zh ?_
      refine Zd (l := [0, 1, 2, 3, 4, 5, 6, 7, 8, 9]) rfl ?_
      refine Za rfl rfl rfl rfl (Zc rfl rfl) ?_
      refine Za rfl rfl rfl rfl (Zc rfl rfl) ?_
      refine Za rfl rfl rfl rfl (Xn rfl rfl rfl) ?_
      refine Za rfl rfl rfl rfl (Zc rfl rfl) ?_
      refine Xa 36 rfl (fun hc3 => ?_) (fun hc3 => ?_)
      ·
       refine Za rfl rfl rfl rfl (Zc rfl rfl) ?_
       refine Za rfl rfl rfl rfl (Ze rfl rfl) ?_
       refine Za rfl rfl rfl rfl (Zb (fo := 1) rfl Try.underlying86 rfl i_3 rfl rfl rfl) ?_
       refine Za rfl rfl rfl rfl (Zj rfl rfl (Zf 0 rfl) rfl Try.underlying3 rfl) ?_
       refine Za rfl rfl rfl rfl (V_eql rfl rfl rfl) ?_
       refine Za rfl rfl rfl rfl (Yz rfl rfl rfl) ?_
       refine Zg ?_
       refine Yk rfl (fun hc4 => ?_) (fun hc4 => ?_)
       ·
        refine Zu ?_
        refine Zh ?_
        refine Zs ?_
        refine Zh ?_
        refine Yf (Lq := []) (isq := []) (m := 8) Yo rfl rfl ?_
        refine GH_join (X := {y : Sl × Int × List UInt8 × Nat // Own 1 y.1 ((svs ++ [y.2.1]).flatMap i1C) (k + 1) ∧ Rdg encI GI l5 e5 y.2.1 y.2.2.1 y.2.2.2}) (fun xj => match xj with | ⟨⟨y1, a_, l6, e6⟩, hq1, hq2⟩ => [(0, .pointer (some ⟨br, 0, none⟩)), (3, u.v i), (4, .int .i64 (n : Int)), (5, .int .i64 (i : Int)), (6, .pointer (some ⟨b6, 0, none⟩)), (7, .int .i64 (n2 : Int)), (8, .int .i64 (k : Int))]) (fun xj => match xj with | ⟨⟨y1, a_, l6, e6⟩, hq1, hq2⟩ => ((some br, .cells #[.string (bs l6), .int .i64 ((e6 : Nat) : Int)] 86 (0, 0)) :: (some b6, .cells #[.string (bs a0), .int .i64 (a1 : Int), y1.v (k + 1), v2.v k] 106 (0, 0)) :: (y1.ob, .cells y1.cs 3 y1.fz) :: (v2.ob, .cells v2.cs 111 v2.fz) :: (u.ob, .cells u.cs 106 u.fz) :: M2)) ?rest12 (fun jn12 => ?main12)
        case rest12 =>
         intro xj
         obtain ⟨⟨y1, a_, l6, e6⟩, hq1, hq2⟩ := xj
         show G _ _ [(0, .pointer (some ⟨br, 0, none⟩)), (3, u.v i), (4, .int .i64 (n : Int)), (5, .int .i64 (i : Int)), (6, .pointer (some ⟨b6, 0, none⟩)), (7, .int .i64 (n2 : Int)), (8, .int .i64 (k : Int))] ((some br, .cells #[.string (bs l6), .int .i64 ((e6 : Nat) : Int)] 86 (0, 0)) :: (some b6, .cells #[.string (bs a0), .int .i64 (a1 : Int), y1.v (k + 1), v2.v k] 106 (0, 0)) :: (y1.ob, .cells y1.cs 3 y1.fz) :: (v2.ob, .cells v2.cs 111 v2.fz) :: (u.ob, .cells u.cs 106 u.fz) :: M2) _
         refine Zh ?_
         dsimp only at hq1 hq2
         have hl6_ := hq2.len
         have he6_ := hq2.err
         refine Zd (l := [0, 1, 2]) rfl ?_
         refine Za rfl rfl rfl rfl (Zc rfl rfl) ?_
         refine Zq (L2 := (_ :: _ :: _ :: _ :: _)) rfl rfl rfl rfl rfl rfl Try.call37 (rq_B br l6 e6 (by omega) (by omega)) [0] [] rfl rfl ?_
         rintro v post ⟨g, l7, e7, r7, rfl, rfl⟩
         show G _ _ _ (_ :: _ :: _ :: _ :: _ :: _) _
         have hl7_ := r7.len
         have he7_ := r7.err
         refine Za rfl rfl rfl rfl (Zk rfl rfl) ?_
         refine Zg ?_
         refine Yf (Lq := []) (isq := []) (m := 10) Yo rfl rfl ?_
         refine GH_join (X := {y : Sl × Ds × List UInt8 × Nat × List HBk // Own 3 y.1 ((shs ++ [y.2.1]).flatMap cDs) (k + 1) ∧ Rdg (encL encPT) (GL GPT) l7 e7 (y.2.1.s.l.map vDt) y.2.2.1 y.2.2.2.1 ∧ OkDs y.2.1 ∧ y.2.1.g = g ∧ (∀ z ∈ kDs y.2.1, z ∈ y.2.2.2.2) ∧ ∀ z ∈ M2, z ∈ y.2.2.2.2}) (fun xj => match xj with | ⟨⟨y2, d_, lr, er, M3⟩, hd1, hd2, hd3, hdg, hd4, hd5⟩ => [(0, .pointer (some ⟨br, 0, none⟩)), (3, u.v i), (4, .int .i64 (n : Int)), (5, .int .i64 (i : Int)), (6, .pointer (some ⟨b6, 0, none⟩)), (7, .int .i64 (n2 : Int)), (8, .int .i64 (k : Int))]) (fun xj => match xj with | ⟨⟨y2, d_, lr, er, M3⟩, hd1, hd2, hd3, hdg, hd4, hd5⟩ => ((some br, .cells #[.string (bs lr), .int .i64 ((er : Nat) : Int)] 86 (0, 0)) :: (some b6, .cells #[.string (bs a0), .int .i64 (a1 : Int), y1.v (k + 1), y2.v (k + 1)] 106 (0, 0)) :: (y1.ob, .cells y1.cs 3 y1.fz) :: (y2.ob, .cells y2.cs 111 y2.fz) :: (u.ob, .cells u.cs 106 u.fz) :: M3)) ?rest14 (fun jn14 => ?main14)
         case rest14 =>
          intro xj
          obtain ⟨⟨y2, d_, lr, er, M3⟩, hd1, hd2, hd3, hdg, hd4, hd5⟩ := xj
          show G _ _ [(0, .pointer (some ⟨br, 0, none⟩)), (3, u.v i), (4, .int .i64 (n : Int)), (5, .int .i64 (i : Int)), (6, .pointer (some ⟨b6, 0, none⟩)), (7, .int .i64 (n2 : Int)), (8, .int .i64 (k : Int))] ((some br, .cells #[.string (bs lr), .int .i64 ((er : Nat) : Int)] 86 (0, 0)) :: (some b6, .cells #[.string (bs a0), .int .i64 (a1 : Int), y1.v (k + 1), y2.v (k + 1)] 106 (0, 0)) :: (y1.ob, .cells y1.cs 3 y1.fz) :: (y2.ob, .cells y2.cs 111 y2.fz) :: (u.ob, .cells u.cs 106 u.fz) :: M3) _
          refine Zv ?_
          refine Zd (l := [0, 1, 2]) rfl ?_
          refine Za rfl rfl rfl rfl (Zc rfl rfl) ?_
          refine Za rfl rfl rfl rfl ((Xe rfl rfl rfl).int (Zw (by omega))) ?_
          refine Za rfl rfl rfl rfl (Zk rfl rfl) ?_
          refine Zg ?_
          refine Xj (L1 := [_, _, _, _, _]) ?_ [0, 0, 0, 0, 0] ?bhl10 (ih2 (k + 1, y1, y2, svs ++ [a_], shs ++ [d_], lr, er, ?M2) ?_ ?_)
          case bhl10 => (dsimp only; refine ⟨(_), [], rfl, ?_⟩; exact perm_all _)
          · (refine (And.intro ?_ (And.intro ?_ (And.intro ?_ (And.intro ?_ (And.intro ?_ (And.intro ?_ (And.intro ?_ trivial))))))) <;> first | rfl | exact Zl (by omega) | exact Zl (by simp))
          · exact ⟨by omega, by simp [hs1], by simp [hs2], hq1, hd1, by rw [zip_snoc mkPC (by omega)]; exact hy.next (rdgPC (x := mkPC a_ d_) (rdg_is1 (by omega) hq2) (by show Rdg encB _ _ _ d_.g _ _; rw [hdg]; exact r7) hd2) (by omega), oks_nx hokd hd3, sub_next hMd hd4 (fun z hz => by simp [hd5 z hz]) (fun z hz => by simp [hz]), fun z hz => by simp [hd5 z (hMM z hz)]⟩
          · (first | omega | (dsimp only; omega))
         case main14 =>
          refine Zi 0 rfl rfl rfl rfl (by kernel_rfl) (fun _ _ => Zb (fo := 3) rfl Try.underlying106 rfl i_104 rfl rfl rfl) ?_
          refine Zi 2 rfl rfl rfl rfl (by kernel_rfl) (fun _ _ => Zc rfl rfl) ?_
          refine Zi 3 rfl rfl rfl rfl (by kernel_rfl) (fun _ _ => Zc rfl rfl) ?_
          refine GH_all [1, 4] (by kernel_rfl) (by decide) ?_
          refine (And.intro ?_ (And.intro ?_ trivial))
          ·
           refine Xo rfl rfl rfl rfl (Zj rfl rfl (Zf 1 rfl) rfl Try.underlying104 rfl) ?_
           refine GH_all [4] (by kernel_rfl) (by decide) ?_
           refine (And.intro ?_ trivial)
           ·
            refine Ye (L2 := (_ :: _ :: _ :: _ :: _)) rfl rfl rfl rfl rfl rfl Try.call114 (rq_tenants br l7 e7 (by omega) (by omega)) [0] [] rfl rfl [] (by rintro v post ⟨s, l8, e8, M0, hso, hsl, r8, hoks0, hM0, rfl, rfl⟩; exact ⟨_, rfl⟩) ?_
            rintro v post ⟨s, l8, e8, M0, hso, hsl, r8, hoks0, hM0, rfl, rfl⟩
            refine GH_perm (perm_in [_] [_, _, _, _] _ _) ?_
            show GH _ _ _ _ _ _ _ (_ :: _ :: _ :: _ :: _ :: _) _
            refine Zi 5 rfl rfl rfl rfl (by kernel_rfl) (fun _ _ => Xw (cs := [_, _, _]) rfl Try.underlying111 i_111 rfl p_111 rfl rfl rfl) ?_
            refine GH_all [6] (by kernel_rfl) (by decide) ?_
            refine (And.intro ?_ trivial)
            ·
             refine Yl rfl rfl rfl rfl (Zn (s := 3) (cs := [_, _, _]) rfl Try.underlying104 i_111 rfl rfl rfl rfl rfl rfl rfl rfl rfl) [] (fun _ => ⟨_, rfl⟩) (fun b60 => ?_)
             refine GH_all [7] (by kernel_rfl) (by decide) ?_
             refine (And.intro ?_ trivial)
             ·
              refine Yq (l1 := [_, _, _, _]) (s := v2) (nn := k) (m := 1) (news := (cDs (⟨0, s, g⟩ : Ds))) (bt := 40) rfl rfl rfl rfl Try.underlying104 Try.underlying104 (by first | exact .inl rfl | exact .inr ⟨_, rfl⟩) i_111 rfl rfl rfl rfl rfl rfl ho2 rfl (Yg (Zf 0 rfl) rfl rfl (by simp [cDs, Value.oneCell'])) (by omega) (by omega) [] (fun _ => ⟨_, rfl⟩) ?_
              intro w2 hw2 _
              show GH _ _ _ _ _ _ _ (_ :: _ :: _ :: _ :: _ :: _ :: _) _
              refine Zi 8 rfl rfl rfl rfl (by kernel_rfl) (fun _ _ => Zb (fo := 3) rfl Try.underlying106 rfl i_104 rfl rfl rfl) ?_
              refine GH_all [9] (by kernel_rfl) (by decide) ?_
              refine (And.intro ?_ trivial)
              ·
               refine Xk (l1 := [_, _]) (L' := (_ :: _ :: _ :: _ :: _ :: _ :: _)) rfl rfl rfl rfl (Zm rfl rfl rfl (Zf 2 rfl) (by first | exact of_decide_eq_true rfl | omega | (simp [cOp, cWk, cIv, cHr, cLt, cWt, cIt, cFl, cTn, cCl, cPo, cSt, cDt, cDs, Sl.v, zIns, insV, cDp]; done) | (simp [cOp, cWk, cIv, cHr, cLt, cWt, cIt, cFl, cTn, cCl, cPo, cSt, cDt, cDs, Sl.v, zIns, insV, cDp]; omega) | (simp [cOp, cWk, cIv, cHr, cLt, cWt, cIt, cFl, cTn, cCl, cPo, cSt, cDt, cDs, Sl.v, zIns, insV, cDp] at *; omega)) i_104 rfl rfl) rfl [] rfl ?_
               refine Ya (by kernel_rfl) ?_
               exact Xj (L1 := [_, _, _, _, _]) (by exact (And.intro rfl (And.intro rfl (And.intro rfl (And.intro rfl (And.intro rfl (And.intro rfl (And.intro rfl trivial)))))))) [1, 1, 1, 1, 1] (by exact ⟨_, _, rfl, List.perm_append_comm (l₁ := [_])⟩) (jn14 ⟨(w2, (⟨0, s, g⟩ : Ds), l8, e8, M0 ++ M2), by rw [List.flatMap_append, List.flatMap_singleton]; exact hw2, r8, ⟨hso, hoks0⟩, rfl, fun z hz => List.mem_append_left _ (hM0 z hz), fun z hz => List.mem_append_right _ hz⟩)
          ·
           refine Ye (L2 := (_ :: _ :: _ :: _ :: _)) rfl rfl rfl rfl rfl rfl Try.call114 (rq_tenants br l7 e7 (by omega) (by omega)) [0] [] rfl rfl [] (by rintro v post ⟨s, l8, e8, M0, hso, hsl, r8, hoks0, hM0, rfl, rfl⟩; exact ⟨_, rfl⟩) ?_
           rintro v post ⟨s, l8, e8, M0, hso, hsl, r8, hoks0, hM0, rfl, rfl⟩
           refine GH_perm (perm_in [_] [_, _, _, _] _ _) ?_
           show GH _ _ _ _ _ _ _ (_ :: _ :: _ :: _ :: _ :: _) _
           refine Zi 5 rfl rfl rfl rfl (by kernel_rfl) (fun _ _ => Xw (cs := [_, _, _]) rfl Try.underlying111 i_111 rfl p_111 rfl rfl rfl) ?_
           refine GH_all [1, 6] (by kernel_rfl) (by decide) ?_
           refine (And.intro ?_ (And.intro ?_ trivial))
           ·
            refine Xo rfl rfl rfl rfl (Zj rfl rfl (Zf 1 rfl) rfl Try.underlying104 rfl) ?_
            refine GH_all [6] (by kernel_rfl) (by decide) ?_
            refine (And.intro ?_ trivial)
            ·
             refine Yl rfl rfl rfl rfl (Zn (s := 3) (cs := [_, _, _]) rfl Try.underlying104 i_111 rfl rfl rfl rfl rfl rfl rfl rfl rfl) [] (fun _ => ⟨_, rfl⟩) (fun b60 => ?_)
             refine GH_all [7] (by kernel_rfl) (by decide) ?_
             refine (And.intro ?_ trivial)
             ·
              refine Yq (l1 := [_, _, _, _]) (s := v2) (nn := k) (m := 1) (news := (cDs (⟨0, s, g⟩ : Ds))) (bt := 40) rfl rfl rfl rfl Try.underlying104 Try.underlying104 (by first | exact .inl rfl | exact .inr ⟨_, rfl⟩) i_111 rfl rfl rfl rfl rfl rfl ho2 rfl (Yg (Zf 0 rfl) rfl rfl (by simp [cDs, Value.oneCell'])) (by omega) (by omega) [] (fun _ => ⟨_, rfl⟩) ?_
              intro w2 hw2 _
              show GH _ _ _ _ _ _ _ (_ :: _ :: _ :: _ :: _ :: _ :: _) _
              refine Zi 8 rfl rfl rfl rfl (by kernel_rfl) (fun _ _ => Zb (fo := 3) rfl Try.underlying106 rfl i_104 rfl rfl rfl) ?_
              refine GH_all [9] (by kernel_rfl) (by decide) ?_
              refine (And.intro ?_ trivial)
              ·
               refine Xk (l1 := [_, _]) (L' := (_ :: _ :: _ :: _ :: _ :: _ :: _)) rfl rfl rfl rfl (Zm rfl rfl rfl (Zf 2 rfl) (by first | exact of_decide_eq_true rfl | omega | (simp [cOp, cWk, cIv, cHr, cLt, cWt, cIt, cFl, cTn, cCl, cPo, cSt, cDt, cDs, Sl.v, zIns, insV, cDp]; done) | (simp [cOp, cWk, cIv, cHr, cLt, cWt, cIt, cFl, cTn, cCl, cPo, cSt, cDt, cDs, Sl.v, zIns, insV, cDp]; omega) | (simp [cOp, cWk, cIv, cHr, cLt, cWt, cIt, cFl, cTn, cCl, cPo, cSt, cDt, cDs, Sl.v, zIns, insV, cDp] at *; omega)) i_104 rfl rfl) rfl [] rfl ?_
               refine Ya (by kernel_rfl) ?_
               exact Xj (L1 := [_, _, _, _, _]) (by exact (And.intro rfl (And.intro rfl (And.intro rfl (And.intro rfl (And.intro rfl (And.intro rfl (And.intro rfl trivial)))))))) [1, 1, 1, 1, 1] (by exact ⟨_, _, rfl, List.perm_append_comm (l₁ := [_])⟩) (jn14 ⟨(w2, (⟨0, s, g⟩ : Ds), l8, e8, M0 ++ M2), by rw [List.flatMap_append, List.flatMap_singleton]; exact hw2, r8, ⟨hso, hoks0⟩, rfl, fun z hz => List.mem_append_left _ (hM0 z hz), fun z hz => List.mem_append_right _ hz⟩)
           ·
            refine Yl rfl rfl rfl rfl (Zn (s := 3) (cs := [_, _, _]) rfl Try.underlying104 i_111 rfl rfl rfl rfl rfl rfl rfl rfl rfl) [] (fun _ => ⟨_, rfl⟩) (fun b60 => ?_)
            refine GH_all [1] (by kernel_rfl) (by decide) ?_
            refine (And.intro ?_ trivial)
            ·
             refine Xo rfl rfl rfl rfl (Zj rfl rfl (Zf 2 rfl) rfl Try.underlying104 rfl) ?_
             refine GH_all [7] (by kernel_rfl) (by decide) ?_
             refine (And.intro ?_ trivial)
             ·
              refine Yq (l1 := [_, _, _, _]) (s := v2) (nn := k) (m := 1) (news := (cDs (⟨0, s, g⟩ : Ds))) (bt := 40) rfl rfl rfl rfl Try.underlying104 Try.underlying104 (by first | exact .inl rfl | exact .inr ⟨_, rfl⟩) i_111 rfl rfl rfl rfl rfl rfl ho2 rfl (Yg (Zf 0 rfl) rfl rfl (by simp [cDs, Value.oneCell'])) (by omega) (by omega) [] (fun _ => ⟨_, rfl⟩) ?_
              intro w2 hw2 _
              show GH _ _ _ _ _ _ _ (_ :: _ :: _ :: _ :: _ :: _ :: _) _
              refine Zi 8 rfl rfl rfl rfl (by kernel_rfl) (fun _ _ => Zb (fo := 3) rfl Try.underlying106 rfl i_104 rfl rfl rfl) ?_
              refine GH_all [9] (by kernel_rfl) (by decide) ?_
              refine (And.intro ?_ trivial)
              ·
               refine Xk (l1 := [_, _]) (L' := (_ :: _ :: _ :: _ :: _ :: _ :: _)) rfl rfl rfl rfl (Zm rfl rfl rfl (Zf 2 rfl) (by first | exact of_decide_eq_true rfl | omega | (simp [cOp, cWk, cIv, cHr, cLt, cWt, cIt, cFl, cTn, cCl, cPo, cSt, cDt, cDs, Sl.v, zIns, insV, cDp]; done) | (simp [cOp, cWk, cIv, cHr, cLt, cWt, cIt, cFl, cTn, cCl, cPo, cSt, cDt, cDs, Sl.v, zIns, insV, cDp]; omega) | (simp [cOp, cWk, cIv, cHr, cLt, cWt, cIt, cFl, cTn, cCl, cPo, cSt, cDt, cDs, Sl.v, zIns, insV, cDp] at *; omega)) i_104 rfl rfl) rfl [] rfl ?_
               refine Ya (by kernel_rfl) ?_
               exact Xj (L1 := [_, _, _, _, _]) (by exact (And.intro rfl (And.intro rfl (And.intro rfl (And.intro rfl (And.intro rfl (And.intro rfl (And.intro rfl trivial)))))))) [1, 1, 1, 1, 1] (by exact ⟨_, _, rfl, List.perm_append_comm (l₁ := [_])⟩) (jn14 ⟨(w2, (⟨0, s, g⟩ : Ds), l8, e8, M0 ++ M2), by rw [List.flatMap_append, List.flatMap_singleton]; exact hw2, r8, ⟨hso, hoks0⟩, rfl, fun z hz => List.mem_append_left _ (hM0 z hz), fun z hz => List.mem_append_right _ hz⟩)
        case main12 =>
         refine Zi 0 rfl rfl rfl rfl (by kernel_rfl) (fun _ _ => Zb (fo := 2) rfl Try.underlying106 rfl i_99 rfl rfl rfl) ?_
         refine Zi 2 rfl rfl rfl rfl (by kernel_rfl) (fun _ _ => Zc rfl rfl) ?_
         refine GH_all [1, 3] (by kernel_rfl) (by decide) ?_
         refine (And.intro ?_ (And.intro ?_ trivial))
         ·
          refine Xo rfl rfl rfl rfl (Zj rfl rfl (Zf 1 rfl) rfl Try.underlying99 rfl) ?_
          refine GH_all [3] (by kernel_rfl) (by decide) ?_
          refine (And.intro ?_ trivial)
          ·
           refine Ye (L2 := (_ :: _ :: _ :: _ :: _)) rfl rfl rfl rfl rfl rfl Try.call38 (rq_I br l5 e5 (by omega) (by omega)) [0] [] rfl rfl [] (by rintro v post ⟨a2, l6, e6, r6, rfl, rfl⟩; exact ⟨_, rfl⟩) ?_
           rintro v post ⟨a2, l6, e6, r6, rfl, rfl⟩
           show GH _ _ _ _ _ _ _ (_ :: _ :: _ :: _ :: _ :: _) _
           refine GH_all [4] (by kernel_rfl) (by decide) ?_
           refine (And.intro ?_ trivial)
           ·
            refine Yl rfl rfl rfl rfl (Zn (s := 1) (cs := [_]) rfl Try.underlying99 i_3 rfl rfl rfl rfl rfl rfl rfl rfl rfl) [] (fun _ => ⟨_, rfl⟩) (fun b49 => ?_)
            refine GH_all [5] (by kernel_rfl) (by decide) ?_
            refine (And.intro ?_ trivial)
            ·
             refine Yq (l1 := [_, _, _]) (s := v1) (nn := k) (m := 1) (news := (i1C (a2 : Int))) (bt := 8) rfl rfl rfl rfl Try.underlying99 Try.underlying99 (by first | exact .inl rfl | exact .inr ⟨_, rfl⟩) i_3 rfl rfl rfl rfl rfl rfl ho1 rfl (Yg (Zf 0 rfl) rfl rfl (by simp [i1C, Value.oneCell'])) (by omega) (by omega) [] (fun _ => ⟨_, rfl⟩) ?_
             intro w1 hw1 _
             show GH _ _ _ _ _ _ _ (_ :: _ :: _ :: _ :: _ :: _ :: _) _
             refine Zi 6 rfl rfl rfl rfl (by kernel_rfl) (fun _ _ => Zb (fo := 2) rfl Try.underlying106 rfl i_99 rfl rfl rfl) ?_
             refine GH_all [7] (by kernel_rfl) (by decide) ?_
             refine (And.intro ?_ trivial)
             ·
              refine Xk (l1 := [_, _]) (L' := (_ :: _ :: _ :: _ :: _ :: _ :: _)) rfl rfl rfl rfl (Zm rfl rfl rfl (Zf 2 rfl) (by first | exact of_decide_eq_true rfl | omega | (simp [cOp, cWk, cIv, cHr, cLt, cWt, cIt, cFl, cTn, cCl, cPo, cSt, cDt, cDs, Sl.v, zIns, insV, cDp]; done) | (simp [cOp, cWk, cIv, cHr, cLt, cWt, cIt, cFl, cTn, cCl, cPo, cSt, cDt, cDs, Sl.v, zIns, insV, cDp]; omega) | (simp [cOp, cWk, cIv, cHr, cLt, cWt, cIt, cFl, cTn, cCl, cPo, cSt, cDt, cDs, Sl.v, zIns, insV, cDp] at *; omega)) i_99 rfl rfl) rfl [] rfl ?_
              refine Ya (by kernel_rfl) ?_
              exact Xj (L1 := [_, _, _, _, _]) (by exact (And.intro rfl (And.intro rfl (And.intro rfl (And.intro rfl (And.intro rfl (And.intro rfl (And.intro rfl trivial)))))))) [1, 1, 1, 1, 1] (by exact ⟨_, _, rfl, List.perm_append_comm (l₁ := [_])⟩) (jn12 ⟨(w1, (a2 : Int), l6, e6), by rw [List.flatMap_append, List.flatMap_singleton]; exact hw1, r6⟩)
         ·
          refine Ye (L2 := (_ :: _ :: _ :: _ :: _)) rfl rfl rfl rfl rfl rfl Try.call38 (rq_I br l5 e5 (by omega) (by omega)) [0] [] rfl rfl [] (by rintro v post ⟨a2, l6, e6, r6, rfl, rfl⟩; exact ⟨_, rfl⟩) ?_
          rintro v post ⟨a2, l6, e6, r6, rfl, rfl⟩
          show GH _ _ _ _ _ _ _ (_ :: _ :: _ :: _ :: _ :: _) _
          refine GH_all [1, 4] (by kernel_rfl) (by decide) ?_
          refine (And.intro ?_ (And.intro ?_ trivial))
          ·
           refine Xo rfl rfl rfl rfl (Zj rfl rfl (Zf 1 rfl) rfl Try.underlying99 rfl) ?_
           refine GH_all [4] (by kernel_rfl) (by decide) ?_
           refine (And.intro ?_ trivial)
           ·
            refine Yl rfl rfl rfl rfl (Zn (s := 1) (cs := [_]) rfl Try.underlying99 i_3 rfl rfl rfl rfl rfl rfl rfl rfl rfl) [] (fun _ => ⟨_, rfl⟩) (fun b49 => ?_)
            refine GH_all [5] (by kernel_rfl) (by decide) ?_
            refine (And.intro ?_ trivial)
            ·
             refine Yq (l1 := [_, _, _]) (s := v1) (nn := k) (m := 1) (news := (i1C (a2 : Int))) (bt := 8) rfl rfl rfl rfl Try.underlying99 Try.underlying99 (by first | exact .inl rfl | exact .inr ⟨_, rfl⟩) i_3 rfl rfl rfl rfl rfl rfl ho1 rfl (Yg (Zf 0 rfl) rfl rfl (by simp [i1C, Value.oneCell'])) (by omega) (by omega) [] (fun _ => ⟨_, rfl⟩) ?_
             intro w1 hw1 _
             show GH _ _ _ _ _ _ _ (_ :: _ :: _ :: _ :: _ :: _ :: _) _
             refine Zi 6 rfl rfl rfl rfl (by kernel_rfl) (fun _ _ => Zb (fo := 2) rfl Try.underlying106 rfl i_99 rfl rfl rfl) ?_
             refine GH_all [7] (by kernel_rfl) (by decide) ?_
             refine (And.intro ?_ trivial)
             ·
              refine Xk (l1 := [_, _]) (L' := (_ :: _ :: _ :: _ :: _ :: _ :: _)) rfl rfl rfl rfl (Zm rfl rfl rfl (Zf 2 rfl) (by first | exact of_decide_eq_true rfl | omega | (simp [cOp, cWk, cIv, cHr, cLt, cWt, cIt, cFl, cTn, cCl, cPo, cSt, cDt, cDs, Sl.v, zIns, insV, cDp]; done) | (simp [cOp, cWk, cIv, cHr, cLt, cWt, cIt, cFl, cTn, cCl, cPo, cSt, cDt, cDs, Sl.v, zIns, insV, cDp]; omega) | (simp [cOp, cWk, cIv, cHr, cLt, cWt, cIt, cFl, cTn, cCl, cPo, cSt, cDt, cDs, Sl.v, zIns, insV, cDp] at *; omega)) i_99 rfl rfl) rfl [] rfl ?_
              refine Ya (by kernel_rfl) ?_
              exact Xj (L1 := [_, _, _, _, _]) (by exact (And.intro rfl (And.intro rfl (And.intro rfl (And.intro rfl (And.intro rfl (And.intro rfl (And.intro rfl trivial)))))))) [1, 1, 1, 1, 1] (by exact ⟨_, _, rfl, List.perm_append_comm (l₁ := [_])⟩) (jn12 ⟨(w1, (a2 : Int), l6, e6), by rw [List.flatMap_append, List.flatMap_singleton]; exact hw1, r6⟩)
          ·
           refine Yl rfl rfl rfl rfl (Zn (s := 1) (cs := [_]) rfl Try.underlying99 i_3 rfl rfl rfl rfl rfl rfl rfl rfl rfl) [] (fun _ => ⟨_, rfl⟩) (fun b49 => ?_)
           refine GH_all [1] (by kernel_rfl) (by decide) ?_
           refine (And.intro ?_ trivial)
           ·
            refine Xo rfl rfl rfl rfl (Zj rfl rfl (Zf 2 rfl) rfl Try.underlying99 rfl) ?_
            refine GH_all [5] (by kernel_rfl) (by decide) ?_
            refine (And.intro ?_ trivial)
            ·
             refine Yq (l1 := [_, _, _]) (s := v1) (nn := k) (m := 1) (news := (i1C (a2 : Int))) (bt := 8) rfl rfl rfl rfl Try.underlying99 Try.underlying99 (by first | exact .inl rfl | exact .inr ⟨_, rfl⟩) i_3 rfl rfl rfl rfl rfl rfl ho1 rfl (Yg (Zf 0 rfl) rfl rfl (by simp [i1C, Value.oneCell'])) (by omega) (by omega) [] (fun _ => ⟨_, rfl⟩) ?_
             intro w1 hw1 _
             show GH _ _ _ _ _ _ _ (_ :: _ :: _ :: _ :: _ :: _ :: _) _
             refine Zi 6 rfl rfl rfl rfl (by kernel_rfl) (fun _ _ => Zb (fo := 2) rfl Try.underlying106 rfl i_99 rfl rfl rfl) ?_
             refine GH_all [7] (by kernel_rfl) (by decide) ?_
             refine (And.intro ?_ trivial)
             ·
              refine Xk (l1 := [_, _]) (L' := (_ :: _ :: _ :: _ :: _ :: _ :: _)) rfl rfl rfl rfl (Zm rfl rfl rfl (Zf 2 rfl) (by first | exact of_decide_eq_true rfl | omega | (simp [cOp, cWk, cIv, cHr, cLt, cWt, cIt, cFl, cTn, cCl, cPo, cSt, cDt, cDs, Sl.v, zIns, insV, cDp]; done) | (simp [cOp, cWk, cIv, cHr, cLt, cWt, cIt, cFl, cTn, cCl, cPo, cSt, cDt, cDs, Sl.v, zIns, insV, cDp]; omega) | (simp [cOp, cWk, cIv, cHr, cLt, cWt, cIt, cFl, cTn, cCl, cPo, cSt, cDt, cDs, Sl.v, zIns, insV, cDp] at *; omega)) i_99 rfl rfl) rfl [] rfl ?_
              refine Ya (by kernel_rfl) ?_
              exact Xj (L1 := [_, _, _, _, _]) (by exact (And.intro rfl (And.intro rfl (And.intro rfl (And.intro rfl (And.intro rfl (And.intro rfl (And.intro rfl trivial)))))))) [1, 1, 1, 1, 1] (by exact ⟨_, _, rfl, List.perm_append_comm (l₁ := [_])⟩) (jn12 ⟨(w1, (a2 : Int), l6, e6), by rw [List.flatMap_append, List.flatMap_singleton]; exact hw1, r6⟩)
       refine Yr rfl ?_
       subst hs1
       refine Xj (L1 := [_, _, _, _, _])  ?_ [0, 0, 0, 0, 0] ?_ (jnB2 (v1, v2, svs, shs, l5, e5, M2) ?_)
       · (refine (And.intro ?_ (And.intro ?_ (And.intro ?_ (And.intro ?_ (And.intro ?_ trivial))))) <;> first | rfl | exact Zl (by omega) | exact Zl (by simp))
       · exact ⟨_, _, rfl, List.perm_append_comm (l₁ := [])⟩
       · exact ⟨by omega, hs2, ho1, ho2, rdg_Le (by omega) h4 hy (by omega), hokd, hMd, hMM⟩
      refine Yb rfl rfl rfl rfl ?_
      refine Yb rfl rfl rfl rfl ?_
      refine Yb rfl rfl rfl rfl ?_
      refine Yb rfl rfl rfl rfl ?_
      refine Yb rfl rfl rfl rfl ?_
      refine Za rfl rfl rfl rfl (Xg rfl rfl rfl) ?_
      refine Zg ?_
      refine Xu rfl ?_
      refine Yr rfl ?_
      subst hs1
      refine Xj (L1 := [_, _, _, _, _])  ?_ [0, 0, 0, 0, 0] ?_ (jnB2 (v1, v2, svs, shs, l5, e5, M2) ?_)
      · (refine (And.intro ?_ (And.intro ?_ (And.intro ?_ (And.intro ?_ (And.intro ?_ trivial))))) <;> first | rfl | exact Zl (by omega) | exact Zl (by simp))
      · exact ⟨_, _, rfl, List.perm_append_comm (l₁ := [])⟩
      · exact ⟨by omega, hs2, ho1, ho2, rdg_Le (by omega) h4 hy (by omega), hokd, hMd, hMM⟩
   refine Yr rfl ?_
   refine Zh ?_
   refine Zd (l := [0, 1]) rfl ?_
   refine Za rfl rfl rfl rfl (Zc rfl rfl) ?_
   refine Za rfl rfl rfl rfl (Zk rfl rfl) ?_
   refine Zg ?_
   refine G_retT (p1 := [_, _]) (T := _) Try.func42 rfl (Zy (Yt rfl) Zp) [0, 0] ⟨_, _, rfl, List.perm_append_comm (l₁ := [])⟩ ?_
   dsimp only [packed]
   exact ⟨insOf u 106 ms, l1, e1, _, Yh (by rw [hml]; exact hu) (by omega), by show ms.length ≤ _; omega, rdg_Le he h0 hx (by omega), hoks, sub_hd hM, by rw [Xd, hml], rfl⟩
  refine Yb rfl rfl rfl rfl ?_
  refine Yb rfl rfl rfl rfl ?_
  refine Yb rfl rfl rfl rfl ?_
  refine Yb rfl rfl rfl rfl ?_
  refine Yb rfl rfl rfl rfl ?_
  refine Za rfl rfl rfl rfl (Xg rfl rfl rfl) ?_
  refine Zg ?_
  refine Xu rfl ?_
  refine Yr rfl ?_
  refine Zh ?_
  refine Zd (l := [0, 1]) rfl ?_
  refine Za rfl rfl rfl rfl (Zc rfl rfl) ?_
  refine Za rfl rfl rfl rfl (Zk rfl rfl) ?_
  refine Zg ?_
  refine G_retT (p1 := [_, _]) (T := _) Try.func42 rfl (Zy (Yt rfl) Zp) [0, 0] ⟨_, _, rfl, List.perm_append_comm (l₁ := [])⟩ ?_
  dsimp only [packed]
  exact ⟨insOf u 106 ms, l1, e1, _, Yh (by rw [hml]; exact hu) (by omega), by show ms.length ≤ _; omega, rdg_Le he h0 hx (by omega), hoks, sub_hd hM, by rw [Xd, hml], rfl⟩

end
end Go.Proofs.Ytjnaeoelnmhjfaa

set_option linter.unusedSimpArgs false
set_option linter.unusedVariables false
namespace Go.Proofs.Ytjnaeoelnmhjfaa
open Go Go.RowKit

section
theorem i_38 : Try.prog.info? 38 = some Try.t38 := by kernel_rfl
theorem p_141 : placesOf Try.prog (Try.prog.fieldsOf 141) = some [(0, 1), (1, 16)] := by kernel_rfl
theorem p_143 : placesOf Try.prog (Try.prog.fieldsOf 143) = some [(0, 1), (1, 1), (2, 1), (3, 1), (4, 1), (5, 1)] := by kernel_rfl
theorem p_145 : placesOf Try.prog (Try.prog.fieldsOf 145) = some [(0, 1), (1, 1)] := by kernel_rfl


/-- All that there is, as the document has it. -/
structure Dst where
  v0 : Nat
  g : Bool
  v2 : Int
  v3 : Int
  v4 : Int
  v5 : Int
  v6 : Int
  li : Ins Op
  en : Ins Op
  wo : Ins Wk
  iv : Ins Iv
  po : Ins Dp
  hi : Ins Hr
  le : Ins Lt
  wa : Ins Wt
def cDst (x : Dst) : List Value := [.int .u64 (x.v0 : Int), .bool x.g, .int .i64 x.v2, .int .i64 x.v3, .int .i64 x.v4, .int .i64 x.v5, .int .i64 x.v6, .slice x.li.p x.li.l.length x.li.cap, .slice x.en.p x.en.l.length x.en.cap, .slice x.wo.p x.wo.l.length x.wo.cap, .slice x.iv.p x.iv.l.length x.iv.cap, .slice x.po.p x.po.l.length x.po.cap, .slice x.hi.p x.hi.l.length x.hi.cap, .slice x.le.p x.le.l.length x.le.cap, .slice x.wa.p x.wa.l.length x.wa.cap]
def vDst (x : Dst) : PS := ⟨x.v0, x.g, x.v2, x.v3, x.v4, x.v5, x.v6, x.li.l, x.en.l, x.wo.l, x.iv.l, x.po.l.map vDp, x.hi.l, x.le.l, x.wa.l⟩
def kDst (x : Dst) : List HBk := insK x.li :: insK x.en :: insK x.wo :: insK x.iv :: insK x.po :: insK x.hi :: insK x.le :: insK x.wa :: x.po.l.flatMap kDp
structure MkDst (x : Dst) : Prop where
  li : InsOk 18 cOp x.li
  en : InsOk 18 cOp x.en
  wo : InsOk 7 cWk x.wo
  iv : InsOk 5 cIv x.iv
  po : InsOk 4 cDp x.po
  hi : InsOk 17 cHr x.hi
  le : InsOk 6 cLt x.le
  wa : InsOk 2 cWt x.wa
  po2 : ∀ y ∈ x.po.l, OkDp y
def zDst : Dst := (⟨0, false, 0, 0, 0, 0, 0, zIns Op, zIns Op, zIns Wk, zIns Iv, zIns Dp, zIns Hr, zIns Lt, zIns Wt⟩ : Dst)
theorem zDst_ok : MkDst zDst := ⟨zIns_ok _ _, zIns_ok _ _, zIns_ok _ _, zIns_ok _ _, zIns_ok _ _, zIns_ok _ _, zIns_ok _ _, zIns_ok _ _, by intro y hy; cases hy⟩
theorem zDst_k : ∀ z ∈ kDst zDst, z ∈ ([(none, .cells #[] 0 (0, 0))] : List HBk) := by
  intro z hz
  simp [kDst, zDst, insK, zIns] at hz
  simp [hz]
theorem dst_sub {x : Dst} {Mp : List HBk} (hM : ∀ z ∈ insK x.po :: x.po.l.flatMap kDp, z ∈ Mp) : ∀ z ∈ kDst x, z ∈ insK x.li :: insK x.en :: insK x.wo :: insK x.iv :: insK x.hi :: insK x.le :: insK x.wa :: Mp := by
  intro z hz
  unfold kDst at hz
  have h1 := hM z
  simp only [List.mem_cons] at hz h1 ⊢
  grind
theorem dst_set9 {x : Dst} {u : Sl} {T : TypeId} {ms : List Wk} {n : Nat} (h : ms.length = n) : (cDst x).toArray.setIfInBounds 9 (u.v n) = (cDst { x with wo := insOf u T ms }).toArray := by subst h; rfl
theorem dst_set10 {x : Dst} {u : Sl} {T : TypeId} {ms : List Iv} {n : Nat} (h : ms.length = n) : (cDst x).toArray.setIfInBounds 10 (u.v n) = (cDst { x with iv := insOf u T ms }).toArray := by subst h; rfl
theorem dst_set11 {x : Dst} {u : Sl} {T : TypeId} {ms : List Dp} {n : Nat} (h : ms.length = n) : (cDst x).toArray.setIfInBounds 11 (u.v n) = (cDst { x with po := insOf u T ms }).toArray := by subst h; rfl
theorem dst_set12 {x : Dst} {u : Sl} {T : TypeId} {ms : List Hr} {n : Nat} (h : ms.length = n) : (cDst x).toArray.setIfInBounds 12 (u.v n) = (cDst { x with hi := insOf u T ms }).toArray := by subst h; rfl
theorem dst_set13 {x : Dst} {u : Sl} {T : TypeId} {ms : List Lt} {n : Nat} (h : ms.length = n) : (cDst x).toArray.setIfInBounds 13 (u.v n) = (cDst { x with le := insOf u T ms }).toArray := by subst h; rfl
theorem dst_set14 {x : Dst} {u : Sl} {T : TypeId} {ms : List Wt} {n : Nat} (h : ms.length = n) : (cDst x).toArray.setIfInBounds 14 (u.v n) = (cDst { x with wa := insOf u T ms }).toArray := by subst h; rfl

set_option maxRecDepth 100000 in
set_option maxHeartbeats 4000000 in
theorem rq_rest (br : Nat) (l : List UInt8) (e : Nat) (hl : l.length ≤ 140737488350000) (he : e ≤ 1000) (x : Dst) :
    Ct Try.prog 43 [.pointer (some ⟨br, 0, none⟩), .agg ((cDst ({ x with hi := zIns Hr, le := zIns Lt, wa := zIns Wt } : Dst)).toArray)] [] [(some br, .cells #[.string (bs l), .int .i64 ((e : Nat) : Int)] 86 (0, 0))] fun v post => ∃ (shi : Ins Hr) (sle : Ins Lt) (swa : Ins Wt) (la lb l1 : List UInt8) (ea eb e1 : Nat), InsOk 17 cHr shi ∧ InsOk 6 cLt sle ∧ InsOk 2 cWt swa ∧ Rdg (encL encHr) (GL GHr) l e shi.l la ea ∧ Rdg (encL encLt) (GL GLt) la ea sle.l lb eb ∧ Rdg (encL encWt) (GL GWt) lb eb swa.l l1 e1 ∧ v = .agg ((cDst ({ x with hi := shi, le := sle, wa := swa } : Dst)).toArray) ∧ post = [(some br, .cells #[.string (bs l1), .int .i64 ((e1 : Nat) : Int)] 86 (0, 0)), insK shi, insK sle, insK swa] := by
 refine Yu Try.func43 rfl rfl (fun w0 => ?_)
 show G _ _ [(0, _), (1, _)] _ _
 refine Zh ?_
 refine Zd (l := [0, 1]) rfl ?_
 refine Yw rfl rfl rfl rfl (N_boxA rfl rfl) (fun b3 => ?_)
 refine Yw rfl rfl rfl rfl (Ym rfl i_38 rfl) (fun b4 => ?_)
 refine Zg ?_
 refine Zh ?_
 refine Zd (l := [0, 1, 2]) rfl ?_
 refine Za rfl rfl rfl rfl (Zc rfl rfl) ?_
 refine Zq (L2 := [_, _]) rfl rfl rfl rfl rfl rfl Try.call40 (rq_N br l e (by omega) (by omega)) [2] [] rfl rfl ?_
 rintro v post ⟨na, la0, ea0, ha0, rfl, rfl⟩
 show G _ _ _ [_, _, _] _
 obtain ⟨hna, hla0, hea0⟩ := rd_n (by omega) ha0
 refine Za rfl rfl rfl rfl (Zk rfl rfl) ?_
 refine Zg ?_
 refine Zh ?_
 refine Zh ?_
 refine Xq (.cells #[] 141 (0, 0)) ?_
 refine Zd (l := [0]) rfl ?_
 refine Za rfl rfl rfl rfl (Zk rfl rfl) ?_
 refine Zg ?_
 refine G_joinB (X := Ins Hr × List UInt8 × Nat) (fun xj => match xj with | ⟨shi, la2, ea2⟩ => InsOk 17 cHr shi ∧ Rdg (encL encHr) (GL GHr) l e shi.l la2 ea2) (fun xj => match xj with | ⟨shi, la2, ea2⟩ => [(0, .pointer (some ⟨br, 0, none⟩)), (3, .pointer (some ⟨b3, 0, none⟩)), (4, .pointer (some ⟨b4, 0, none⟩))]) (fun xj => match xj with | ⟨shi, la2, ea2⟩ => [(some br, .cells #[.string (bs la2), .int .i64 ((ea2 : Nat) : Int)] 86 (0, 0)), (some b3, .cells ((cDst ({ x with hi := shi, le := zIns Lt, wa := zIns Wt } : Dst)).toArray) 38 (0, 0)), insK shi, (some b4, .cells (cDst zDst).toArray 38 (0, 0))]) ?restB0 (fun jnB0 => ?mainB0)
 case restB0 =>
  intro xj hjB
  obtain ⟨shi, la2, ea2⟩ := xj
  dsimp only at hjB
  obtain ⟨hshi, rhi⟩ := hjB
  show G _ _ [(0, .pointer (some ⟨br, 0, none⟩)), (3, .pointer (some ⟨b3, 0, none⟩)), (4, .pointer (some ⟨b4, 0, none⟩))] [(some br, .cells #[.string (bs la2), .int .i64 ((ea2 : Nat) : Int)] 86 (0, 0)), (some b3, .cells ((cDst ({ x with hi := shi, le := zIns Lt, wa := zIns Wt } : Dst)).toArray) 38 (0, 0)), insK shi, (some b4, .cells (cDst zDst).toArray 38 (0, 0))] _
  have hla2 := rhi.len
  have hea2 := rhi.err
  refine Zh ?_
  refine Zd (l := [0, 1, 2]) rfl ?_
  refine Za rfl rfl rfl rfl (Zc rfl rfl) ?_
  refine Zq (L2 := [_, _, _]) rfl rfl rfl rfl rfl rfl Try.call40 (rq_N br la2 ea2 (by omega) (by omega)) [0] [] rfl rfl ?_
  rintro v post ⟨nb, lb0, eb0, hb0, rfl, rfl⟩
  show G _ _ _ [_, _, _, _] _
  obtain ⟨hnb, hlb0, heb0⟩ := rd_n (by omega) hb0
  refine Za rfl rfl rfl rfl (Zk rfl rfl) ?_
  refine Zg ?_
  refine Zh ?_
  refine Zh ?_
  refine Xq (.cells #[] 143 (0, 0)) ?_
  refine Zd (l := [0]) rfl ?_
  refine Za rfl rfl rfl rfl (Zk rfl rfl) ?_
  refine Zg ?_
  refine G_joinB (X := Ins Lt × List UInt8 × Nat) (fun xj => match xj with | ⟨sle, lb2, eb2⟩ => InsOk 6 cLt sle ∧ Rdg (encL encLt) (GL GLt) la2 ea2 sle.l lb2 eb2) (fun xj => match xj with | ⟨sle, lb2, eb2⟩ => [(0, .pointer (some ⟨br, 0, none⟩)), (3, .pointer (some ⟨b3, 0, none⟩)), (4, .pointer (some ⟨b4, 0, none⟩))]) (fun xj => match xj with | ⟨sle, lb2, eb2⟩ => [(some br, .cells #[.string (bs lb2), .int .i64 ((eb2 : Nat) : Int)] 86 (0, 0)), (some b3, .cells ((cDst ({ x with hi := shi, le := sle, wa := zIns Wt } : Dst)).toArray) 38 (0, 0)), insK sle, (some b4, .cells (cDst zDst).toArray 38 (0, 0)), insK shi]) ?restB4 (fun jnB4 => ?mainB4)
  case restB4 =>
   intro xj hjB
   obtain ⟨sle, lb2, eb2⟩ := xj
   dsimp only at hjB
   obtain ⟨hsle, rle⟩ := hjB
   show G _ _ [(0, .pointer (some ⟨br, 0, none⟩)), (3, .pointer (some ⟨b3, 0, none⟩)), (4, .pointer (some ⟨b4, 0, none⟩))] [(some br, .cells #[.string (bs lb2), .int .i64 ((eb2 : Nat) : Int)] 86 (0, 0)), (some b3, .cells ((cDst ({ x with hi := shi, le := sle, wa := zIns Wt } : Dst)).toArray) 38 (0, 0)), insK sle, (some b4, .cells (cDst zDst).toArray 38 (0, 0)), insK shi] _
   have hlb2 := rle.len
   have heb2 := rle.err
   refine Zh ?_
   refine Zd (l := [0, 1, 2]) rfl ?_
   refine Za rfl rfl rfl rfl (Zc rfl rfl) ?_
   refine Zq (L2 := [_, _, _, _]) rfl rfl rfl rfl rfl rfl Try.call40 (rq_N br lb2 eb2 (by omega) (by omega)) [0] [] rfl rfl ?_
   rintro v post ⟨nc, lc0, ec0, hc0, rfl, rfl⟩
   show G _ _ _ [_, _, _, _, _] _
   obtain ⟨hnc, hlc0, hec0⟩ := rd_n (by omega) hc0
   refine Za rfl rfl rfl rfl (Zk rfl rfl) ?_
   refine Zg ?_
   refine Zh ?_
   refine Zh ?_
   refine Xq (.cells #[] 145 (0, 0)) ?_
   refine Zd (l := [0]) rfl ?_
   refine Za rfl rfl rfl rfl (Zk rfl rfl) ?_
   refine Zg ?_
   refine G_joinB (X := Ins Wt × List UInt8 × Nat) (fun xj => match xj with | ⟨swa, lc2, ec2⟩ => InsOk 2 cWt swa ∧ Rdg (encL encWt) (GL GWt) lb2 eb2 swa.l lc2 ec2) (fun xj => match xj with | ⟨swa, lc2, ec2⟩ => [(0, .pointer (some ⟨br, 0, none⟩)), (3, .pointer (some ⟨b3, 0, none⟩)), (4, .pointer (some ⟨b4, 0, none⟩))]) (fun xj => match xj with | ⟨swa, lc2, ec2⟩ => [(some br, .cells #[.string (bs lc2), .int .i64 ((ec2 : Nat) : Int)] 86 (0, 0)), (some b3, .cells ((cDst ({ x with hi := shi, le := sle, wa := swa } : Dst)).toArray) 38 (0, 0)), insK swa, (some b4, .cells (cDst zDst).toArray 38 (0, 0)), insK shi, insK sle]) ?restB6 (fun jnB6 => ?mainB6)
   case restB6 =>
    intro xj hjB
    obtain ⟨swa, lc2, ec2⟩ := xj
    dsimp only at hjB
    obtain ⟨hswa, rwa⟩ := hjB
    show G _ _ [(0, .pointer (some ⟨br, 0, none⟩)), (3, .pointer (some ⟨b3, 0, none⟩)), (4, .pointer (some ⟨b4, 0, none⟩))] [(some br, .cells #[.string (bs lc2), .int .i64 ((ec2 : Nat) : Int)] 86 (0, 0)), (some b3, .cells ((cDst ({ x with hi := shi, le := sle, wa := swa } : Dst)).toArray) 38 (0, 0)), insK swa, (some b4, .cells (cDst zDst).toArray 38 (0, 0)), insK shi, insK sle] _
    have hlc2 := rwa.len
    have hec2 := rwa.err
    refine Zh ?_
    refine Zd (l := [0, 1]) rfl ?_
    refine Za rfl rfl rfl rfl (V_loadW (s := 15) rfl rfl (Zf 1 rfl) Try.underlying38 rfl i_38 rfl (by rfl)) ?_
    refine Yj (l1 := [_, _, _]) (L' := [_, _, _, _, _, _]) rfl rfl rfl rfl (Yv (s := 15) rfl rfl rfl (Zf 3 rfl) (by rfl) i_38 rfl (by rfl) (by simp [Value.oneCell', cOp, cWk, cIv, cHr, cLt, cWt, cIt, cFl, cTn, cCl, cPo, cSt, cDt, cDs, Sl.v, zIns, insV, cDp, cDst])) rfl ?_
    refine Zg ?_
    refine Yy (post := [_, _, _, _]) Try.func43 rfl (Zy (RV_cell (s := 15) rfl (Zf 3 rfl) Try.underlying38 rfl i_38 rfl (by rfl)) Zp) [0, 3, 3, 1] rfl ?_
    dsimp only [packed]
    exact ⟨shi, sle, swa, la2, lb2, lc2, ea2, eb2, ec2, hshi, hsle, hswa, rhi, rle, rwa, rfl, rfl⟩
   case mainB6 =>
    refine Zs ?_
    refine Yi ?he24 [1, 1, 0, 1, 1, 0] ?hl24 (Xb (X := Nat × Sl × List Wt × List UInt8 × Nat) (fun x_ => match x_ with | ⟨i, uc, msc, lc1, ec1⟩ => i ≤ nc ∧ msc.length = i ∧ Own 2 uc (msc.flatMap cWt) msc.length ∧ RdgL encWt GWt nc lc0 ec0 i msc lc1 ec1) (fun x_ => match x_ with | ⟨i, uc, msc, lc1, ec1⟩ => nc - i) (fun x_ => match x_ with | ⟨i, uc, msc, lc1, ec1⟩ => [(0, .pointer (some ⟨br, 0, none⟩)), (3, .pointer (some ⟨b3, 0, none⟩)), (4, .pointer (some ⟨b4, 0, none⟩)), (5, .int .i64 (nc : Int)), (11, .int .i64 (i : Int))]) (fun x_ => match x_ with | ⟨i, uc, msc, lc1, ec1⟩ => [(some br, .cells #[.string (bs lc1), .int .i64 ((ec1 : Nat) : Int)] 86 (0, 0)), (some b3, .cells ((cDst ({ x with hi := shi, le := sle, wa := insOf uc 145 msc } : Dst)).toArray) 38 (0, 0)), (uc.ob, .cells uc.cs 145 uc.fz), (some b4, .cells (cDst zDst).toArray 38 (0, 0)), insK shi, insK sle]) ?round24 (0, slNil, [], lc0, ec0) ?h024)
    case he24 => exact (And.intro rfl (And.intro rfl (And.intro rfl (And.intro rfl (And.intro rfl trivial)))))
    case hl24 => exact ⟨_, rfl⟩
    case h024 => exact ⟨Nat.zero_le _, rfl, own_nil 2, .zero hec0⟩
    case round24 =>
     intro x_ hJ ihc
     try dsimp only at hJ ihc
     obtain ⟨i, uc, msc, lc1, ec1⟩ := x_
     try dsimp only at hJ ihc
     obtain ⟨hic, hmlc, huc, hxc⟩ := hJ
     show G _ _ [(0, .pointer (some ⟨br, 0, none⟩)), (3, .pointer (some ⟨b3, 0, none⟩)), (4, .pointer (some ⟨b4, 0, none⟩)), (5, .int .i64 (nc : Int)), (11, .int .i64 (i : Int))] [(some br, .cells #[.string (bs lc1), .int .i64 ((ec1 : Nat) : Int)] 86 (0, 0)), (some b3, .cells ((cDst ({ x with hi := shi, le := sle, wa := insOf uc 145 msc } : Dst)).toArray) 38 (0, 0)), (uc.ob, .cells uc.cs 145 uc.fz), (some b4, .cells (cDst zDst).toArray 38 (0, 0)), insK shi, insK sle] _
     have hlc1 := hxc.len
     have hec1 := hxc.err
     refine Zh ?_
     refine Zh ?_
     refine Zd (l := [0, 1, 2, 3, 4, 5, 6, 7, 8, 9]) rfl ?_
     refine Za rfl rfl rfl rfl (Zc rfl rfl) ?_
     refine Za rfl rfl rfl rfl (Zc rfl rfl) ?_
     refine Za rfl rfl rfl rfl (Xn rfl rfl rfl) ?_
     refine Za rfl rfl rfl rfl (Zc rfl rfl) ?_
     refine Xa 88 rfl (fun hc1 => ?_) (fun hc1 => ?_)
     ·
      refine Za rfl rfl rfl rfl (Zc rfl rfl) ?_
      refine Za rfl rfl rfl rfl (Ze rfl rfl) ?_
      refine Za rfl rfl rfl rfl (Zb (fo := 1) rfl Try.underlying86 rfl i_3 rfl rfl rfl) ?_
      refine Za rfl rfl rfl rfl (Zj rfl rfl (Zf 0 rfl) rfl Try.underlying3 rfl) ?_
      refine Za rfl rfl rfl rfl (V_eql rfl rfl rfl) ?_
      refine Za rfl rfl rfl rfl (Yz rfl rfl rfl) ?_
      refine Zg ?_
      refine Yk rfl (fun hc2 => ?_) (fun hc2 => ?_)
      ·
       refine Zu ?_
       refine Zh ?_
       refine Zs ?_
       refine Zh ?_
       refine Zd (l := [0, 1, 2, 3, 4]) rfl ?_
       refine Za rfl rfl rfl rfl (Zc rfl rfl) ?_
       refine Zq (L2 := [_, _, _, _, _]) rfl rfl rfl rfl rfl rfl Try.call41 (rq_T br lc1 ec1 (by omega) (by omega)) [0] [] rfl rfl ?_
       rintro v post ⟨a0, lt1, et1, rt1, rfl, rfl⟩
       show G _ _ _ [_, _, _, _, _, _] _
       have hlt1_ := rt1.len
       have het1_ := rt1.err
       refine Za rfl rfl rfl rfl (Xw (cs := [_, _]) rfl Try.underlying145 i_145 rfl p_145 rfl rfl rfl) ?_
       refine Yw rfl rfl rfl rfl (Ym rfl i_145 rfl) (fun b12 => ?_)
       refine Yj (l1 := []) (L' := [_, _, _, _, _, _, _]) rfl rfl rfl rfl (Yv (s := 2) rfl rfl rfl (Zf 0 rfl) (by rfl) i_145 rfl (by rfl) (by simp [Value.oneCell', cOp, cWk, cIv, cHr, cLt, cWt, cIt, cFl, cTn, cCl, cPo, cSt, cDt, cDs, Sl.v, zIns, insV, cDp, cDst])) rfl ?_
       refine Zg ?_
       refine Zh ?_
       refine Zd (l := [0, 1, 2, 3]) rfl ?_
       refine Za rfl rfl rfl rfl (Zc rfl rfl) ?_
       refine Zq (L2 := [_, _, _, _, _, _]) rfl rfl rfl rfl rfl rfl Try.call38 (rq_I br lt1 et1 (by omega) (by omega)) [1] [] rfl rfl ?_
       rintro v post ⟨a1, lt2, et2, rt2, rfl, rfl⟩
       show G _ _ _ [_, _, _, _, _, _, _] _
       have hlt2_ := rt2.len
       have het2_ := rt2.err
       refine Za rfl rfl rfl rfl (Zb (fo := 1) rfl Try.underlying145 rfl i_3 rfl rfl rfl) ?_
       refine Yj (l1 := [_]) (L' := [_, _, _, _, _, _, _]) rfl rfl rfl rfl (Zm rfl rfl rfl (Zf 1 rfl) (by first | exact of_decide_eq_true rfl | omega | (simp [cOp, cWk, cIv, cHr, cLt, cWt, cIt, cFl, cTn, cCl, cPo, cSt, cDt, cDs, Sl.v, zIns, insV, cDp, cDst]; done) | (simp [cOp, cWk, cIv, cHr, cLt, cWt, cIt, cFl, cTn, cCl, cPo, cSt, cDt, cDs, Sl.v, zIns, insV, cDp, cDst]; omega) | (simp [cOp, cWk, cIv, cHr, cLt, cWt, cIt, cFl, cTn, cCl, cPo, cSt, cDt, cDs, Sl.v, zIns, insV, cDp, cDst] at *; omega)) i_3 rfl rfl) rfl ?_
       refine Zg ?_
       show G _ _ _ [_, (some b12, .cells (cWt (⟨a0, (a1 : Nat)⟩ : Wt)).toArray 145 (0, 0)), _, _, _, _, _] _
       refine Zd (l := [0, 1, 2, 3, 4, 5, 6]) rfl ?_
       refine Za rfl rfl rfl rfl (Zb (fo := 14) rfl Try.underlying38 rfl i_30 rfl rfl rfl) ?_
       refine Za rfl rfl rfl rfl (Zj rfl rfl (Zf 2 rfl) rfl Try.underlying30 rfl) ?_
       refine Za rfl rfl rfl rfl (V_loadW (s := 2) rfl rfl (Zf 1 rfl) Try.underlying145 rfl i_145 rfl (by rfl)) ?_
       refine Yw rfl rfl rfl rfl (Zn (s := 2) (cs := [_, _]) rfl Try.underlying30 i_145 rfl rfl rfl rfl rfl rfl rfl rfl rfl) (fun b106 => ?_)
       refine G_append (l1 := [_, _, _, _]) (s := uc) (nn := msc.length) (m := 1) (news := (cWt (⟨a0, (a1 : Nat)⟩ : Wt))) (bt := 24) rfl rfl rfl rfl Try.underlying30 Try.underlying30 (by first | exact .inl rfl | exact .inr ⟨_, rfl⟩) i_145 rfl rfl rfl rfl rfl rfl huc rfl (Yg (Zf 0 rfl) rfl rfl (by simp [cWt, Value.oneCell'])) (by omega) (by omega) ?_
       intro u1 hu1 _
       show G _ _ _ [_, _, _, _, _, _, _, _] _
       refine Za rfl rfl rfl rfl (Zb (fo := 14) rfl Try.underlying38 rfl i_30 rfl rfl rfl) ?_
       refine Yj (l1 := [_, _, _]) (L' := [_, _, _, _, _, _, _, _]) rfl rfl rfl rfl (Zm rfl rfl rfl (Zf 3 rfl) (by first | exact of_decide_eq_true rfl | omega | (simp [cOp, cWk, cIv, cHr, cLt, cWt, cIt, cFl, cTn, cCl, cPo, cSt, cDt, cDs, Sl.v, zIns, insV, cDp, cDst]; done) | (simp [cOp, cWk, cIv, cHr, cLt, cWt, cIt, cFl, cTn, cCl, cPo, cSt, cDt, cDs, Sl.v, zIns, insV, cDp, cDst]; omega) | (simp [cOp, cWk, cIv, cHr, cLt, cWt, cIt, cFl, cTn, cCl, cPo, cSt, cDt, cDs, Sl.v, zIns, insV, cDp, cDst] at *; omega)) i_30 rfl rfl) rfl ?_
       rw [dst_set14 (T := 145) (ms := msc ++ [(⟨a0, (a1 : Nat)⟩ : Wt)]) (by simp)]
       refine Zg ?_
       refine Zv ?_
       refine Zd (l := [0, 1, 2]) rfl ?_
       refine Za rfl rfl rfl rfl (Zc rfl rfl) ?_
       refine Za rfl rfl rfl rfl ((Xe rfl rfl rfl).int (Zw (by omega))) ?_
       refine Za rfl rfl rfl rfl (Zk rfl rfl) ?_
       refine Zg ?_
       refine Yi ?_ [1, 2, 2, 2, 2, 2] ?_ (ihc (i + 1, u1, msc ++ [(⟨a0, (a1 : Nat)⟩ : Wt)], lt2, et2) ?_ ?_)
       · (refine (And.intro ?_ (And.intro ?_ (And.intro ?_ (And.intro ?_ (And.intro ?_ trivial))))) <;> first | rfl | exact Zl (by omega) | exact Zl (by simp))
       · exact ⟨_, rfl⟩
       · exact ⟨by omega, by simp [hmlc], by rw [List.flatMap_append, List.flatMap_singleton, List.length_append, List.length_singleton]; exact hu1, hxc.next (rdgWt (rdg_ts1 (by omega) rt1) (rdg_is1 (by omega) rt2)) (by omega)⟩
       · (first | omega | (dsimp only; omega))
      refine Yr rfl ?_
      refine Yi ?_ [0, 0, 0, 0, 0, 0] ?_ (jnB6 (insOf uc 145 msc, lc1, ec1) ?_)
      · (refine (And.intro ?_ (And.intro ?_ (And.intro ?_ trivial))) <;> first | rfl | exact Zl (by omega) | exact Zl (by simp))
      · exact ⟨_, rfl⟩
      · exact ⟨Yh huc (by omega), rdg_Le (by omega) hc0 hxc (by omega)⟩
     refine Yb rfl rfl rfl rfl ?_
     refine Yb rfl rfl rfl rfl ?_
     refine Yb rfl rfl rfl rfl ?_
     refine Yb rfl rfl rfl rfl ?_
     refine Yb rfl rfl rfl rfl ?_
     refine Za rfl rfl rfl rfl (Xg rfl rfl rfl) ?_
     refine Zg ?_
     refine Xu rfl ?_
     refine Yr rfl ?_
     refine Yi ?_ [0, 0, 0, 0, 0, 0] ?_ (jnB6 (insOf uc 145 msc, lc1, ec1) ?_)
     · (refine (And.intro ?_ (And.intro ?_ (And.intro ?_ trivial))) <;> first | rfl | exact Zl (by omega) | exact Zl (by simp))
     · exact ⟨_, rfl⟩
     · exact ⟨Yh huc (by omega), rdg_Le (by omega) hc0 hxc (by omega)⟩
  case mainB4 =>
   refine Zs ?_
   refine Yi ?he13 [1, 1, 0, 1, 0] ?hl13 (Xb (X := Nat × Sl × List Lt × List UInt8 × Nat) (fun x_ => match x_ with | ⟨i, ub, msb, lb1, eb1⟩ => i ≤ nb ∧ msb.length = i ∧ Own 6 ub (msb.flatMap cLt) msb.length ∧ RdgL encLt GLt nb lb0 eb0 i msb lb1 eb1) (fun x_ => match x_ with | ⟨i, ub, msb, lb1, eb1⟩ => nb - i) (fun x_ => match x_ with | ⟨i, ub, msb, lb1, eb1⟩ => [(0, .pointer (some ⟨br, 0, none⟩)), (3, .pointer (some ⟨b3, 0, none⟩)), (4, .pointer (some ⟨b4, 0, none⟩)), (5, .int .i64 (nb : Int)), (9, .int .i64 (i : Int))]) (fun x_ => match x_ with | ⟨i, ub, msb, lb1, eb1⟩ => [(some br, .cells #[.string (bs lb1), .int .i64 ((eb1 : Nat) : Int)] 86 (0, 0)), (some b3, .cells ((cDst ({ x with hi := shi, le := insOf ub 143 msb, wa := zIns Wt } : Dst)).toArray) 38 (0, 0)), (ub.ob, .cells ub.cs 143 ub.fz), (some b4, .cells (cDst zDst).toArray 38 (0, 0)), insK shi]) ?round13 (0, slNil, [], lb0, eb0) ?h013)
   case he13 => exact (And.intro rfl (And.intro rfl (And.intro rfl (And.intro rfl (And.intro rfl trivial)))))
   case hl13 => exact ⟨_, rfl⟩
   case h013 => exact ⟨Nat.zero_le _, rfl, own_nil 6, .zero heb0⟩
   case round13 =>
    intro x_ hJ ihb
    try dsimp only at hJ ihb
    obtain ⟨i, ub, msb, lb1, eb1⟩ := x_
    try dsimp only at hJ ihb
    obtain ⟨hib, hmlb, hub, hxb⟩ := hJ
    show G _ _ [(0, .pointer (some ⟨br, 0, none⟩)), (3, .pointer (some ⟨b3, 0, none⟩)), (4, .pointer (some ⟨b4, 0, none⟩)), (5, .int .i64 (nb : Int)), (9, .int .i64 (i : Int))] [(some br, .cells #[.string (bs lb1), .int .i64 ((eb1 : Nat) : Int)] 86 (0, 0)), (some b3, .cells ((cDst ({ x with hi := shi, le := insOf ub 143 msb, wa := zIns Wt } : Dst)).toArray) 38 (0, 0)), (ub.ob, .cells ub.cs 143 ub.fz), (some b4, .cells (cDst zDst).toArray 38 (0, 0)), insK shi] _
    have hlb1 := hxb.len
    have heb1 := hxb.err
    refine Zh ?_
    refine Zh ?_
    refine Zd (l := [0, 1, 2, 3, 4, 5, 6, 7, 8, 9]) rfl ?_
    refine Za rfl rfl rfl rfl (Zc rfl rfl) ?_
    refine Za rfl rfl rfl rfl (Zc rfl rfl) ?_
    refine Za rfl rfl rfl rfl (Xn rfl rfl rfl) ?_
    refine Za rfl rfl rfl rfl (Zc rfl rfl) ?_
    refine Xa 50 rfl (fun hc1 => ?_) (fun hc1 => ?_)
    ·
     refine Za rfl rfl rfl rfl (Zc rfl rfl) ?_
     refine Za rfl rfl rfl rfl (Ze rfl rfl) ?_
     refine Za rfl rfl rfl rfl (Zb (fo := 1) rfl Try.underlying86 rfl i_3 rfl rfl rfl) ?_
     refine Za rfl rfl rfl rfl (Zj rfl rfl (Zf 0 rfl) rfl Try.underlying3 rfl) ?_
     refine Za rfl rfl rfl rfl (V_eql rfl rfl rfl) ?_
     refine Za rfl rfl rfl rfl (Yz rfl rfl rfl) ?_
     refine Zg ?_
     refine Yk rfl (fun hc2 => ?_) (fun hc2 => ?_)
     ·
      refine Zu ?_
      refine Zh ?_
      refine Zs ?_
      refine Zh ?_
      refine Zd (l := [0, 1, 2, 3, 4]) rfl ?_
      refine Za rfl rfl rfl rfl (Zc rfl rfl) ?_
      refine Zq (L2 := [_, _, _, _]) rfl rfl rfl rfl rfl rfl Try.call38 (rq_I br lb1 eb1 (by omega) (by omega)) [0] [] rfl rfl ?_
      rintro v post ⟨a0, lq1, eq1, rq1, rfl, rfl⟩
      show G _ _ _ [_, _, _, _, _] _
      have hlq1_ := rq1.len
      have heq1_ := rq1.err
      refine Za rfl rfl rfl rfl (Xw (cs := [_, _, _, _, _, _]) rfl Try.underlying143 i_143 rfl p_143 rfl rfl rfl) ?_
      refine Yw rfl rfl rfl rfl (Ym rfl i_143 rfl) (fun b10 => ?_)
      refine Yj (l1 := []) (L' := [_, _, _, _, _, _]) rfl rfl rfl rfl (Yv (s := 6) rfl rfl rfl (Zf 0 rfl) (by rfl) i_143 rfl (by rfl) (by simp [Value.oneCell', cOp, cWk, cIv, cHr, cLt, cWt, cIt, cFl, cTn, cCl, cPo, cSt, cDt, cDs, Sl.v, zIns, insV, cDp, cDst])) rfl ?_
      refine Zg ?_
      refine Zh ?_
      refine Zd (l := [0, 1, 2, 3]) rfl ?_
      refine Za rfl rfl rfl rfl (Zc rfl rfl) ?_
      refine Zq (L2 := [_, _, _, _, _]) rfl rfl rfl rfl rfl rfl Try.call38 (rq_I br lq1 eq1 (by omega) (by omega)) [1] [] rfl rfl ?_
      rintro v post ⟨a1, lq2, eq2, rq2, rfl, rfl⟩
      show G _ _ _ [_, _, _, _, _, _] _
      have hlq2_ := rq2.len
      have heq2_ := rq2.err
      refine Za rfl rfl rfl rfl (Zb (fo := 1) rfl Try.underlying143 rfl i_3 rfl rfl rfl) ?_
      refine Yj (l1 := [_]) (L' := [_, _, _, _, _, _]) rfl rfl rfl rfl (Zm rfl rfl rfl (Zf 1 rfl) (by first | exact of_decide_eq_true rfl | omega | (simp [cOp, cWk, cIv, cHr, cLt, cWt, cIt, cFl, cTn, cCl, cPo, cSt, cDt, cDs, Sl.v, zIns, insV, cDp, cDst]; done) | (simp [cOp, cWk, cIv, cHr, cLt, cWt, cIt, cFl, cTn, cCl, cPo, cSt, cDt, cDs, Sl.v, zIns, insV, cDp, cDst]; omega) | (simp [cOp, cWk, cIv, cHr, cLt, cWt, cIt, cFl, cTn, cCl, cPo, cSt, cDt, cDs, Sl.v, zIns, insV, cDp, cDst] at *; omega)) i_3 rfl rfl) rfl ?_
      refine Zg ?_
      refine Zh ?_
      refine Zd (l := [0, 1, 2, 3]) rfl ?_
      refine Za rfl rfl rfl rfl (Zc rfl rfl) ?_
      refine Zq (L2 := [_, _, _, _, _]) rfl rfl rfl rfl rfl rfl Try.call38 (rq_I br lq2 eq2 (by omega) (by omega)) [0] [] rfl rfl ?_
      rintro v post ⟨a2, lq3, eq3, rq3, rfl, rfl⟩
      show G _ _ _ [_, _, _, _, _, _] _
      have hlq3_ := rq3.len
      have heq3_ := rq3.err
      refine Za rfl rfl rfl rfl (Zb (fo := 2) rfl Try.underlying143 rfl i_3 rfl rfl rfl) ?_
      refine Yj (l1 := [_]) (L' := [_, _, _, _, _, _]) rfl rfl rfl rfl (Zm rfl rfl rfl (Zf 1 rfl) (by first | exact of_decide_eq_true rfl | omega | (simp [cOp, cWk, cIv, cHr, cLt, cWt, cIt, cFl, cTn, cCl, cPo, cSt, cDt, cDs, Sl.v, zIns, insV, cDp, cDst]; done) | (simp [cOp, cWk, cIv, cHr, cLt, cWt, cIt, cFl, cTn, cCl, cPo, cSt, cDt, cDs, Sl.v, zIns, insV, cDp, cDst]; omega) | (simp [cOp, cWk, cIv, cHr, cLt, cWt, cIt, cFl, cTn, cCl, cPo, cSt, cDt, cDs, Sl.v, zIns, insV, cDp, cDst] at *; omega)) i_3 rfl rfl) rfl ?_
      refine Zg ?_
      refine Zh ?_
      refine Zd (l := [0, 1, 2, 3]) rfl ?_
      refine Za rfl rfl rfl rfl (Zc rfl rfl) ?_
      refine Zq (L2 := [_, _, _, _, _]) rfl rfl rfl rfl rfl rfl Try.call38 (rq_I br lq3 eq3 (by omega) (by omega)) [0] [] rfl rfl ?_
      rintro v post ⟨a3, lq4, eq4, rq4, rfl, rfl⟩
      show G _ _ _ [_, _, _, _, _, _] _
      have hlq4_ := rq4.len
      have heq4_ := rq4.err
      refine Za rfl rfl rfl rfl (Zb (fo := 3) rfl Try.underlying143 rfl i_3 rfl rfl rfl) ?_
      refine Yj (l1 := [_]) (L' := [_, _, _, _, _, _]) rfl rfl rfl rfl (Zm rfl rfl rfl (Zf 1 rfl) (by first | exact of_decide_eq_true rfl | omega | (simp [cOp, cWk, cIv, cHr, cLt, cWt, cIt, cFl, cTn, cCl, cPo, cSt, cDt, cDs, Sl.v, zIns, insV, cDp, cDst]; done) | (simp [cOp, cWk, cIv, cHr, cLt, cWt, cIt, cFl, cTn, cCl, cPo, cSt, cDt, cDs, Sl.v, zIns, insV, cDp, cDst]; omega) | (simp [cOp, cWk, cIv, cHr, cLt, cWt, cIt, cFl, cTn, cCl, cPo, cSt, cDt, cDs, Sl.v, zIns, insV, cDp, cDst] at *; omega)) i_3 rfl rfl) rfl ?_
      refine Zg ?_
      refine Zh ?_
      refine Zd (l := [0, 1, 2, 3]) rfl ?_
      refine Za rfl rfl rfl rfl (Zc rfl rfl) ?_
      refine Zq (L2 := [_, _, _, _, _]) rfl rfl rfl rfl rfl rfl Try.call41 (rq_T br lq4 eq4 (by omega) (by omega)) [0] [] rfl rfl ?_
      rintro v post ⟨a4, lq5, eq5, rq5, rfl, rfl⟩
      show G _ _ _ [_, _, _, _, _, _] _
      have hlq5_ := rq5.len
      have heq5_ := rq5.err
      refine Za rfl rfl rfl rfl (Zb (fo := 4) rfl Try.underlying143 rfl i_9 rfl rfl rfl) ?_
      refine Yj (l1 := [_]) (L' := [_, _, _, _, _, _]) rfl rfl rfl rfl (Zm rfl rfl rfl (Zf 1 rfl) (by first | exact of_decide_eq_true rfl | omega | (simp [cOp, cWk, cIv, cHr, cLt, cWt, cIt, cFl, cTn, cCl, cPo, cSt, cDt, cDs, Sl.v, zIns, insV, cDp, cDst]; done) | (simp [cOp, cWk, cIv, cHr, cLt, cWt, cIt, cFl, cTn, cCl, cPo, cSt, cDt, cDs, Sl.v, zIns, insV, cDp, cDst]; omega) | (simp [cOp, cWk, cIv, cHr, cLt, cWt, cIt, cFl, cTn, cCl, cPo, cSt, cDt, cDs, Sl.v, zIns, insV, cDp, cDst] at *; omega)) i_9 rfl rfl) rfl ?_
      refine Zg ?_
      refine Zh ?_
      refine Zd (l := [0, 1, 2, 3]) rfl ?_
      refine Za rfl rfl rfl rfl (Zc rfl rfl) ?_
      refine Zq (L2 := [_, _, _, _, _]) rfl rfl rfl rfl rfl rfl Try.call36 (rq_U br lq5 eq5 (by omega) (by omega)) [0] [] rfl rfl ?_
      rintro v post ⟨a5, lq6, eq6, rq6, rfl, rfl⟩
      show G _ _ _ [_, _, _, _, _, _] _
      have hlq6_ := rq6.len
      have heq6_ := rq6.err
      refine Za rfl rfl rfl rfl (Zb (fo := 5) rfl Try.underlying143 rfl i_23 rfl rfl rfl) ?_
      refine Yj (l1 := [_]) (L' := [_, _, _, _, _, _]) rfl rfl rfl rfl (Zm rfl rfl rfl (Zf 1 rfl) (by first | exact of_decide_eq_true rfl | omega | (simp [cOp, cWk, cIv, cHr, cLt, cWt, cIt, cFl, cTn, cCl, cPo, cSt, cDt, cDs, Sl.v, zIns, insV, cDp, cDst]; done) | (simp [cOp, cWk, cIv, cHr, cLt, cWt, cIt, cFl, cTn, cCl, cPo, cSt, cDt, cDs, Sl.v, zIns, insV, cDp, cDst]; omega) | (simp [cOp, cWk, cIv, cHr, cLt, cWt, cIt, cFl, cTn, cCl, cPo, cSt, cDt, cDs, Sl.v, zIns, insV, cDp, cDst] at *; omega)) i_23 rfl rfl) rfl ?_
      refine Zg ?_
      show G _ _ _ [_, (some b10, .cells (cLt (⟨(a0 : Nat), (a1 : Nat), (a2 : Nat), (a3 : Nat), a4, a5⟩ : Lt)).toArray 143 (0, 0)), _, _, _, _] _
      refine Zd (l := [0, 1, 2, 3, 4, 5, 6]) rfl ?_
      refine Za rfl rfl rfl rfl (Zb (fo := 13) rfl Try.underlying38 rfl i_29 rfl rfl rfl) ?_
      refine Za rfl rfl rfl rfl (Zj rfl rfl (Zf 2 rfl) rfl Try.underlying29 rfl) ?_
      refine Za rfl rfl rfl rfl (V_loadW (s := 6) rfl rfl (Zf 1 rfl) Try.underlying143 rfl i_143 rfl (by rfl)) ?_
      refine Yw rfl rfl rfl rfl (Zn (s := 6) (cs := [_, _, _, _, _, _]) rfl Try.underlying29 i_143 rfl rfl rfl rfl rfl rfl rfl rfl rfl) (fun b80 => ?_)
      refine G_append (l1 := [_, _, _, _]) (s := ub) (nn := msb.length) (m := 1) (news := (cLt (⟨(a0 : Nat), (a1 : Nat), (a2 : Nat), (a3 : Nat), a4, a5⟩ : Lt))) (bt := 56) rfl rfl rfl rfl Try.underlying29 Try.underlying29 (by first | exact .inl rfl | exact .inr ⟨_, rfl⟩) i_143 rfl rfl rfl rfl rfl rfl hub rfl (Yg (Zf 0 rfl) rfl rfl (by simp [cLt, Value.oneCell'])) (by omega) (by omega) ?_
      intro u1 hu1 _
      show G _ _ _ [_, _, _, _, _, _, _] _
      refine Za rfl rfl rfl rfl (Zb (fo := 13) rfl Try.underlying38 rfl i_29 rfl rfl rfl) ?_
      refine Yj (l1 := [_, _, _]) (L' := [_, _, _, _, _, _, _]) rfl rfl rfl rfl (Zm rfl rfl rfl (Zf 3 rfl) (by first | exact of_decide_eq_true rfl | omega | (simp [cOp, cWk, cIv, cHr, cLt, cWt, cIt, cFl, cTn, cCl, cPo, cSt, cDt, cDs, Sl.v, zIns, insV, cDp, cDst]; done) | (simp [cOp, cWk, cIv, cHr, cLt, cWt, cIt, cFl, cTn, cCl, cPo, cSt, cDt, cDs, Sl.v, zIns, insV, cDp, cDst]; omega) | (simp [cOp, cWk, cIv, cHr, cLt, cWt, cIt, cFl, cTn, cCl, cPo, cSt, cDt, cDs, Sl.v, zIns, insV, cDp, cDst] at *; omega)) i_29 rfl rfl) rfl ?_
      rw [dst_set13 (T := 143) (ms := msb ++ [(⟨(a0 : Nat), (a1 : Nat), (a2 : Nat), (a3 : Nat), a4, a5⟩ : Lt)]) (by simp)]
      refine Zg ?_
      refine Zv ?_
      refine Zd (l := [0, 1, 2]) rfl ?_
      refine Za rfl rfl rfl rfl (Zc rfl rfl) ?_
      refine Za rfl rfl rfl rfl ((Xe rfl rfl rfl).int (Zw (by omega))) ?_
      refine Za rfl rfl rfl rfl (Zk rfl rfl) ?_
      refine Zg ?_
      refine Yi ?_ [1, 2, 2, 2, 2] ?_ (ihb (i + 1, u1, msb ++ [(⟨(a0 : Nat), (a1 : Nat), (a2 : Nat), (a3 : Nat), a4, a5⟩ : Lt)], lq6, eq6) ?_ ?_)
      · (refine (And.intro ?_ (And.intro ?_ (And.intro ?_ (And.intro ?_ (And.intro ?_ trivial))))) <;> first | rfl | exact Zl (by omega) | exact Zl (by simp))
      · exact ⟨_, rfl⟩
      · exact ⟨by omega, by simp [hmlb], by rw [List.flatMap_append, List.flatMap_singleton, List.length_append, List.length_singleton]; exact hu1, hxb.next (rdgLt (rdg_is4 (by omega) rq1 rq2 rq3 rq4) (rdg_ts1 (by omega) rq5) rq6) (by omega)⟩
      · (first | omega | (dsimp only; omega))
     refine Yr rfl ?_
     refine Yi ?_ [0, 0, 0, 0, 0] ?_ (jnB4 (insOf ub 143 msb, lb1, eb1) ?_)
     · (refine (And.intro ?_ (And.intro ?_ (And.intro ?_ trivial))) <;> first | rfl | exact Zl (by omega) | exact Zl (by simp))
     · exact ⟨_, rfl⟩
     · exact ⟨Yh hub (by omega), rdg_Le (by omega) hb0 hxb (by omega)⟩
    refine Yb rfl rfl rfl rfl ?_
    refine Yb rfl rfl rfl rfl ?_
    refine Yb rfl rfl rfl rfl ?_
    refine Yb rfl rfl rfl rfl ?_
    refine Yb rfl rfl rfl rfl ?_
    refine Za rfl rfl rfl rfl (Xg rfl rfl rfl) ?_
    refine Zg ?_
    refine Xu rfl ?_
    refine Yr rfl ?_
    refine Yi ?_ [0, 0, 0, 0, 0] ?_ (jnB4 (insOf ub 143 msb, lb1, eb1) ?_)
    · (refine (And.intro ?_ (And.intro ?_ (And.intro ?_ trivial))) <;> first | rfl | exact Zl (by omega) | exact Zl (by simp))
    · exact ⟨_, rfl⟩
    · exact ⟨Yh hub (by omega), rdg_Le (by omega) hb0 hxb (by omega)⟩
 case mainB0 =>
  refine Zs ?_
  refine Yi ?he3 [1, 2, 0, 0] ?hl3 (Xb (X := Nat × Sl × List Hr × List UInt8 × Nat) (fun x_ => match x_ with | ⟨i, ua, msa, la1, ea1⟩ => i ≤ na ∧ msa.length = i ∧ Own 17 ua (msa.flatMap cHr) msa.length ∧ RdgL encHr GHr na la0 ea0 i msa la1 ea1) (fun x_ => match x_ with | ⟨i, ua, msa, la1, ea1⟩ => na - i) (fun x_ => match x_ with | ⟨i, ua, msa, la1, ea1⟩ => [(0, .pointer (some ⟨br, 0, none⟩)), (3, .pointer (some ⟨b3, 0, none⟩)), (4, .pointer (some ⟨b4, 0, none⟩)), (5, .int .i64 (na : Int)), (6, .int .i64 (i : Int))]) (fun x_ => match x_ with | ⟨i, ua, msa, la1, ea1⟩ => [(some br, .cells #[.string (bs la1), .int .i64 ((ea1 : Nat) : Int)] 86 (0, 0)), (some b3, .cells ((cDst ({ x with hi := insOf ua 141 msa, le := zIns Lt, wa := zIns Wt } : Dst)).toArray) 38 (0, 0)), (ua.ob, .cells ua.cs 141 ua.fz), (some b4, .cells (cDst zDst).toArray 38 (0, 0))]) ?round3 (0, slNil, [], la0, ea0) ?h03)
  case he3 => exact (And.intro rfl (And.intro rfl (And.intro rfl (And.intro rfl (And.intro rfl trivial)))))
  case hl3 => exact ⟨_, rfl⟩
  case h03 => exact ⟨Nat.zero_le _, rfl, own_nil 17, .zero hea0⟩
  case round3 =>
   intro x_ hJ iha
   try dsimp only at hJ iha
   obtain ⟨i, ua, msa, la1, ea1⟩ := x_
   try dsimp only at hJ iha
   obtain ⟨hia, hmla, hua, hxa⟩ := hJ
   show G _ _ [(0, .pointer (some ⟨br, 0, none⟩)), (3, .pointer (some ⟨b3, 0, none⟩)), (4, .pointer (some ⟨b4, 0, none⟩)), (5, .int .i64 (na : Int)), (6, .int .i64 (i : Int))] [(some br, .cells #[.string (bs la1), .int .i64 ((ea1 : Nat) : Int)] 86 (0, 0)), (some b3, .cells ((cDst ({ x with hi := insOf ua 141 msa, le := zIns Lt, wa := zIns Wt } : Dst)).toArray) 38 (0, 0)), (ua.ob, .cells ua.cs 141 ua.fz), (some b4, .cells (cDst zDst).toArray 38 (0, 0))] _
   have hla1 := hxa.len
   have hea1 := hxa.err
   refine Zh ?_
   refine Zh ?_
   refine Zd (l := [0, 1, 2, 3, 4, 5, 6, 7, 8, 9]) rfl ?_
   refine Za rfl rfl rfl rfl (Zc rfl rfl) ?_
   refine Za rfl rfl rfl rfl (Zc rfl rfl) ?_
   refine Za rfl rfl rfl rfl (Xn rfl rfl rfl) ?_
   refine Za rfl rfl rfl rfl (Zc rfl rfl) ?_
   refine Xa 18 rfl (fun hc1 => ?_) (fun hc1 => ?_)
   ·
    refine Za rfl rfl rfl rfl (Zc rfl rfl) ?_
    refine Za rfl rfl rfl rfl (Ze rfl rfl) ?_
    refine Za rfl rfl rfl rfl (Zb (fo := 1) rfl Try.underlying86 rfl i_3 rfl rfl rfl) ?_
    refine Za rfl rfl rfl rfl (Zj rfl rfl (Zf 0 rfl) rfl Try.underlying3 rfl) ?_
    refine Za rfl rfl rfl rfl (V_eql rfl rfl rfl) ?_
    refine Za rfl rfl rfl rfl (Yz rfl rfl rfl) ?_
    refine Zg ?_
    refine Yk rfl (fun hc2 => ?_) (fun hc2 => ?_)
    ·
     refine Zu ?_
     refine Zh ?_
     refine Zs ?_
     refine Zh ?_
     refine Zd (l := [0, 1, 2, 3, 4]) rfl ?_
     refine Za rfl rfl rfl rfl (Zc rfl rfl) ?_
     refine Zq (L2 := [_, _, _]) rfl rfl rfl rfl rfl rfl Try.call41 (rq_T br la1 ea1 (by omega) (by omega)) [0] [] rfl rfl ?_
     rintro v post ⟨a0, lp1, ep1, rp1, rfl, rfl⟩
     show G _ _ _ [_, _, _, _] _
     have hlp1_ := rp1.len
     have hep1_ := rp1.err
     refine Za rfl rfl rfl rfl (Xw (cs := [_, _, _, _, _, _, _, _, _, _, _, _, _, _, _, _, _]) rfl Try.underlying141 i_141 rfl p_141 rfl rfl rfl) ?_
     refine Yw rfl rfl rfl rfl (Ym rfl i_141 rfl) (fun b7 => ?_)
     refine Yj (l1 := []) (L' := [_, _, _, _, _]) rfl rfl rfl rfl (Yv (s := 17) rfl rfl rfl (Zf 0 rfl) (by rfl) i_141 rfl (by rfl) (by simp [Value.oneCell', cOp, cWk, cIv, cHr, cLt, cWt, cIt, cFl, cTn, cCl, cPo, cSt, cDt, cDs, Sl.v, zIns, insV, cDp, cDst])) rfl ?_
     refine Zg ?_
     refine Zh ?_
     refine Zh ?_
     refine Zd (l := [0]) rfl ?_
     refine Za rfl rfl rfl rfl (Zk rfl rfl) ?_
     refine Zg ?_
     refine Zs ?_
     refine Yi ?he7 [1, 1, 1, 1, 0] ?hl7 (Xb (X := Nat × List Int × List UInt8 × Nat) (fun y_ => match y_ with | ⟨k, xs, lp2, ep2⟩ => k ≤ 16 ∧ xs.length = k ∧ RdgL encI GI 16 lp1 ep1 k xs lp2 ep2) (fun y_ => match y_ with | ⟨k, xs, lp2, ep2⟩ => 16 - k) (fun y_ => match y_ with | ⟨k, xs, lp2, ep2⟩ => [(0, .pointer (some ⟨br, 0, none⟩)), (3, .pointer (some ⟨b3, 0, none⟩)), (4, .pointer (some ⟨b4, 0, none⟩)), (5, .int .i64 (na : Int)), (6, .int .i64 (i : Int)), (7, .pointer (some ⟨b7, 0, none⟩)), (8, .int .i64 (k : Int))]) (fun y_ => match y_ with | ⟨k, xs, lp2, ep2⟩ => [(some br, .cells #[.string (bs lp2), .int .i64 ((ep2 : Nat) : Int)] 86 (0, 0)), (some b3, .cells ((cDst ({ x with hi := insOf ua 141 msa, le := zIns Lt, wa := zIns Wt } : Dst)).toArray) 38 (0, 0)), (ua.ob, .cells ua.cs 141 ua.fz), (some b4, .cells (cDst zDst).toArray 38 (0, 0)), (some b7, .cells (hrC a0 (xs ++ (List.replicate 16 0).drop k)) 141 (0, 0))]) ?round7 (0, [], lp1, ep1) ?h07)
     case he7 => exact (And.intro rfl (And.intro rfl (And.intro rfl (And.intro rfl (And.intro rfl (And.intro rfl (And.intro rfl trivial)))))))
     case hl7 => exact ⟨_, rfl⟩
     case h07 => exact ⟨Nat.zero_le _, rfl, .zero hep1_⟩
     case round7 =>
      intro y_ hJ ih2
      try dsimp only at hJ ih2
      obtain ⟨k, xs, lp2, ep2⟩ := y_
      try dsimp only at hJ ih2
      obtain ⟨hk, hxl, hy⟩ := hJ
      show G _ _ [(0, .pointer (some ⟨br, 0, none⟩)), (3, .pointer (some ⟨b3, 0, none⟩)), (4, .pointer (some ⟨b4, 0, none⟩)), (5, .int .i64 (na : Int)), (6, .int .i64 (i : Int)), (7, .pointer (some ⟨b7, 0, none⟩)), (8, .int .i64 (k : Int))] [(some br, .cells #[.string (bs lp2), .int .i64 ((ep2 : Nat) : Int)] 86 (0, 0)), (some b3, .cells ((cDst ({ x with hi := insOf ua 141 msa, le := zIns Lt, wa := zIns Wt } : Dst)).toArray) 38 (0, 0)), (ua.ob, .cells ua.cs 141 ua.fz), (some b4, .cells (cDst zDst).toArray 38 (0, 0)), (some b7, .cells (hrC a0 (xs ++ (List.replicate 16 0).drop k)) 141 (0, 0))] _
      have hlp2 := hy.len
      have hep2 := hy.err
      have hsz := hrC_size a0 (xs ++ (List.replicate 16 0).drop k)
      rw [List.length_append, List.length_drop, List.length_replicate] at hsz
      refine Zh ?_
      refine Zh ?_
      refine Zd (l := [0, 1]) rfl ?_
      refine Za rfl rfl rfl rfl (Zc rfl rfl) ?_
      refine Za rfl rfl rfl rfl (Xn rfl rfl rfl) ?_
      refine Zg ?_
      refine Yk rfl (fun hc3 => ?_) (fun hc3 => ?_)
      ·
       refine Zu ?_
       refine Zh ?_
       refine Zs ?_
       refine Zd (l := [0, 1, 2, 3, 4, 5]) rfl ?_
       refine Za rfl rfl rfl rfl (Zc rfl rfl) ?_
       refine Za rfl rfl rfl rfl (Zc rfl rfl) ?_
       refine Zq (L2 := [_, _, _, _]) rfl rfl rfl rfl rfl rfl Try.call38 (rq_I br lp2 ep2 (by omega) (by omega)) [0] [] rfl rfl ?_
       rintro v post ⟨y, lp3, ep3, rp3, rfl, rfl⟩
       show G _ _ _ [_, _, _, _, _] _
       refine Za rfl rfl rfl rfl (Zb (fo := 1) rfl Try.underlying141 rfl i_139 rfl rfl rfl) ?_
       refine Za rfl rfl rfl rfl (V_aindexAddr rfl Try.underlying139 i_3 rfl rfl rfl (by omega) (by omega)) ?_
       rw [show 1 + ((k : Nat) : Int).toNat * Try.t3.size = 1 + k * 1 from rfl]
       refine Yj (l1 := [_, _, _, _]) (L' := [_, _, _, _, _]) rfl rfl rfl rfl (Zm rfl rfl rfl (Zf 4 rfl) (by first | exact of_decide_eq_true rfl | omega | (simp [cOp, cWk, cIv, cHr, cLt, cWt, cIt, cFl, cTn, cCl, cPo, cSt, cDt, cDs, Sl.v, zIns, insV, cDp, cDst]; done) | (simp [cOp, cWk, cIv, cHr, cLt, cWt, cIt, cFl, cTn, cCl, cPo, cSt, cDt, cDs, Sl.v, zIns, insV, cDp, cDst]; omega) | (simp [cOp, cWk, cIv, cHr, cLt, cWt, cIt, cFl, cTn, cCl, cPo, cSt, cDt, cDs, Sl.v, zIns, insV, cDp, cDst] at *; omega)) i_3 rfl rfl) rfl ?_
       rw [hrC_set, set_next hxl (by simp; omega)]
       refine Zg ?_
       refine Zv ?_
       refine Zd (l := [0, 1, 2]) rfl ?_
       refine Za rfl rfl rfl rfl (Zc rfl rfl) ?_
       refine Za rfl rfl rfl rfl ((Xe rfl rfl rfl).int (Zw (by omega))) ?_
       refine Za rfl rfl rfl rfl (Zk rfl rfl) ?_
       refine Zg ?_
       refine Yi ?_ [0, 0, 0, 0, 0] ?_ (ih2 (k + 1, xs ++ [(y : Int)], lp3, ep3) ?_ ?_)
       · (refine (And.intro ?_ (And.intro ?_ (And.intro ?_ (And.intro ?_ (And.intro ?_ (And.intro ?_ (And.intro ?_ trivial))))))) <;> first | rfl | exact Zl (by omega) | exact Zl (by simp))
       · exact ⟨_, rfl⟩
       · exact ⟨by omega, by simp [hxl], hy.next rp3 (by omega)⟩
       · (first | omega | (dsimp only; omega))
      refine Yr rfl ?_
      obtain rfl : k = 16 := by omega
      obtain ⟨m, hm, hr⟩ := rdgHr2 hxl (rdg_ts1 (by omega) rp1) (rdg_Is hy)
      rw [List.drop_eq_nil_of_le (by simp), List.append_nil, hm]
      refine Zd (l := [0, 1, 2, 3, 4, 5, 6]) rfl ?_
      refine Za rfl rfl rfl rfl (Zb (fo := 12) rfl Try.underlying38 rfl i_28 rfl rfl rfl) ?_
      refine Za rfl rfl rfl rfl (Zj rfl rfl (Zf 1 rfl) rfl Try.underlying28 rfl) ?_
      refine Za rfl rfl rfl rfl (V_loadW (s := 17) rfl rfl (Zf 4 rfl) Try.underlying141 rfl i_141 rfl (by rfl)) ?_
      refine Yw rfl rfl rfl rfl (Zn (s := 17) (cs := [_, _, _, _, _, _, _, _, _, _, _, _, _, _, _, _, _]) rfl Try.underlying28 i_141 rfl rfl rfl rfl rfl rfl rfl rfl rfl) (fun b42 => ?_)
      refine G_append (l1 := [_, _, _]) (s := ua) (nn := msa.length) (m := 1) (news := (cHr m)) (bt := 144) rfl rfl rfl rfl Try.underlying28 Try.underlying28 (by first | exact .inl rfl | exact .inr ⟨_, rfl⟩) i_141 rfl rfl rfl rfl rfl rfl hua rfl (Yg (Zf 0 rfl) rfl rfl (by simp [cHr, Value.oneCell'])) (by omega) (by omega) ?_
      intro u1 hu1 _
      show G _ _ _ [_, _, _, _, _, _] _
      refine Za rfl rfl rfl rfl (Zb (fo := 12) rfl Try.underlying38 rfl i_28 rfl rfl rfl) ?_
      refine Yj (l1 := [_, _]) (L' := [_, _, _, _, _, _]) rfl rfl rfl rfl (Zm rfl rfl rfl (Zf 2 rfl) (by first | exact of_decide_eq_true rfl | omega | (simp [cOp, cWk, cIv, cHr, cLt, cWt, cIt, cFl, cTn, cCl, cPo, cSt, cDt, cDs, Sl.v, zIns, insV, cDp, cDst]; done) | (simp [cOp, cWk, cIv, cHr, cLt, cWt, cIt, cFl, cTn, cCl, cPo, cSt, cDt, cDs, Sl.v, zIns, insV, cDp, cDst]; omega) | (simp [cOp, cWk, cIv, cHr, cLt, cWt, cIt, cFl, cTn, cCl, cPo, cSt, cDt, cDs, Sl.v, zIns, insV, cDp, cDst] at *; omega)) i_28 rfl rfl) rfl ?_
      rw [dst_set12 (T := 141) (ms := msa ++ [m]) (by simp)]
      refine Zg ?_
      refine Zv ?_
      refine Zd (l := [0, 1, 2]) rfl ?_
      refine Za rfl rfl rfl rfl (Zc rfl rfl) ?_
      refine Za rfl rfl rfl rfl ((Xe rfl rfl rfl).int (Zw (by omega))) ?_
      refine Za rfl rfl rfl rfl (Zk rfl rfl) ?_
      refine Zg ?_
      refine Yi ?_ [1, 1, 1, 1] ?_ (iha (i + 1, u1, msa ++ [m], lp2, ep2) ?_ ?_)
      · (refine (And.intro ?_ (And.intro ?_ (And.intro ?_ (And.intro ?_ (And.intro ?_ trivial))))) <;> first | rfl | exact Zl (by omega) | exact Zl (by simp))
      · exact ⟨_, rfl⟩
      · exact ⟨by omega, by simp [hmla], by rw [List.flatMap_append, List.flatMap_singleton, List.length_append, List.length_singleton]; exact hu1, hxa.next hr (by omega)⟩
      · (first | omega | (dsimp only; omega))
    refine Yr rfl ?_
    refine Yi ?_ [0, 0, 0, 0] ?_ (jnB0 (insOf ua 141 msa, la1, ea1) ?_)
    · (refine (And.intro ?_ (And.intro ?_ (And.intro ?_ trivial))) <;> first | rfl | exact Zl (by omega) | exact Zl (by simp))
    · exact ⟨_, rfl⟩
    · exact ⟨Yh hua (by omega), rdg_Le (by omega) ha0 hxa (by omega)⟩
   refine Yb rfl rfl rfl rfl ?_
   refine Yb rfl rfl rfl rfl ?_
   refine Yb rfl rfl rfl rfl ?_
   refine Yb rfl rfl rfl rfl ?_
   refine Yb rfl rfl rfl rfl ?_
   refine Za rfl rfl rfl rfl (Xg rfl rfl rfl) ?_
   refine Zg ?_
   refine Xu rfl ?_
   refine Yr rfl ?_
   refine Yi ?_ [0, 0, 0, 0] ?_ (jnB0 (insOf ua 141 msa, la1, ea1) ?_)
   · (refine (And.intro ?_ (And.intro ?_ (And.intro ?_ trivial))) <;> first | rfl | exact Zl (by omega) | exact Zl (by simp))
   · exact ⟨_, rfl⟩
   · exact ⟨Yh hua (by omega), rdg_Le (by omega) ha0 hxa (by omega)⟩

end
end Go.Proofs.Ytjnaeoelnmhjfaa

set_option linter.unusedSimpArgs false
set_option linter.unusedVariables false
namespace Go.Proofs.Ytjnaeoelnmhjfaa
open Go Go.RowKit

section
theorem i_36 : Try.prog.info? 36 = some Try.t36 := by kernel_rfl
theorem p_38 : placesOf Try.prog (Try.prog.fieldsOf 38) = some [(0, 1), (1, 1), (2, 1), (3, 1), (4, 1), (5, 1), (6, 1), (7, 1), (8, 1), (9, 1), (10, 1), (11, 1), (12, 1), (13, 1), (14, 1)] := by kernel_rfl
theorem p_210 : placesOf Try.prog (Try.prog.fieldsOf 210) = some [(0, 1), (1, 1), (2, 1)] := by kernel_rfl
theorem map_next {α β γ : Type} {f : α → γ} {g : β → γ} {l : List β} {ms : List α} {i : Nat} {y : β} {m : α} (h : ms.map f = (l.take i).map g) (hy : l[i]? = some y) (hm : f m = g y) : (ms ++ [m]).map f = (l.take (i + 1)).map g := by
  obtain ⟨hi, rfl⟩ := List.getElem?_eq_some_iff.1 hy
  rw [List.take_succ_eq_append_getElem hi, List.map_append, List.map_append, h, List.map_singleton, List.map_singleton, hm]
theorem len_of_map {α β γ : Type} {f : α → γ} {g : β → γ} {l : List β} {ms : List α} (h : ms.map f = l.map g) : ms.length = l.length := by simpa using congrArg List.length h
/-- What is made, or was there. -/
theorem sub_or {α : Type} {K : α → List HBk} {ms : List α} {m : α} {M M1 B : List HBk} (hM : ∀ z ∈ ms.flatMap K, z ∈ M ∨ z ∈ B) (h1 : ∀ z ∈ M, z ∈ M1) (h2 : ∀ z ∈ K m, z ∈ M1 ∨ z ∈ B) : ∀ z ∈ (ms ++ [m]).flatMap K, z ∈ M1 ∨ z ∈ B := by
  intro z hz
  rw [List.flatMap_append, List.flatMap_singleton] at hz
  rcases List.mem_append.1 hz with hz | hz
  · exact (hM z hz).imp (h1 z) id
  · exact h2 z hz
theorem sub_or_hd {l M B : List HBk} {a : HBk} (h : ∀ z ∈ l, z ∈ M ∨ z ∈ B) : ∀ z ∈ a :: l, z ∈ a :: M ∨ z ∈ B := by
  intro z hz
  rcases List.mem_cons.1 hz with rfl | hz
  · exact .inl List.mem_cons_self
  · exact (h z hz).imp (List.mem_cons_of_mem _) id

set_option maxRecDepth 100000 in
set_option maxHeartbeats 1000000 in
theorem bk_flows (s : Ins Fl) (hs : InsOk 4 cFl s) :
    Ct Try.prog 115 [.slice s.p s.l.length s.cap] [insK s] [] fun v post => ∃ s2 : Ins Fl, InsOk 4 cFl s2 ∧ s2.l = s.l ∧ v = insV s2 ∧ post = [insK s2] := by
 have hl1 := hs.le
 have hl2 := hs.max
 have hln := hs.n
 refine Yu Try.func115 rfl rfl (fun w0 => ?_)
 show G _ _ [(0, _)] _ _
 refine Zh ?_
 refine Zd (l := [0]) rfl ?_
 refine Za rfl rfl rfl rfl (Zk rfl rfl) ?_
 refine Zg ?_
 refine Zh ?_
 refine Zd (l := [0, 1]) rfl ?_
 refine Yw rfl rfl rfl rfl (N_build0 rfl Try.underlying207 i_217) (fun b5 => ?_)
 refine Za rfl rfl rfl rfl (Zk rfl rfl) ?_
 refine Zg ?_
 refine Zh ?_
 refine Zh ?_
 refine Zd (l := [0]) rfl ?_
 refine Za rfl rfl rfl rfl (Zk rfl rfl) ?_
 refine Zg ?_
 refine Zs ?_
 refine Yi ?he3 [0] ?hl3 (Xb (X := Nat × Sl) (fun x_ => match x_ with | ⟨i, u⟩ => i ≤ s.l.length ∧ Own 4 u ((s.l.take i).flatMap cFl) i) (fun x_ => match x_ with | ⟨i, u⟩ => s.l.length - i) (fun x_ => match x_ with | ⟨i, u⟩ => [(0, .slice s.p s.l.length s.cap), (3, u.v i), (4, .int .i64 (i : Int))]) (fun x_ => match x_ with | ⟨i, u⟩ => [(u.ob, .cells u.cs 217 u.fz)]) ?round3 (0, ⟨some b5, #[], (0, 0), 0⟩) ?h03)
 case he3 => exact (And.intro rfl (And.intro rfl (And.intro rfl trivial)))
 case hl3 => exact ⟨_, rfl⟩
 case h03 => exact ⟨Nat.zero_le _, own_empty 4 b5⟩
 case round3 =>
  intro x_ hJ ih
  try dsimp only at hJ ih
  obtain ⟨i, u⟩ := x_
  try dsimp only at hJ ih
  obtain ⟨hi, hu⟩ := hJ
  show G _ _ [(0, .slice s.p s.l.length s.cap), (3, u.v i), (4, .int .i64 (i : Int))] [(u.ob, .cells u.cs 217 u.fz)] _
  refine Zh ?_
  refine Zh ?_
  refine Zd (l := [0, 1, 2, 3]) rfl ?_
  refine Za rfl rfl rfl rfl (Zc rfl rfl) ?_
  refine Za rfl rfl rfl rfl (Zc rfl rfl) ?_
  refine Za rfl rfl rfl rfl (Yp rfl rfl Try.underlying204 rfl) ?_
  refine Za rfl rfl rfl rfl (Xn rfl rfl rfl) ?_
  refine Zg ?_
  refine Yk rfl (fun hc1 => ?_) (fun hc1 => ?_)
  ·
   refine Zu ?_
   refine Zh ?_
   refine Zs ?_
   obtain ⟨y, hy⟩ := getI (show i < s.l.length by omega)
   obtain ⟨cy, py, qy, ssy⟩ := hs.isS (i := i) (by omega)
   rw [py]
   refine Yf (Lq := []) (isq := []) (m := 25) Yo rfl rfl ?_
   refine Zi 0 rfl rfl rfl rfl (by kernel_rfl) (fun _ _ => Zc rfl rfl) ?_
   refine Zi 1 rfl rfl rfl rfl (by kernel_rfl) (fun _ _ => Zc rfl rfl) ?_
   refine Zi 2 rfl rfl rfl rfl (by kernel_rfl) (fun _ _ => Zc rfl rfl) ?_
   refine Zi 3 rfl rfl rfl rfl (by kernel_rfl) (fun _ _ => Zo (s := 4) rfl Try.underlying204 i_258 rfl rfl rfl rfl (by omega)) ?_
   refine Zi 4 rfl rfl rfl rfl (by kernel_rfl) (fun _ _ => Zb (fo := _) rfl Try.underlying258 rfl i_3 rfl rfl rfl) ?_
   refine Zi 5 rfl rfl rfl rfl (by kernel_rfl) (fun _ _ => Zj rfl rfl (by rw [← Xc qy]; exact Zf 0 rfl) (Zt (Xr ssy cFl_len hy 0 (by omega) rfl)) Try.underlying3 rfl) ?_
   refine Zi 6 rfl rfl rfl rfl (by kernel_rfl) (fun _ _ => Zc rfl rfl) ?_
   refine Zi 7 rfl rfl rfl rfl (by kernel_rfl) (fun _ _ => Zc rfl rfl) ?_
   refine Zi 8 rfl rfl rfl rfl (by kernel_rfl) (fun _ _ => Zo (s := 4) rfl Try.underlying204 i_258 rfl rfl rfl rfl (by omega)) ?_
   refine Zi 9 rfl rfl rfl rfl (by kernel_rfl) (fun _ _ => Zb (fo := _ + 1) rfl Try.underlying258 rfl i_3 rfl rfl rfl) ?_
   refine Zi 10 rfl rfl rfl rfl (by kernel_rfl) (fun _ _ => Zj rfl rfl (by rw [← Xc qy]; exact Zf 0 rfl) (Zt (Xr ssy cFl_len hy 1 (by omega) rfl)) Try.underlying3 rfl) ?_
   refine Zi 11 rfl rfl rfl rfl (by kernel_rfl) (fun _ _ => Zc rfl rfl) ?_
   refine Zi 12 rfl rfl rfl rfl (by kernel_rfl) (fun _ _ => Zc rfl rfl) ?_
   refine Zi 13 rfl rfl rfl rfl (by kernel_rfl) (fun _ _ => Zo (s := 4) rfl Try.underlying204 i_258 rfl rfl rfl rfl (by omega)) ?_
   refine Zi 14 rfl rfl rfl rfl (by kernel_rfl) (fun _ _ => Zb (fo := _ + 2) rfl Try.underlying258 rfl i_3 rfl rfl rfl) ?_
   refine Zi 15 rfl rfl rfl rfl (by kernel_rfl) (fun _ _ => Zj rfl rfl (by rw [← Xc qy]; exact Zf 0 rfl) (Zt (Xr ssy cFl_len hy 2 (by omega) rfl)) Try.underlying3 rfl) ?_
   refine Zi 16 rfl rfl rfl rfl (by kernel_rfl) (fun _ _ => Zc rfl rfl) ?_
   refine Zi 17 rfl rfl rfl rfl (by kernel_rfl) (fun _ _ => Zc rfl rfl) ?_
   refine Zi 18 rfl rfl rfl rfl (by kernel_rfl) (fun _ _ => Zo (s := 4) rfl Try.underlying204 i_258 rfl rfl rfl rfl (by omega)) ?_
   refine Zi 19 rfl rfl rfl rfl (by kernel_rfl) (fun _ _ => Zb (fo := _ + 3) rfl Try.underlying258 rfl i_215 rfl rfl rfl) ?_
   refine Zi 20 rfl rfl rfl rfl (by kernel_rfl) (fun _ _ => Zj rfl rfl (by rw [← Xc qy]; exact Zf 0 rfl) (Zt (Xr ssy cFl_len hy 3 (by omega) rfl)) Try.underlying215 rfl) ?_
   refine Zi 21 rfl rfl rfl rfl (by kernel_rfl) (fun _ _ => Xw (cs := [_, _, _, _]) rfl Try.underlying217 i_217 rfl p_217 rfl rfl rfl) ?_
   refine GH_all [22] (by kernel_rfl) (by decide) ?_
   refine (And.intro ?_ trivial)
   ·
    refine Yl rfl rfl rfl rfl (Zn (s := 4) (cs := [_, _, _, _]) rfl Try.underlying207 i_217 rfl rfl rfl rfl rfl rfl rfl rfl rfl) [] (fun _ => ⟨_, rfl⟩) (fun b34 => ?_)
    refine GH_all [23] (by kernel_rfl) (by decide) ?_
    refine (And.intro ?_ trivial)
    ·
     refine Yq (l1 := [_]) (s := u) (nn := i) (m := 1) (news := (cFl y)) (bt := 48) rfl rfl rfl rfl Try.underlying207 Try.underlying207 (by first | exact .inl rfl | exact .inr ⟨_, rfl⟩) i_217 rfl rfl rfl rfl rfl rfl hu rfl (Yg (Zf 1 rfl) rfl rfl (by simp [cFl, Value.oneCell'])) (by omega) (by omega) [] (fun _ => ⟨_, rfl⟩) ?_
     intro u1 hu1 _
     show GH _ _ _ _ _ _ _ [_, _] _
     refine Zi 24 rfl rfl rfl rfl (by kernel_rfl) (fun _ _ => Zk rfl rfl) ?_
     refine Ya (by kernel_rfl) ?_
     refine Zv ?_
     refine Zd (l := [0, 1, 2]) rfl ?_
     refine Za rfl rfl rfl rfl (Zc rfl rfl) ?_
     refine Za rfl rfl rfl rfl ((Xe rfl rfl rfl).int (Zw (by omega))) ?_
     refine Za rfl rfl rfl rfl (Zk rfl rfl) ?_
     refine Zg ?_
     refine Yi ?_ [1] ?_ (ih (i + 1, u1) ?_ ?_)
     · (refine (And.intro ?_ (And.intro ?_ (And.intro ?_ trivial))) <;> first | rfl | exact Zl (by omega) | (rw [py]; rfl))
     · exact ⟨_, rfl⟩
     · exact ⟨by omega, by obtain ⟨hyi, rfl⟩ := List.getElem?_eq_some_iff.1 hy; rw [List.take_succ_eq_append_getElem hyi, List.flatMap_append, List.flatMap_singleton]; exact hu1⟩
     · (first | omega | (dsimp only; omega))
  refine Yr rfl ?_
  refine Zh ?_
  refine Zd (l := [0, 1]) rfl ?_
  refine Za rfl rfl rfl rfl (Zc rfl rfl) ?_
  refine Za rfl rfl rfl rfl (Zk rfl rfl) ?_
  refine Zg ?_
  refine Yy (post := [_]) Try.func115 rfl (Zy (Yt rfl) Zp) [0] rfl ?_
  dsimp only [packed]
  obtain rfl : i = s.l.length := by omega
  rw [List.take_length] at hu
  exact ⟨insOf u 217 s.l, Yh hu (by omega), rfl, rfl, rfl⟩

set_option maxRecDepth 100000 in
set_option maxHeartbeats 2000000 in
theorem bk_shares (s : Ins Tn) (hs : InsOk 5 cTn s) (hok : ∀ y ∈ s.l, OkTn y) (q : Int) :
    Ct Try.prog 45 [.slice s.p s.l.length s.cap, .int .i64 q] (insK s :: s.l.flatMap kTn) [] fun v post => ∃ (s2 : Ins Dt) (M : List HBk), InsOk 6 cDt s2 ∧ (∀ m ∈ s2.l, OkDt m) ∧ s2.l.map vDt = s.l.map vTn ∧ (∀ z ∈ insK s2 :: s2.l.flatMap kDt, z ∈ M ∨ z ∈ s.l.flatMap kTn) ∧ v = insV s2 ∧ post = M := by
 have hl1 := hs.le
 have hl2 := hs.max
 have hln := hs.n
 refine Yu Try.func45 rfl rfl (fun w0 => ?_)
 show G _ _ [(0, _), (1, _)] _ _
 refine Zh ?_
 refine Zd (l := [0]) rfl ?_
 refine Za rfl rfl rfl rfl (Zk rfl rfl) ?_
 refine Zg ?_
 refine Zh ?_
 refine Zd (l := [0, 1]) rfl ?_
 refine Yw rfl rfl rfl rfl (N_build0 rfl Try.underlying107 i_212) (fun b7 => ?_)
 refine Za rfl rfl rfl rfl (Zk rfl rfl) ?_
 refine Zg ?_
 refine Zh ?_
 refine Zh ?_
 refine Zd (l := [0]) rfl ?_
 refine Za rfl rfl rfl rfl (Zk rfl rfl) ?_
 refine Zg ?_
 refine Zs ?_
 refine Xj (L1 := [_]) ?he3 [0] ?hl3 (Xb (X := Nat × Sl × List Dt × List HBk) (fun x_ => match x_ with | ⟨i, u, ms, M⟩ => i ≤ s.l.length ∧ ms.length = i ∧ Own 6 u (ms.flatMap cDt) i ∧ (∀ m ∈ ms, OkDt m) ∧ ms.map vDt = (s.l.take i).map vTn ∧ ∀ z ∈ ms.flatMap kDt, z ∈ M ∨ z ∈ s.l.flatMap kTn) (fun x_ => match x_ with | ⟨i, u, ms, M⟩ => s.l.length - i) (fun x_ => match x_ with | ⟨i, u, ms, M⟩ => [(0, .slice s.p s.l.length s.cap), (1, .int .i64 q), (5, u.v i), (6, .int .i64 (i : Int))]) (fun x_ => match x_ with | ⟨i, u, ms, M⟩ => ((u.ob, .cells u.cs 212 u.fz) :: M)) ?round3 (0, ⟨some b7, #[], (0, 0), 0⟩, [], []) ?h03)
 case he3 => exact (And.intro rfl (And.intro rfl (And.intro rfl (And.intro rfl trivial))))
 case hl3 => exact ⟨_, _, rfl, .refl _⟩
 case h03 => exact ⟨Nat.zero_le _, rfl, own_empty 6 b7, by simp, by simp, by simp⟩
 case round3 =>
  intro x_ hJ ih
  try dsimp only at hJ ih
  obtain ⟨i, u, ms, M⟩ := x_
  try dsimp only at hJ ih
  obtain ⟨hi, hml, hu, hoks, hv, hM⟩ := hJ
  show G _ _ [(0, .slice s.p s.l.length s.cap), (1, .int .i64 q), (5, u.v i), (6, .int .i64 (i : Int))] ((u.ob, .cells u.cs 212 u.fz) :: M) _
  refine Zh ?_
  refine Zh ?_
  refine Zd (l := [0, 1, 2, 3]) rfl ?_
  refine Za rfl rfl rfl rfl (Zc rfl rfl) ?_
  refine Za rfl rfl rfl rfl (Zc rfl rfl) ?_
  refine Za rfl rfl rfl rfl (Yp rfl rfl Try.underlying109 rfl) ?_
  refine Za rfl rfl rfl rfl (Xn rfl rfl rfl) ?_
  refine Zg ?_
  refine Yk rfl (fun hc1 => ?_) (fun hc1 => ?_)
  ·
   refine Zu ?_
   refine Zh ?_
   refine Zs ?_
   obtain ⟨y, hy⟩ := getI (show i < s.l.length by omega)
   obtain ⟨cy, py, qy, ssy⟩ := hs.isS (i := i) (by omega)
   rw [py]
   have hyo := hok y (List.mem_of_getElem? hy)
   refine Yf (Lq := []) (isq := []) (m := 33) Yo rfl rfl ?_
   refine Zi 0 rfl rfl rfl rfl (by kernel_rfl) (fun _ _ => Zc rfl rfl) ?_
   refine Zi 1 rfl rfl rfl rfl (by kernel_rfl) (fun _ _ => Zc rfl rfl) ?_
   refine Zi 2 rfl rfl rfl rfl (by kernel_rfl) (fun _ _ => Zc rfl rfl) ?_
   refine Zi 3 rfl rfl rfl rfl (by kernel_rfl) (fun _ _ => Zo (s := 5) rfl Try.underlying109 i_206 rfl rfl rfl rfl (by omega)) ?_
   refine Zi 4 rfl rfl rfl rfl (by kernel_rfl) (fun _ _ => Zb (fo := _) rfl Try.underlying206 rfl i_3 rfl rfl rfl) ?_
   refine Zi 5 rfl rfl rfl rfl (by kernel_rfl) (fun _ _ => Zj rfl rfl (by rw [← Xc qy]; exact List.mem_append_left _ (Zf 0 rfl)) (Zt (Xr ssy cTn_len hy 0 (by omega) rfl)) Try.underlying3 rfl) ?_
   refine Zi 6 rfl rfl rfl rfl (by kernel_rfl) (fun _ _ => Zc rfl rfl) ?_
   refine Zi 7 rfl rfl rfl rfl (by kernel_rfl) (fun _ _ => Zc rfl rfl) ?_
   refine Zi 8 rfl rfl rfl rfl (by kernel_rfl) (fun _ _ => Zo (s := 5) rfl Try.underlying109 i_206 rfl rfl rfl rfl (by omega)) ?_
   refine Zi 9 rfl rfl rfl rfl (by kernel_rfl) (fun _ _ => Zb (fo := _ + 1) rfl Try.underlying206 rfl i_3 rfl rfl rfl) ?_
   refine Zi 10 rfl rfl rfl rfl (by kernel_rfl) (fun _ _ => Zj rfl rfl (by rw [← Xc qy]; exact List.mem_append_left _ (Zf 0 rfl)) (Zt (Xr ssy cTn_len hy 1 (by omega) rfl)) Try.underlying3 rfl) ?_
   refine Zi 11 rfl rfl rfl rfl (by kernel_rfl) (fun _ _ => Zc rfl rfl) ?_
   refine Zi 12 rfl rfl rfl rfl (by kernel_rfl) (fun _ _ => Zc rfl rfl) ?_
   refine Zi 13 rfl rfl rfl rfl (by kernel_rfl) (fun _ _ => Zo (s := 5) rfl Try.underlying109 i_206 rfl rfl rfl rfl (by omega)) ?_
   refine Zi 14 rfl rfl rfl rfl (by kernel_rfl) (fun _ _ => Zb (fo := _ + 2) rfl Try.underlying206 rfl i_3 rfl rfl rfl) ?_
   refine Zi 15 rfl rfl rfl rfl (by kernel_rfl) (fun _ _ => Zj rfl rfl (by rw [← Xc qy]; exact List.mem_append_left _ (Zf 0 rfl)) (Zt (Xr ssy cTn_len hy 2 (by omega) rfl)) Try.underlying3 rfl) ?_
   refine Zi 16 rfl rfl rfl rfl (by kernel_rfl) (fun _ _ => Zc rfl rfl) ?_
   refine Zi 17 rfl rfl rfl rfl (by kernel_rfl) (fun _ _ => Zc rfl rfl) ?_
   refine Zi 18 rfl rfl rfl rfl (by kernel_rfl) (fun _ _ => Zc rfl rfl) ?_
   refine Zi 19 rfl rfl rfl rfl (by kernel_rfl) (fun _ _ => Zo (s := 5) rfl Try.underlying109 i_206 rfl rfl rfl rfl (by omega)) ?_
   refine Zi 20 rfl rfl rfl rfl (by kernel_rfl) (fun _ _ => Zb (fo := _ + 3) rfl Try.underlying206 rfl i_204 rfl rfl rfl) ?_
   refine Zi 21 rfl rfl rfl rfl (by kernel_rfl) (fun _ _ => Zj rfl rfl (by rw [← Xc qy]; exact List.mem_append_left _ (Zf 0 rfl)) (Zt (Xr ssy cTn_len hy 3 (by omega) rfl)) Try.underlying204 rfl) ?_
   refine Zi 23 rfl rfl rfl rfl (by kernel_rfl) (fun _ _ => Zc rfl rfl) ?_
   refine Zi 24 rfl rfl rfl rfl (by kernel_rfl) (fun _ _ => Zc rfl rfl) ?_
   refine Zi 25 rfl rfl rfl rfl (by kernel_rfl) (fun _ _ => Zo (s := 5) rfl Try.underlying109 i_206 rfl rfl rfl rfl (by omega)) ?_
   refine Zi 26 rfl rfl rfl rfl (by kernel_rfl) (fun _ _ => Zb (fo := _ + 4) rfl Try.underlying206 rfl i_4 rfl rfl rfl) ?_
   refine Zi 27 rfl rfl rfl rfl (by kernel_rfl) (fun _ _ => Zj rfl rfl (by rw [← Xc qy]; exact List.mem_append_left _ (Zf 0 rfl)) (Zt (Xr ssy cTn_len hy 4 (by omega) rfl)) Try.underlying4 rfl) ?_
   refine GH_all [22] (by kernel_rfl) (by decide) ?_
   refine (And.intro ?_ trivial)
   ·
    refine Xy (L2 := (_ :: _)) rfl rfl rfl rfl rfl rfl Try.call115 (bk_flows y.s hyo.1) [] rfl (Ys (List.mem_append_left _ (List.mem_cons_of_mem _ (List.mem_flatMap.2 ⟨y, List.mem_of_getElem? hy, List.mem_cons_self⟩))) Xh) [] (by rintro v post ⟨s2, hs2, hl2_, rfl, rfl⟩; exact ⟨_, rfl⟩) ?_
    rintro v post ⟨s2, hs2, hl2_, rfl, rfl⟩
    show GH _ _ _ _ _ _ _ (_ :: _ :: _) _
    refine Zi 28 rfl rfl rfl rfl (by kernel_rfl) (fun _ _ => Xw (cs := [_, _, _]) rfl Try.underlying210 i_210 rfl p_210 rfl rfl rfl) ?_
    refine Zi 29 rfl rfl rfl rfl (by kernel_rfl) (fun _ _ => Xw (cs := [_, _, _, _, _, _]) rfl Try.underlying212 i_212 rfl p_212 rfl rfl rfl) ?_
    refine GH_all [30] (by kernel_rfl) (by decide) ?_
    refine (And.intro ?_ trivial)
    ·
     refine Yl rfl rfl rfl rfl (Zn (s := 6) (cs := [_, _, _, _, _, _]) rfl Try.underlying107 i_212 rfl rfl rfl rfl rfl rfl rfl rfl rfl) [] (fun _ => ⟨_, rfl⟩) (fun b44 => ?_)
     refine GH_all [31] (by kernel_rfl) (by decide) ?_
     refine (And.intro ?_ trivial)
     ·
      refine Yq (l1 := [_, _]) (s := u) (nn := i) (m := 1) (news := (cDt (⟨y.v0, y.v1, y.v2, q, s2, y.g⟩ : Dt))) (bt := 64) rfl rfl rfl rfl Try.underlying107 Try.underlying107 (by first | exact .inl rfl | exact .inr ⟨_, rfl⟩) i_212 rfl rfl rfl rfl rfl rfl hu rfl (Yg (List.mem_append_right _ (Zf 0 rfl)) rfl rfl (by simp [cDt, Value.oneCell'])) (by omega) (by omega) [] (fun _ => ⟨_, rfl⟩) ?_
      intro u1 hu1 _
      show GH _ _ _ _ _ _ _ (_ :: _ :: _ :: _) _
      refine Zi 32 rfl rfl rfl rfl (by kernel_rfl) (fun _ _ => Zk rfl rfl) ?_
      refine Ya (by kernel_rfl) ?_
      refine Zv ?_
      refine Zd (l := [0, 1, 2]) rfl ?_
      refine Za rfl rfl rfl rfl (Zc rfl rfl) ?_
      refine Za rfl rfl rfl rfl ((Xe rfl rfl rfl).int (Zw (by omega))) ?_
      refine Za rfl rfl rfl rfl (Zk rfl rfl) ?_
      refine Zg ?_
      refine Xj (L1 := [_]) ?_ [2] ?bhl3 (ih (i + 1, u1, ms ++ [(⟨y.v0, y.v1, y.v2, q, s2, y.g⟩ : Dt)], ?M1) ?_ ?_)
      case bhl3 => (dsimp only; refine ⟨(_ :: _ :: _), [], rfl, ?_⟩; exact perm_all _)
      · (refine (And.intro ?_ (And.intro ?_ (And.intro ?_ (And.intro ?_ trivial)))) <;> first | rfl | exact Zl (by omega) | (rw [py]; rfl))
      · exact ⟨by omega, by simp [hml], by rw [List.flatMap_append, List.flatMap_singleton]; exact hu1, oks_nx hoks ⟨hs2, by show ∀ f ∈ s2.l, _; rw [hl2_]; exact hyo.2⟩, map_next hv hy (by unfold vDt vTn; rw [hl2_]), sub_or hM (fun z hz => by simp [hz]) (fun z hz => by unfold kDt at hz; rw [hl2_] at hz; exact (List.mem_cons.1 hz).elim (fun h => .inl (by simp [h])) (fun h => .inr (List.mem_flatMap.2 ⟨y, List.mem_of_getElem? hy, List.mem_cons_of_mem _ h⟩)))⟩
      · (first | omega | (dsimp only; omega))
  refine Yr rfl ?_
  refine Zh ?_
  refine Zd (l := [0, 1]) rfl ?_
  refine Za rfl rfl rfl rfl (Zc rfl rfl) ?_
  refine Za rfl rfl rfl rfl (Zk rfl rfl) ?_
  refine Zg ?_
  refine G_retT (p1 := [_]) (T := _) Try.func45 rfl (Zy (Yt rfl) Zp) [0] ⟨_, _, rfl, List.perm_append_comm (l₁ := [])⟩ ?_
  dsimp only [packed]
  obtain rfl : i = s.l.length := by omega
  rw [List.take_length] at hv
  exact ⟨insOf u 212 ms, _, Yh (by rw [hml]; exact hu) (by omega), hoks, hv, sub_or_hd hM, by rw [Xd, hml], rfl⟩


def mkCl (a : Int) (g : Bool) (s : Ins Tn) : PC := ⟨a, g, s.l.map vTn⟩
theorem cls_v {x : Po} : (clsOf x).map vCl = List.zipWith (fun a (p : Bool × Ins Tn) => mkCl a p.1 p.2) x.sv.l (x.gv.l.zip x.sh.l) := by
  unfold clsOf; rw [List.map_zipWith]; rfl
theorem zip_same : ∀ (az : List Int) (gs : List Bool) (ss : List (Ins Tn)) (ds : List Ds), az.length = ss.length → gs.length = ss.length → ds.length = ss.length → (∀ (i : Nat) d, ds[i]? = some d → ∃ g s, gs[i]? = some g ∧ ss[i]? = some s ∧ d.g = g ∧ d.s.l.map vDt = s.l.map vTn) →
    List.zipWith mkPC az ds = List.zipWith (fun a (p : Bool × Ins Tn) => mkCl a p.1 p.2) az (gs.zip ss)
  | [], _, _, _, _, _, _, _ => by simp
  | a :: az, [], ss, ds, h1, h2, h3, h => by simp at h1 h2; omega
  | a :: az, g :: gs, [], ds, h1, h2, h3, h => by simp at h1
  | a :: az, g :: gs, s :: ss, [], h1, h2, h3, h => by simp at h3
  | a :: az, g :: gs, s :: ss, d :: ds, h1, h2, h3, h => by
    obtain ⟨g1, s1, e1, e2, e3, e4⟩ := h 0 d rfl
    simp only [List.getElem?_cons_zero, Option.some.injEq] at e1 e2
    subst e1 e2
    show mkPC a d :: _ = mkCl a g s :: _
    rw [zip_same az gs ss ds (by simpa using h1) (by simpa using h2) (by simpa using h3) (fun i d' hd => h (i + 1) d' hd)]
    congr 1
    unfold mkPC mkCl; rw [e3, e4]
theorem po_same {p : Po} {q : Dp} (he : EvenPo p) (hn : q.n = p.n) (hu : q.u = p.u) (hv : q.sv.l = p.sv.l) (hl : q.sh.l.length = p.sh.l.length) (h : ∀ (i : Nat) d, q.sh.l[i]? = some d → ∃ g s, p.gv.l[i]? = some g ∧ p.sh.l[i]? = some s ∧ d.g = g ∧ d.s.l.map vDt = s.l.map vTn) : vDp q = vPo p := by
  have h1 := he.1
  have h2 := he.2
  have hq : EvenDp q := by unfold EvenDp; rw [hv, hl]; exact h1
  unfold vDp vPo
  rw [if_pos hq, if_pos he, decide_eq_true hq, decide_eq_true he, hn, hu, hv, cls_v, zip_same p.sv.l p.gv.l p.sh.l q.sh.l h1 (by omega) hl h]
theorem at_snoc {α : Type} {P : Nat → α → Prop} {l : List α} {d : α} {k : Nat} (hl : l.length = k) (h : ∀ (i : Nat) x, l[i]? = some x → P i x) (hd : P k d) : ∀ (i : Nat) x, (l ++ [d])[i]? = some x → P i x := by
  intro i x hx
  rcases Nat.lt_or_ge i l.length with hi | hi
  · rw [List.getElem?_append_left hi] at hx; exact h i x hx
  · rw [List.getElem?_append_right hi] at hx
    have : i - l.length = 0 := by
      have := (List.getElem?_eq_some_iff.1 hx).1
      simp at this; omega
    rw [this] at hx
    simp only [List.getElem?_cons_zero, Option.some.injEq] at hx
    subst hx
    rw [show i = k by omega]; exact hd
theorem in_st {x : St} {z : HBk} (hz : z ∈ x.po.l.flatMap kPo) : z ∈ kSt x := by
  unfold kSt
  simp only [List.mem_cons]
  exact .inr (.inr (.inr (.inr (.inr (.inr (.inr (.inr hz)))))))
theorem in_po {x : St} {p : Po} {z : HBk} (hp : p ∈ x.po.l) (hz : z ∈ kPo p) : z ∈ kSt x := in_st (List.mem_flatMap.2 ⟨p, hp, hz⟩)
theorem dst_sub2 {x : St} {s : Ins Dp} {M : List HBk} (hM : ∀ z ∈ insK s :: s.l.flatMap kDp, z ∈ M ∨ z ∈ kSt x) : ∀ z ∈ kDst (⟨x.v0, x.g, x.v2, x.v3, x.v4, x.v5, x.v6, x.li, x.en, x.wo, x.iv, s, x.hi, x.le, x.wa⟩ : Dst), z ∈ M ∨ z ∈ kSt x := by
  intro z hz
  have h1 := hM z
  unfold kDst at hz
  unfold kSt at h1 ⊢
  simp only [List.mem_cons] at hz h1 ⊢
  grind
theorem ins_nil {α : Type} {sz : Nat} {f : α → List Value} {s : Ins α} (h : InsOk sz f s) {i : Nat} {y : α} (hy : s.l[i]? = some y) : ∃ b, s.p = some ⟨b, s.off, none⟩ ∧ s.ob = some b ∧ Sees sz (some b) s.off s.cap s.cs (s.l.flatMap f) s.l.length := h.isS (List.getElem?_eq_some_iff.1 hy).1

set_option maxRecDepth 100000 in
set_option maxHeartbeats 4000000 in
theorem bk_from (x : St) (hx : MkSt x) (hev : ∀ p ∈ x.po.l, EvenPo p) (q : Int) :
    Ct Try.prog 11 [.agg (cSt x).toArray, .int .i64 q] (kSt x) [] fun v post => ∃ (y : Dst) (M : List HBk), MkDst y ∧ (∀ z ∈ kDst y, z ∈ M ∨ z ∈ kSt x) ∧ vDst y = vSt x ∧ v = .tuple #[.agg (cDst y).toArray, .bool true] ∧ post = M := by
 have hl1 := hx.po.le
 have hl2 := hx.po.max
 have hln := hx.po.n
 refine Yu Try.func11 rfl rfl (fun w0 => ?_)
 show G _ _ [(0, _), (1, _)] _ _
 refine Zh ?_
 refine Zd (l := [0, 1, 2]) rfl ?_
 refine Yw rfl rfl rfl rfl (N_boxA rfl rfl) (fun b2 => ?_)
 refine Yw rfl rfl rfl rfl (Ym rfl i_38 rfl) (fun b4 => ?_)
 refine Za rfl rfl rfl rfl (Zk rfl rfl) ?_
 refine Zg ?_
 refine Zh ?_
 refine Zd (l := [0, 1, 2, 3, 4, 5, 6, 7, 8, 9, 10, 11, 12, 13, 14, 15, 16, 17, 18, 19, 20, 21, 22, 23, 24, 25, 26, 27, 28, 29, 30]) rfl ?_
 refine Za rfl rfl rfl rfl (Zb (fo := 0) rfl Try.underlying32 rfl i_23 rfl rfl rfl) ?_
 refine Za rfl rfl rfl rfl (Zj rfl rfl (List.mem_append_right _ (Zf 1 rfl)) rfl Try.underlying23 rfl) ?_
 refine Za rfl rfl rfl rfl (Zb (fo := 1) rfl Try.underlying32 rfl i_4 rfl rfl rfl) ?_
 refine Za rfl rfl rfl rfl (Zj rfl rfl (List.mem_append_right _ (Zf 1 rfl)) rfl Try.underlying4 rfl) ?_
 refine Za rfl rfl rfl rfl (Zb (fo := 2) rfl Try.underlying32 rfl i_3 rfl rfl rfl) ?_
 refine Za rfl rfl rfl rfl (Zj rfl rfl (List.mem_append_right _ (Zf 1 rfl)) rfl Try.underlying3 rfl) ?_
 refine Za rfl rfl rfl rfl (Zb (fo := 3) rfl Try.underlying32 rfl i_3 rfl rfl rfl) ?_
 refine Za rfl rfl rfl rfl (Zj rfl rfl (List.mem_append_right _ (Zf 1 rfl)) rfl Try.underlying3 rfl) ?_
 refine Za rfl rfl rfl rfl (Zb (fo := 4) rfl Try.underlying32 rfl i_3 rfl rfl rfl) ?_
 refine Za rfl rfl rfl rfl (Zj rfl rfl (List.mem_append_right _ (Zf 1 rfl)) rfl Try.underlying3 rfl) ?_
 refine Za rfl rfl rfl rfl (Zb (fo := 5) rfl Try.underlying32 rfl i_3 rfl rfl rfl) ?_
 refine Za rfl rfl rfl rfl (Zj rfl rfl (List.mem_append_right _ (Zf 1 rfl)) rfl Try.underlying3 rfl) ?_
 refine Za rfl rfl rfl rfl (Zb (fo := 6) rfl Try.underlying32 rfl i_3 rfl rfl rfl) ?_
 refine Za rfl rfl rfl rfl (Zj rfl rfl (List.mem_append_right _ (Zf 1 rfl)) rfl Try.underlying3 rfl) ?_
 refine Za rfl rfl rfl rfl (Zb (fo := 7) rfl Try.underlying32 rfl i_24 rfl rfl rfl) ?_
 refine Za rfl rfl rfl rfl (Zj rfl rfl (List.mem_append_right _ (Zf 1 rfl)) rfl Try.underlying24 rfl) ?_
 refine Za rfl rfl rfl rfl (Zb (fo := 8) rfl Try.underlying32 rfl i_24 rfl rfl rfl) ?_
 refine Za rfl rfl rfl rfl (Zj rfl rfl (List.mem_append_right _ (Zf 1 rfl)) rfl Try.underlying24 rfl) ?_
 refine Za rfl rfl rfl rfl (Zb (fo := 9) rfl Try.underlying32 rfl i_25 rfl rfl rfl) ?_
 refine Za rfl rfl rfl rfl (Zj rfl rfl (List.mem_append_right _ (Zf 1 rfl)) rfl Try.underlying25 rfl) ?_
 refine Za rfl rfl rfl rfl (Zb (fo := 10) rfl Try.underlying32 rfl i_26 rfl rfl rfl) ?_
 refine Za rfl rfl rfl rfl (Zj rfl rfl (List.mem_append_right _ (Zf 1 rfl)) rfl Try.underlying26 rfl) ?_
 refine Za rfl rfl rfl rfl (Zb (fo := 12) rfl Try.underlying32 rfl i_28 rfl rfl rfl) ?_
 refine Za rfl rfl rfl rfl (Zj rfl rfl (List.mem_append_right _ (Zf 1 rfl)) rfl Try.underlying28 rfl) ?_
 refine Za rfl rfl rfl rfl (Zb (fo := 13) rfl Try.underlying32 rfl i_29 rfl rfl rfl) ?_
 refine Za rfl rfl rfl rfl (Zj rfl rfl (List.mem_append_right _ (Zf 1 rfl)) rfl Try.underlying29 rfl) ?_
 refine Za rfl rfl rfl rfl (Zb (fo := 14) rfl Try.underlying32 rfl i_30 rfl rfl rfl) ?_
 refine Za rfl rfl rfl rfl (Zj rfl rfl (List.mem_append_right _ (Zf 1 rfl)) rfl Try.underlying30 rfl) ?_
 refine Za rfl rfl rfl rfl (Xw (cs := [_, _, _, _, _, _, _, _, _, _, _, _, _, _, _]) rfl Try.underlying38 i_38 rfl p_38 rfl rfl rfl) ?_
 refine Yw rfl rfl rfl rfl (Ym rfl i_38 rfl) (fun b6 => ?_)
 refine Yj (l1 := []) (L' := [_, _, _]) rfl rfl rfl rfl (Yv (s := 15) rfl rfl rfl (Zf 0 rfl) (by rfl) i_38 rfl (by rfl) (by simp [Value.oneCell', cOp, cWk, cIv, cHr, cLt, cWt, cIt, cFl, cTn, cCl, cPo, cSt, cDt, cDs, Sl.v, zIns, insV, cDp, cDst])) rfl ?_
 refine Zg ?_
 refine Zh ?_
 refine Zh ?_
 show G _ _ _ [(some b6, .cells (cDst (⟨x.v0, x.g, x.v2, x.v3, x.v4, x.v5, x.v6, x.li, x.en, x.wo, x.iv, zIns Dp, x.hi, x.le, x.wa⟩ : Dst)).toArray 38 (0, 0)), _, _] _
 refine Xq (.cells #[] 106 (0, 0)) ?_
 refine Zd (l := [0]) rfl ?_
 refine Za rfl rfl rfl rfl (Zk rfl rfl) ?_
 refine Zg ?_
 refine Zs ?_
 refine Xj (L1 := [_, _, _, _]) ?he3 [3, 2, 1, 0] ?hl3 (Xb (X := Nat × Sl × List Dp × List HBk) (fun x_ => match x_ with | ⟨i, u, ms, M⟩ => i ≤ x.po.l.length ∧ ms.length = i ∧ Own 4 u (ms.flatMap cDp) i ∧ (∀ m ∈ ms, OkDp m) ∧ ms.map vDp = (x.po.l.take i).map vPo ∧ ∀ z ∈ ms.flatMap kDp, z ∈ M ∨ z ∈ kSt x) (fun x_ => match x_ with | ⟨i, u, ms, M⟩ => x.po.l.length - i) (fun x_ => match x_ with | ⟨i, u, ms, M⟩ => [(1, .int .i64 q), (2, .pointer (some ⟨b2, 0, none⟩)), (4, .pointer (some ⟨b4, 0, none⟩)), (5, .bool false), (6, .pointer (some ⟨b6, 0, none⟩)), (7, .int .i64 (i : Int))]) (fun x_ => match x_ with | ⟨i, u, ms, M⟩ => ((some b2, .cells (cSt x).toArray 32 (0, 0)) :: (some b4, .cells (cDst zDst).toArray 38 (0, 0)) :: (some b6, .cells (cDst (⟨x.v0, x.g, x.v2, x.v3, x.v4, x.v5, x.v6, x.li, x.en, x.wo, x.iv, insOf u 106 ms, x.hi, x.le, x.wa⟩ : Dst)).toArray 38 (0, 0)) :: (u.ob, .cells u.cs 106 u.fz) :: M)) ?round3 (0, slNil, [], []) ?h03)
 case he3 => exact (And.intro rfl (And.intro rfl (And.intro rfl (And.intro rfl (And.intro rfl (And.intro rfl trivial))))))
 case hl3 => exact ⟨_, _, rfl, .refl _⟩
 case h03 => exact ⟨Nat.zero_le _, rfl, own_nil 4, by simp, by simp, by simp⟩
 case round3 =>
  intro x_ hJ ih
  try dsimp only at hJ ih
  obtain ⟨i, u, ms, M⟩ := x_
  try dsimp only at hJ ih
  obtain ⟨hi, hml, hu, hoks, hv_, hM⟩ := hJ
  show G _ _ [(1, .int .i64 q), (2, .pointer (some ⟨b2, 0, none⟩)), (4, .pointer (some ⟨b4, 0, none⟩)), (5, .bool false), (6, .pointer (some ⟨b6, 0, none⟩)), (7, .int .i64 (i : Int))] ((some b2, .cells (cSt x).toArray 32 (0, 0)) :: (some b4, .cells (cDst zDst).toArray 38 (0, 0)) :: (some b6, .cells (cDst (⟨x.v0, x.g, x.v2, x.v3, x.v4, x.v5, x.v6, x.li, x.en, x.wo, x.iv, insOf u 106 ms, x.hi, x.le, x.wa⟩ : Dst)).toArray 38 (0, 0)) :: (u.ob, .cells u.cs 106 u.fz) :: M) _
  refine Zh ?_
  refine Zh ?_
  refine Zd (l := [0, 1, 2, 3, 4]) rfl ?_
  refine Za rfl rfl rfl rfl (Zc rfl rfl) ?_
  refine Za rfl rfl rfl rfl (Zb (fo := 11) rfl Try.underlying32 rfl i_27 rfl rfl rfl) ?_
  refine Za rfl rfl rfl rfl (Zj rfl rfl (List.mem_append_right _ (Zf 0 rfl)) rfl Try.underlying27 rfl) ?_
  refine Za rfl rfl rfl rfl (Yp rfl rfl Try.underlying27 rfl) ?_
  refine Za rfl rfl rfl rfl (Xn rfl rfl rfl) ?_
  refine Zg ?_
  refine Yk rfl (fun hc1 => ?_) (fun hc1 => ?_)
  ·
   refine Zu ?_
   refine Zh ?_
   refine Zs ?_
   refine Zh ?_
   obtain ⟨p, hp⟩ := getI (show i < x.po.l.length by omega)
   obtain ⟨cp, pp, qp, ssp⟩ := ins_nil hx.po hp
   have hpo := hx.po2 p (List.mem_of_getElem? hp)
   have hpe := hev p (List.mem_of_getElem? hp)
   have hpe1 := hpe.1
   have hpe2 := hpe.2
   have hpb1 := hpo.2.1.le
   have hpb2 := hpo.2.2.1.le
   have hpb3 := hpo.2.1.max
   have hpb4 := hpo.2.2.1.max
   have hpb5 := hpo.2.2.1.n
   refine Zd (l := [0, 1, 2, 3, 4, 5, 6]) rfl ?_
   refine Za rfl rfl rfl rfl (Zb (fo := 11) rfl Try.underlying32 rfl i_27 rfl rfl rfl) ?_
   refine Za rfl rfl rfl rfl (Zj rfl rfl (List.mem_append_right _ (Zf 0 rfl)) rfl Try.underlying27 rfl) ?_
   rw [pp]
   refine Za rfl rfl rfl rfl (Zc rfl rfl) ?_
   refine Za rfl rfl rfl rfl (Zo (s := 5) rfl Try.underlying27 i_103 rfl rfl rfl rfl (by omega)) ?_
   refine Za rfl rfl rfl rfl (Xp (s := 5) (vs := (cPo p).toArray) rfl rfl (by rw [← Xc qp]; exact List.mem_append_left _ (by unfold kSt; simp)) Try.underlying103 rfl i_103 rfl (ssp.elem cPo_len hp) (by rfl)) ?_
   refine Yw rfl rfl rfl rfl (Ym rfl i_103 rfl) (fun b8 => ?_)
   refine Yj (l1 := []) (L' := (_ :: _ :: _ :: _ :: _ :: _)) rfl rfl rfl rfl (Yv (s := 5) rfl rfl rfl (Zf 0 rfl) (by rfl) i_103 rfl (by rfl) (by simp [Value.oneCell', cOp, cWk, cIv, cHr, cLt, cWt, cIt, cFl, cTn, cCl, cPo, cSt, cDt, cDs, Sl.v, zIns, insV, cDp, cDst])) rfl ?_
   refine Zg ?_
   refine Zh ?_
   refine Zd (l := [0, 1, 2, 3, 4, 5, 6, 7, 8]) rfl ?_
   refine Za rfl rfl rfl rfl (Zb (fo := 0) rfl Try.underlying103 rfl i_9 rfl rfl rfl) ?_
   refine Za rfl rfl rfl rfl (Zj rfl rfl (List.mem_append_right _ (Zf 0 rfl)) rfl Try.underlying9 rfl) ?_
   refine Za rfl rfl rfl rfl (Zb (fo := 1) rfl Try.underlying103 rfl i_3 rfl rfl rfl) ?_
   refine Za rfl rfl rfl rfl (Zj rfl rfl (List.mem_append_right _ (Zf 0 rfl)) rfl Try.underlying3 rfl) ?_
   refine Za rfl rfl rfl rfl (Zb (fo := 2) rfl Try.underlying103 rfl i_99 rfl rfl rfl) ?_
   refine Za rfl rfl rfl rfl (Zj rfl rfl (List.mem_append_right _ (Zf 0 rfl)) rfl Try.underlying99 rfl) ?_
   refine Za rfl rfl rfl rfl (Xw (cs := [_, _, _, _]) rfl Try.underlying106 i_106 rfl p_106 rfl rfl rfl) ?_
   refine Yw rfl rfl rfl rfl (Ym rfl i_106 rfl) (fun b9 => ?_)
   refine Yj (l1 := []) (L' := (_ :: _ :: _ :: _ :: _ :: _ :: _)) rfl rfl rfl rfl (Yv (s := 4) rfl rfl rfl (Zf 0 rfl) (by rfl) i_106 rfl (by rfl) (by simp [Value.oneCell', cOp, cWk, cIv, cHr, cLt, cWt, cIt, cFl, cTn, cCl, cPo, cSt, cDt, cDs, Sl.v, zIns, insV, cDp, cDst])) rfl ?_
   refine Zg ?_
   refine Zh ?_
   refine Zh ?_
   refine Zd (l := [0, 1, 2, 3, 4, 5, 6]) rfl ?_
   refine Za rfl rfl rfl rfl (Zb (fo := 3) rfl Try.underlying103 rfl i_100 rfl rfl rfl) ?_
   refine Za rfl rfl rfl rfl (Zj rfl rfl (List.mem_append_right _ (Zf 1 rfl)) rfl Try.underlying100 rfl) ?_
   refine Za rfl rfl rfl rfl (Yp rfl rfl Try.underlying100 rfl) ?_
   refine Za rfl rfl rfl rfl (Zb (fo := 4) rfl Try.underlying103 rfl i_101 rfl rfl rfl) ?_
   refine Za rfl rfl rfl rfl (Zj rfl rfl (List.mem_append_right _ (Zf 1 rfl)) rfl Try.underlying101 rfl) ?_
   refine Za rfl rfl rfl rfl (Yp rfl rfl Try.underlying101 rfl) ?_
   refine Za rfl rfl rfl rfl (V_neq rfl rfl rfl) ?_
   refine Zg ?_
   refine Yk rfl (fun hc2 => ?_) (fun hc2 => ?_)
   · (first | contradiction | (exact absurd rfl hc2) | (exfalso; omega) | (simp at hc2; done) | (exact absurd hc2 (by decide)) | (exact absurd (by decide) hc2))
   refine Zu ?_
   refine Zh ?_
   refine Zh ?_
   refine Xq (.cells #[] 111 (0, 0)) ?_
   refine Zd (l := [0]) rfl ?_
   refine Za rfl rfl rfl rfl (Zk rfl rfl) ?_
   refine Zg ?_
   refine Zs ?_
   refine Xj (L1 := [_, _, _, _, _, _, _]) ?he10 [3, 3, 3, 3, 2, 1, 0] ?hl10 (Xb (X := Nat × Sl × List Ds × List HBk) (fun y_ => match y_ with | ⟨k, v, shs, M2⟩ => k ≤ p.sh.l.length ∧ shs.length = k ∧ Own 3 v (shs.flatMap cDs) k ∧ (∀ s ∈ shs, OkDs s) ∧ (∀ (j : Nat) d, shs[j]? = some d → ∃ g s, p.gv.l[j]? = some g ∧ p.sh.l[j]? = some s ∧ d.g = g ∧ d.s.l.map vDt = s.l.map vTn) ∧ (∀ z ∈ shs.flatMap kDs, z ∈ M2 ∨ z ∈ kSt x) ∧ ∀ z ∈ M, z ∈ M2) (fun y_ => match y_ with | ⟨k, v, shs, M2⟩ => p.sh.l.length - k) (fun y_ => match y_ with | ⟨k, v, shs, M2⟩ => [(1, .int .i64 q), (2, .pointer (some ⟨b2, 0, none⟩)), (4, .pointer (some ⟨b4, 0, none⟩)), (5, .bool false), (6, .pointer (some ⟨b6, 0, none⟩)), (7, .int .i64 (i : Int)), (8, .pointer (some ⟨b8, 0, none⟩)), (9, .pointer (some ⟨b9, 0, none⟩)), (10, .int .i64 (k : Int))]) (fun y_ => match y_ with | ⟨k, v, shs, M2⟩ => ((some b2, .cells (cSt x).toArray 32 (0, 0)) :: (some b4, .cells (cDst zDst).toArray 38 (0, 0)) :: (some b6, .cells (cDst (⟨x.v0, x.g, x.v2, x.v3, x.v4, x.v5, x.v6, x.li, x.en, x.wo, x.iv, insOf u 106 ms, x.hi, x.le, x.wa⟩ : Dst)).toArray 38 (0, 0)) :: (u.ob, .cells u.cs 106 u.fz) :: (some b8, .cells (cPo p).toArray 103 (0, 0)) :: (some b9, .cells #[.string (bs p.n), .int .i64 p.u, .slice p.sv.p p.sv.l.length p.sv.cap, v.v k] 106 (0, 0)) :: (v.ob, .cells v.cs 111 v.fz) :: M2)) ?round10 (0, slNil, [], M) ?h010)
   case he10 => exact (And.intro rfl (And.intro rfl (And.intro rfl (And.intro rfl (And.intro rfl (And.intro rfl (And.intro rfl (And.intro rfl (And.intro rfl trivial)))))))))
   case hl10 => exact ⟨_, _, rfl, List.perm_append_comm (l₁ := [])⟩
   case h010 => exact ⟨Nat.zero_le _, rfl, own_nil 3, by simp, by simp, by simp, fun _ h => h⟩
   case round10 =>
    intro y_ hJ ih2
    try dsimp only at hJ ih2
    obtain ⟨k, v, shs, M2⟩ := y_
    try dsimp only at hJ ih2
    obtain ⟨hk, hsl, hv, hokd, hat, hMd, hMM⟩ := hJ
    show G _ _ [(1, .int .i64 q), (2, .pointer (some ⟨b2, 0, none⟩)), (4, .pointer (some ⟨b4, 0, none⟩)), (5, .bool false), (6, .pointer (some ⟨b6, 0, none⟩)), (7, .int .i64 (i : Int)), (8, .pointer (some ⟨b8, 0, none⟩)), (9, .pointer (some ⟨b9, 0, none⟩)), (10, .int .i64 (k : Int))] ((some b2, .cells (cSt x).toArray 32 (0, 0)) :: (some b4, .cells (cDst zDst).toArray 38 (0, 0)) :: (some b6, .cells (cDst (⟨x.v0, x.g, x.v2, x.v3, x.v4, x.v5, x.v6, x.li, x.en, x.wo, x.iv, insOf u 106 ms, x.hi, x.le, x.wa⟩ : Dst)).toArray 38 (0, 0)) :: (u.ob, .cells u.cs 106 u.fz) :: (some b8, .cells (cPo p).toArray 103 (0, 0)) :: (some b9, .cells #[.string (bs p.n), .int .i64 p.u, .slice p.sv.p p.sv.l.length p.sv.cap, v.v k] 106 (0, 0)) :: (v.ob, .cells v.cs 111 v.fz) :: M2) _
    refine Zh ?_
    refine Zh ?_
    refine Zd (l := [0, 1, 2, 3, 4]) rfl ?_
    refine Za rfl rfl rfl rfl (Zc rfl rfl) ?_
    refine Za rfl rfl rfl rfl (Zb (fo := 3) rfl Try.underlying103 rfl i_100 rfl rfl rfl) ?_
    refine Za rfl rfl rfl rfl (Zj rfl rfl (List.mem_append_right _ (Zf 4 rfl)) rfl Try.underlying100 rfl) ?_
    refine Za rfl rfl rfl rfl (Yp rfl rfl Try.underlying100 rfl) ?_
    refine Za rfl rfl rfl rfl (Xn rfl rfl rfl) ?_
    refine Zg ?_
    refine Yk rfl (fun hc3 => ?_) (fun hc3 => ?_)
    ·
     refine Zu ?_
     refine Zh ?_
     refine Zs ?_
     obtain ⟨sy, hsy⟩ := getI (show k < p.sh.l.length by omega)
     obtain ⟨g, hg⟩ := getI (show k < p.gv.l.length by omega)
     obtain ⟨cs_, ps_, qs_, sss⟩ := ins_nil hpo.2.2.1 hsy
     obtain ⟨cg_, pg_, qg_, ssg⟩ := ins_nil hpo.2.1 hg
     have hsyo := hpo.2.2.2 sy (List.mem_of_getElem? hsy)
     refine Yf (Lq := [_]) (isq := [4]) (m := 20) Yo rfl rfl ?_
     refine GH_join (X := {y : Sl × Ds × List HBk // Own 3 y.1 ((shs ++ [y.2.1]).flatMap cDs) (k + 1) ∧ y.2.1.s.l.map vDt = sy.l.map vTn ∧ OkDs y.2.1 ∧ y.2.1.g = g ∧ (∀ z ∈ kDs y.2.1, z ∈ y.2.2 ∨ z ∈ kSt x) ∧ ∀ z ∈ M2, z ∈ y.2.2}) (fun xj => match xj with | ⟨⟨y1, d_, M3⟩, hd1, hd2, hd3, hdg, hd4, hd5⟩ => [(1, .int .i64 q), (2, .pointer (some ⟨b2, 0, none⟩)), (4, .pointer (some ⟨b4, 0, none⟩)), (5, .bool false), (6, .pointer (some ⟨b6, 0, none⟩)), (7, .int .i64 (i : Int)), (8, .pointer (some ⟨b8, 0, none⟩)), (9, .pointer (some ⟨b9, 0, none⟩)), (10, .int .i64 (k : Int))]) (fun xj => match xj with | ⟨⟨y1, d_, M3⟩, hd1, hd2, hd3, hdg, hd4, hd5⟩ => ((some b2, .cells (cSt x).toArray 32 (0, 0)) :: (some b4, .cells (cDst zDst).toArray 38 (0, 0)) :: (some b6, .cells (cDst (⟨x.v0, x.g, x.v2, x.v3, x.v4, x.v5, x.v6, x.li, x.en, x.wo, x.iv, insOf u 106 ms, x.hi, x.le, x.wa⟩ : Dst)).toArray 38 (0, 0)) :: (u.ob, .cells u.cs 106 u.fz) :: (some b8, .cells (cPo p).toArray 103 (0, 0)) :: (some b9, .cells #[.string (bs p.n), .int .i64 p.u, .slice p.sv.p p.sv.l.length p.sv.cap, y1.v (k + 1)] 106 (0, 0)) :: (y1.ob, .cells y1.cs 111 y1.fz) :: M3)) ?rest12 (fun jn12 => ?main12)
     case rest12 =>
      intro xj
      obtain ⟨⟨y1, d_, M3⟩, hd1, hd2, hd3, hdg, hd4, hd5⟩ := xj
      show G _ _ [(1, .int .i64 q), (2, .pointer (some ⟨b2, 0, none⟩)), (4, .pointer (some ⟨b4, 0, none⟩)), (5, .bool false), (6, .pointer (some ⟨b6, 0, none⟩)), (7, .int .i64 (i : Int)), (8, .pointer (some ⟨b8, 0, none⟩)), (9, .pointer (some ⟨b9, 0, none⟩)), (10, .int .i64 (k : Int))] ((some b2, .cells (cSt x).toArray 32 (0, 0)) :: (some b4, .cells (cDst zDst).toArray 38 (0, 0)) :: (some b6, .cells (cDst (⟨x.v0, x.g, x.v2, x.v3, x.v4, x.v5, x.v6, x.li, x.en, x.wo, x.iv, insOf u 106 ms, x.hi, x.le, x.wa⟩ : Dst)).toArray 38 (0, 0)) :: (u.ob, .cells u.cs 106 u.fz) :: (some b8, .cells (cPo p).toArray 103 (0, 0)) :: (some b9, .cells #[.string (bs p.n), .int .i64 p.u, .slice p.sv.p p.sv.l.length p.sv.cap, y1.v (k + 1)] 106 (0, 0)) :: (y1.ob, .cells y1.cs 111 y1.fz) :: M3) _
      refine Zv ?_
      refine Zd (l := [0, 1, 2]) rfl ?_
      refine Za rfl rfl rfl rfl (Zc rfl rfl) ?_
      refine Za rfl rfl rfl rfl ((Xe rfl rfl rfl).int (Zw (by omega))) ?_
      refine Za rfl rfl rfl rfl (Zk rfl rfl) ?_
      refine Zg ?_
      refine Xj (L1 := [_, _, _, _, _, _, _]) ?_ [0, 0, 0, 0, 0, 0, 0] ?bhl10 (ih2 (k + 1, y1, shs ++ [d_], ?M1) ?_ ?_)
      case bhl10 => (dsimp only; refine ⟨(_), [], rfl, ?_⟩; exact perm_all _)
      · (refine (And.intro ?_ (And.intro ?_ (And.intro ?_ (And.intro ?_ (And.intro ?_ (And.intro ?_ (And.intro ?_ (And.intro ?_ (And.intro ?_ trivial))))))))) <;> first | rfl | exact Zl (by omega) | exact Zl (by simp))
      · exact ⟨by omega, by simp [hsl], hd1, oks_nx hokd hd3, at_snoc hsl hat ⟨g, sy, hg, hsy, hdg, hd2⟩, sub_or hMd (fun z hz => by simp [hd5 z hz]) (fun z hz => (hd4 z hz).imp (fun h => by simp [h]) id), fun z hz => by simp [hd5 z (hMM z hz)]⟩
      · (first | omega | (dsimp only; omega))
     case main12 =>
      refine Zi 0 rfl rfl rfl rfl (by kernel_rfl) (fun _ _ => Zb (fo := 3) rfl Try.underlying106 rfl i_104 rfl rfl rfl) ?_
      refine Zi 2 rfl rfl rfl rfl (by kernel_rfl) (fun _ _ => Zc rfl rfl) ?_
      refine Zi 3 rfl rfl rfl rfl (by kernel_rfl) (fun _ _ => Zb (fo := 3) rfl Try.underlying103 rfl i_100 rfl rfl rfl) ?_
      refine Zi 4 rfl rfl rfl rfl (by kernel_rfl) (fun _ _ => Zj rfl rfl (List.mem_append_right _ (Zf 0 rfl)) rfl Try.underlying100 rfl) ?_
      rw [ps_]
      refine Zi 5 rfl rfl rfl rfl (by kernel_rfl) (fun _ _ => Zc rfl rfl) ?_
      refine Zi 6 rfl rfl rfl rfl (by kernel_rfl) (fun _ _ => Zo (s := 1) rfl Try.underlying100 i_109 rfl rfl rfl rfl (by omega)) ?_
      refine Zi 7 rfl rfl rfl rfl (by kernel_rfl) (fun _ _ => Zj rfl rfl (by rw [← Xc qs_]; exact List.mem_append_left _ (in_po (List.mem_of_getElem? hp) (by unfold kPo; simp))) (Zt (Xr sss shC_len hsy 0 (by omega) rfl)) Try.underlying109 rfl) ?_
      refine Zi 8 rfl rfl rfl rfl (by kernel_rfl) (fun _ _ => Zc rfl rfl) ?_
      refine Zi 10 rfl rfl rfl rfl (by kernel_rfl) (fun _ _ => Zb (fo := 4) rfl Try.underlying103 rfl i_101 rfl rfl rfl) ?_
      refine Zi 11 rfl rfl rfl rfl (by kernel_rfl) (fun _ _ => Zj rfl rfl (List.mem_append_right _ (Zf 0 rfl)) rfl Try.underlying101 rfl) ?_
      rw [pg_]
      refine Zi 12 rfl rfl rfl rfl (by kernel_rfl) (fun _ _ => Zc rfl rfl) ?_
      refine Zi 13 rfl rfl rfl rfl (by kernel_rfl) (fun _ _ => Zo (s := 1) rfl Try.underlying101 i_4 rfl rfl rfl rfl (by omega)) ?_
      refine Zi 14 rfl rfl rfl rfl (by kernel_rfl) (fun _ _ => Zj rfl rfl (by rw [← Xc qg_]; exact List.mem_append_left _ (in_po (List.mem_of_getElem? hp) (by unfold kPo; simp))) (Zt (Xr ssg bC_len hg 0 (by omega) rfl)) Try.underlying4 rfl) ?_
      refine GH_all [1, 9] (by kernel_rfl) (by decide) ?_
      refine (And.intro ?_ (And.intro ?_ trivial))
      ·
       refine Xo rfl rfl rfl rfl (Zj rfl rfl (List.mem_append_right _ (Zf 5 rfl)) rfl Try.underlying104 rfl) ?_
       refine GH_all [9] (by kernel_rfl) (by decide) ?_
       refine (And.intro ?_ trivial)
       ·
        refine GHop_callMT (L2 := (_ :: _ :: _ :: _ :: _ :: _ :: _ :: _)) rfl rfl rfl rfl rfl rfl Try.call45 (bk_shares sy hsyo.1 hsyo.2 q) [] rfl (fun z hz => List.mem_append_left _ (in_po (List.mem_of_getElem? hp) (List.mem_cons_of_mem _ (List.mem_cons_of_mem _ (List.mem_cons_of_mem _ (List.mem_flatMap.2 ⟨sy, List.mem_of_getElem? hsy, hz⟩)))))) [4] rfl ?_
        rintro v M0 ⟨s2, _, hs2, hoks2, hv2, hM2, rfl, rfl⟩
        refine GH_perm (perm_in [] [_, _, _, _, _, _, _] _ _) ?_
        show GH _ _ _ _ _ _ _ (_ :: _ :: _ :: _ :: _ :: _ :: _ :: _) _
        refine Zi 15 rfl rfl rfl rfl (by kernel_rfl) (fun _ _ => Xw (cs := [_, _, _]) rfl Try.underlying111 i_111 rfl p_111 rfl rfl rfl) ?_
        refine GH_all [16] (by kernel_rfl) (by decide) ?_
        refine (And.intro ?_ trivial)
        ·
         refine Yl rfl rfl rfl rfl (Zn (s := 3) (cs := [_, _, _]) rfl Try.underlying104 i_111 rfl rfl rfl rfl rfl rfl rfl rfl rfl) [5] (fun _ => ⟨_, rfl⟩) (fun b90 => ?_)
         refine GH_all [17] (by kernel_rfl) (by decide) ?_
         refine (And.intro ?_ trivial)
         ·
          refine Yq (l1 := [_, _, _, _, _, _, _]) (s := v) (nn := k) (m := 1) (news := (cDs (⟨q, s2, g⟩ : Ds))) (bt := 40) rfl rfl rfl rfl Try.underlying104 Try.underlying104 (by first | exact .inl rfl | exact .inr ⟨_, rfl⟩) i_111 rfl rfl rfl rfl rfl rfl hv rfl (Yg (List.mem_append_right _ (Zf 0 rfl)) rfl rfl (by simp [cDs, Value.oneCell'])) (by omega) (by omega) [5] (fun _ => ⟨_, rfl⟩) ?_
          intro v1 hv1 _
          show GH _ _ _ _ _ _ _ (_ :: _ :: _ :: _ :: _ :: _ :: _ :: _ :: _) _
          refine Zi 18 rfl rfl rfl rfl (by kernel_rfl) (fun _ _ => Zb (fo := 3) rfl Try.underlying106 rfl i_104 rfl rfl rfl) ?_
          refine GH_all [19] (by kernel_rfl) (by decide) ?_
          refine (And.intro ?_ trivial)
          ·
           refine Xk (l1 := [_, _, _, _, _, _]) (L' := (_ :: _ :: _ :: _ :: _ :: _ :: _ :: _ :: _)) rfl rfl rfl rfl (Zm rfl rfl rfl (Zf 6 rfl) (by first | exact of_decide_eq_true rfl | omega | (simp [cOp, cWk, cIv, cHr, cLt, cWt, cIt, cFl, cTn, cCl, cPo, cSt, cDt, cDs, Sl.v, zIns, insV, cDp, cDst]; done) | (simp [cOp, cWk, cIv, cHr, cLt, cWt, cIt, cFl, cTn, cCl, cPo, cSt, cDt, cDs, Sl.v, zIns, insV, cDp, cDst]; omega) | (simp [cOp, cWk, cIv, cHr, cLt, cWt, cIt, cFl, cTn, cCl, cPo, cSt, cDt, cDs, Sl.v, zIns, insV, cDp, cDst] at *; omega)) i_104 rfl rfl) rfl [5] rfl ?_
           refine Ya (by kernel_rfl) ?_
           exact Xj (L1 := [_, _, _, _, _, _, _]) (by exact (And.intro rfl (And.intro rfl (And.intro rfl (And.intro rfl (And.intro rfl (And.intro rfl (And.intro rfl (And.intro rfl (And.intro rfl trivial)))))))))) [1, 1, 1, 1, 1, 1, 1] (by exact ⟨_, _, rfl, List.perm_append_comm (l₁ := [_])⟩) (jn12 ⟨(v1, (⟨q, s2, g⟩ : Ds), M0 ++ M2), by rw [List.flatMap_append, List.flatMap_singleton]; exact hv1, hv2, ⟨hs2, hoks2⟩, rfl, fun z hz => (hM2 z hz).elim (fun h => .inl (List.mem_append_left _ h)) (fun h => .inr (in_po (List.mem_of_getElem? hp) (List.mem_cons_of_mem _ (List.mem_cons_of_mem _ (List.mem_cons_of_mem _ (List.mem_flatMap.2 ⟨sy, List.mem_of_getElem? hsy, List.mem_cons_of_mem _ h⟩)))))), fun z hz => List.mem_append_right _ hz⟩)
      ·
       refine GHop_callMT (L2 := (_ :: _ :: _ :: _ :: _ :: _ :: _ :: _)) rfl rfl rfl rfl rfl rfl Try.call45 (bk_shares sy hsyo.1 hsyo.2 q) [] rfl (fun z hz => List.mem_append_left _ (in_po (List.mem_of_getElem? hp) (List.mem_cons_of_mem _ (List.mem_cons_of_mem _ (List.mem_cons_of_mem _ (List.mem_flatMap.2 ⟨sy, List.mem_of_getElem? hsy, hz⟩)))))) [4] rfl ?_
       rintro v M0 ⟨s2, _, hs2, hoks2, hv2, hM2, rfl, rfl⟩
       refine GH_perm (perm_in [] [_, _, _, _, _, _, _] _ _) ?_
       show GH _ _ _ _ _ _ _ (_ :: _ :: _ :: _ :: _ :: _ :: _ :: _) _
       refine Zi 15 rfl rfl rfl rfl (by kernel_rfl) (fun _ _ => Xw (cs := [_, _, _]) rfl Try.underlying111 i_111 rfl p_111 rfl rfl rfl) ?_
       refine GH_all [1, 16] (by kernel_rfl) (by decide) ?_
       refine (And.intro ?_ (And.intro ?_ trivial))
       ·
        refine Xo rfl rfl rfl rfl (Zj rfl rfl (List.mem_append_right _ (Zf 5 rfl)) rfl Try.underlying104 rfl) ?_
        refine GH_all [16] (by kernel_rfl) (by decide) ?_
        refine (And.intro ?_ trivial)
        ·
         refine Yl rfl rfl rfl rfl (Zn (s := 3) (cs := [_, _, _]) rfl Try.underlying104 i_111 rfl rfl rfl rfl rfl rfl rfl rfl rfl) [5] (fun _ => ⟨_, rfl⟩) (fun b90 => ?_)
         refine GH_all [17] (by kernel_rfl) (by decide) ?_
         refine (And.intro ?_ trivial)
         ·
          refine Yq (l1 := [_, _, _, _, _, _, _]) (s := v) (nn := k) (m := 1) (news := (cDs (⟨q, s2, g⟩ : Ds))) (bt := 40) rfl rfl rfl rfl Try.underlying104 Try.underlying104 (by first | exact .inl rfl | exact .inr ⟨_, rfl⟩) i_111 rfl rfl rfl rfl rfl rfl hv rfl (Yg (List.mem_append_right _ (Zf 0 rfl)) rfl rfl (by simp [cDs, Value.oneCell'])) (by omega) (by omega) [5] (fun _ => ⟨_, rfl⟩) ?_
          intro v1 hv1 _
          show GH _ _ _ _ _ _ _ (_ :: _ :: _ :: _ :: _ :: _ :: _ :: _ :: _) _
          refine Zi 18 rfl rfl rfl rfl (by kernel_rfl) (fun _ _ => Zb (fo := 3) rfl Try.underlying106 rfl i_104 rfl rfl rfl) ?_
          refine GH_all [19] (by kernel_rfl) (by decide) ?_
          refine (And.intro ?_ trivial)
          ·
           refine Xk (l1 := [_, _, _, _, _, _]) (L' := (_ :: _ :: _ :: _ :: _ :: _ :: _ :: _ :: _)) rfl rfl rfl rfl (Zm rfl rfl rfl (Zf 6 rfl) (by first | exact of_decide_eq_true rfl | omega | (simp [cOp, cWk, cIv, cHr, cLt, cWt, cIt, cFl, cTn, cCl, cPo, cSt, cDt, cDs, Sl.v, zIns, insV, cDp, cDst]; done) | (simp [cOp, cWk, cIv, cHr, cLt, cWt, cIt, cFl, cTn, cCl, cPo, cSt, cDt, cDs, Sl.v, zIns, insV, cDp, cDst]; omega) | (simp [cOp, cWk, cIv, cHr, cLt, cWt, cIt, cFl, cTn, cCl, cPo, cSt, cDt, cDs, Sl.v, zIns, insV, cDp, cDst] at *; omega)) i_104 rfl rfl) rfl [5] rfl ?_
           refine Ya (by kernel_rfl) ?_
           exact Xj (L1 := [_, _, _, _, _, _, _]) (by exact (And.intro rfl (And.intro rfl (And.intro rfl (And.intro rfl (And.intro rfl (And.intro rfl (And.intro rfl (And.intro rfl (And.intro rfl trivial)))))))))) [1, 1, 1, 1, 1, 1, 1] (by exact ⟨_, _, rfl, List.perm_append_comm (l₁ := [_])⟩) (jn12 ⟨(v1, (⟨q, s2, g⟩ : Ds), M0 ++ M2), by rw [List.flatMap_append, List.flatMap_singleton]; exact hv1, hv2, ⟨hs2, hoks2⟩, rfl, fun z hz => (hM2 z hz).elim (fun h => .inl (List.mem_append_left _ h)) (fun h => .inr (in_po (List.mem_of_getElem? hp) (List.mem_cons_of_mem _ (List.mem_cons_of_mem _ (List.mem_cons_of_mem _ (List.mem_flatMap.2 ⟨sy, List.mem_of_getElem? hsy, List.mem_cons_of_mem _ h⟩)))))), fun z hz => List.mem_append_right _ hz⟩)
       ·
        refine Yl rfl rfl rfl rfl (Zn (s := 3) (cs := [_, _, _]) rfl Try.underlying104 i_111 rfl rfl rfl rfl rfl rfl rfl rfl rfl) [5] (fun _ => ⟨_, rfl⟩) (fun b90 => ?_)
        refine GH_all [1] (by kernel_rfl) (by decide) ?_
        refine (And.intro ?_ trivial)
        ·
         refine Xo rfl rfl rfl rfl (Zj rfl rfl (List.mem_append_right _ (Zf 6 rfl)) rfl Try.underlying104 rfl) ?_
         refine GH_all [17] (by kernel_rfl) (by decide) ?_
         refine (And.intro ?_ trivial)
         ·
          refine Yq (l1 := [_, _, _, _, _, _, _]) (s := v) (nn := k) (m := 1) (news := (cDs (⟨q, s2, g⟩ : Ds))) (bt := 40) rfl rfl rfl rfl Try.underlying104 Try.underlying104 (by first | exact .inl rfl | exact .inr ⟨_, rfl⟩) i_111 rfl rfl rfl rfl rfl rfl hv rfl (Yg (List.mem_append_right _ (Zf 0 rfl)) rfl rfl (by simp [cDs, Value.oneCell'])) (by omega) (by omega) [5] (fun _ => ⟨_, rfl⟩) ?_
          intro v1 hv1 _
          show GH _ _ _ _ _ _ _ (_ :: _ :: _ :: _ :: _ :: _ :: _ :: _ :: _) _
          refine Zi 18 rfl rfl rfl rfl (by kernel_rfl) (fun _ _ => Zb (fo := 3) rfl Try.underlying106 rfl i_104 rfl rfl rfl) ?_
          refine GH_all [19] (by kernel_rfl) (by decide) ?_
          refine (And.intro ?_ trivial)
          ·
           refine Xk (l1 := [_, _, _, _, _, _]) (L' := (_ :: _ :: _ :: _ :: _ :: _ :: _ :: _ :: _)) rfl rfl rfl rfl (Zm rfl rfl rfl (Zf 6 rfl) (by first | exact of_decide_eq_true rfl | omega | (simp [cOp, cWk, cIv, cHr, cLt, cWt, cIt, cFl, cTn, cCl, cPo, cSt, cDt, cDs, Sl.v, zIns, insV, cDp, cDst]; done) | (simp [cOp, cWk, cIv, cHr, cLt, cWt, cIt, cFl, cTn, cCl, cPo, cSt, cDt, cDs, Sl.v, zIns, insV, cDp, cDst]; omega) | (simp [cOp, cWk, cIv, cHr, cLt, cWt, cIt, cFl, cTn, cCl, cPo, cSt, cDt, cDs, Sl.v, zIns, insV, cDp, cDst] at *; omega)) i_104 rfl rfl) rfl [5] rfl ?_
           refine Ya (by kernel_rfl) ?_
           exact Xj (L1 := [_, _, _, _, _, _, _]) (by exact (And.intro rfl (And.intro rfl (And.intro rfl (And.intro rfl (And.intro rfl (And.intro rfl (And.intro rfl (And.intro rfl (And.intro rfl trivial)))))))))) [1, 1, 1, 1, 1, 1, 1] (by exact ⟨_, _, rfl, List.perm_append_comm (l₁ := [_])⟩) (jn12 ⟨(v1, (⟨q, s2, g⟩ : Ds), M0 ++ M2), by rw [List.flatMap_append, List.flatMap_singleton]; exact hv1, hv2, ⟨hs2, hoks2⟩, rfl, fun z hz => (hM2 z hz).elim (fun h => .inl (List.mem_append_left _ h)) (fun h => .inr (in_po (List.mem_of_getElem? hp) (List.mem_cons_of_mem _ (List.mem_cons_of_mem _ (List.mem_cons_of_mem _ (List.mem_flatMap.2 ⟨sy, List.mem_of_getElem? hsy, List.mem_cons_of_mem _ h⟩)))))), fun z hz => List.mem_append_right _ hz⟩)
    refine Yr rfl ?_
    obtain rfl : k = p.sh.l.length := by omega
    rw [show #[.string (bs p.n), .int .i64 p.u, .slice p.sv.p p.sv.l.length p.sv.cap, v.v p.sh.l.length] = (cDp (⟨p.n, p.u, p.sv, insOf v 111 shs⟩ : Dp)).toArray by simp [cDp, insOf, Sl.v, hsl]]
    refine Zd (l := [0, 1, 2, 3, 4, 5, 6]) rfl ?_
    refine Za rfl rfl rfl rfl (Zb (fo := 11) rfl Try.underlying38 rfl i_36 rfl rfl rfl) ?_
    refine Za rfl rfl rfl rfl (Zj rfl rfl (List.mem_append_right _ (Zf 2 rfl)) rfl Try.underlying36 rfl) ?_
    refine Za rfl rfl rfl rfl (V_loadW (s := 4) rfl rfl (List.mem_append_right _ (Zf 5 rfl)) Try.underlying106 rfl i_106 rfl (by rfl)) ?_
    refine Yw rfl rfl rfl rfl (Zn (s := 4) (cs := [_, _, _, _]) rfl Try.underlying36 i_106 rfl rfl rfl rfl rfl rfl rfl rfl rfl) (fun b96 => ?_)
    refine G_append (l1 := [_, _, _, _]) (s := u) (nn := ms.length) (m := 1) (news := (cDp (⟨p.n, p.u, p.sv, insOf v 111 shs⟩ : Dp))) (bt := 72) rfl rfl rfl rfl Try.underlying36 Try.underlying36 (by first | exact .inl rfl | exact .inr ⟨_, rfl⟩) i_106 rfl rfl rfl rfl rfl rfl (by rw [hml]; exact hu) rfl (Yg (List.mem_append_right _ (Zf 0 rfl)) rfl rfl (by simp [cDp, insOf, Value.oneCell'])) (by omega) (by omega) ?_
    intro u1 hu1 _
    show G _ _ _ (_ :: _ :: _ :: _ :: _ :: _ :: _ :: _ :: _) _
    refine Za rfl rfl rfl rfl (Zb (fo := 11) rfl Try.underlying38 rfl i_36 rfl rfl rfl) ?_
    refine Yj (l1 := [_, _, _]) (L' := (_ :: _ :: _ :: _ :: _ :: _ :: _ :: _ :: _)) rfl rfl rfl rfl (Zm rfl rfl rfl (Zf 3 rfl) (by first | exact of_decide_eq_true rfl | omega | (simp [cOp, cWk, cIv, cHr, cLt, cWt, cIt, cFl, cTn, cCl, cPo, cSt, cDt, cDs, Sl.v, zIns, insV, cDp, cDst]; done) | (simp [cOp, cWk, cIv, cHr, cLt, cWt, cIt, cFl, cTn, cCl, cPo, cSt, cDt, cDs, Sl.v, zIns, insV, cDp, cDst]; omega) | (simp [cOp, cWk, cIv, cHr, cLt, cWt, cIt, cFl, cTn, cCl, cPo, cSt, cDt, cDs, Sl.v, zIns, insV, cDp, cDst] at *; omega)) i_36 rfl rfl) rfl ?_
    rw [dst_set11 (T := 106) (ms := ms ++ [(⟨p.n, p.u, p.sv, insOf v 111 shs⟩ : Dp)]) (by simp)]
    refine Zg ?_
    refine Zv ?_
    refine Zd (l := [0, 1, 2]) rfl ?_
    refine Za rfl rfl rfl rfl (Zc rfl rfl) ?_
    refine Za rfl rfl rfl rfl ((Xe rfl rfl rfl).int (Zw (by omega))) ?_
    refine Za rfl rfl rfl rfl (Zk rfl rfl) ?_
    refine Zg ?_
    refine Xj (L1 := [_, _, _, _]) ?_ [1, 1, 1, 1] ?bhl3 (ih (i + 1, u1, ms ++ [(⟨p.n, p.u, p.sv, insOf v 111 shs⟩ : Dp)], ?M2) ?_ ?_)
    case bhl3 => (dsimp only; refine ⟨(_ :: _ :: _ :: _ :: _), [], rfl, ?_⟩; exact perm_all _)
    · (refine (And.intro ?_ (And.intro ?_ (And.intro ?_ (And.intro ?_ (And.intro ?_ (And.intro ?_ trivial)))))) <;> first | rfl | exact Zl (by omega) | exact Zl (by simp))
    · exact ⟨by omega, by simp [hml], by rw [List.flatMap_append, List.flatMap_singleton]; rw [hml] at hu1; exact hu1, oks_nx hoks ⟨hpo.1, Yh (by rw [hsl]; exact hv) (by omega), hokd⟩, map_next hv_ hp (po_same hpe rfl rfl rfl hsl hat), sub_or hM (fun z hz => by simp [hMM z hz]) (fun z hz => (List.mem_cons.1 hz).elim (fun h => .inr (h ▸ in_po (List.mem_of_getElem? hp) (by unfold kPo; simp))) (fun h => (List.mem_cons.1 h).elim (fun h => .inl (by rw [insOf_k] at h; simp [h])) (fun h => (hMd z h).imp (fun h => by simp [h]) id)))⟩
    · (first | omega | (dsimp only; omega))
  refine Yr rfl ?_
  refine Zh ?_
  refine Zd (l := [0, 1, 2]) rfl ?_
  refine Za rfl rfl rfl rfl (V_loadW (s := 15) rfl rfl (List.mem_append_right _ (Zf 2 rfl)) Try.underlying38 rfl i_38 rfl (by rfl)) ?_
  refine Yj (l1 := [_]) (L' := (_ :: _ :: _ :: _ :: _)) rfl rfl rfl rfl (Yv (s := 15) rfl rfl rfl (Zf 1 rfl) (by rfl) i_38 rfl (by rfl) (by simp [Value.oneCell', cOp, cWk, cIv, cHr, cLt, cWt, cIt, cFl, cTn, cCl, cPo, cSt, cDt, cDs, Sl.v, zIns, insV, cDp, cDst])) rfl ?_
  refine Za rfl rfl rfl rfl (Zk rfl rfl) ?_
  refine Zg ?_
  refine G_retT (p1 := [_]) (T := _) Try.func11 rfl (Zy (RV_cell (s := 15) rfl (List.mem_append_right _ (Zf 1 rfl)) Try.underlying38 rfl i_38 rfl (by rfl)) (Zy (Yt rfl) Zp)) [3] ⟨_, _, rfl, List.perm_append_comm (l₁ := [_, _, _])⟩ ?_
  dsimp only [packed]
  obtain rfl : i = x.po.l.length := by omega
  rw [List.take_length] at hv_
  exact ⟨(⟨x.v0, x.g, x.v2, x.v3, x.v4, x.v5, x.v6, x.li, x.en, x.wo, x.iv, insOf u 106 ms, x.hi, x.le, x.wa⟩ : Dst), _, ⟨hx.li, hx.en, hx.wo, hx.iv, Yh (by rw [hml]; exact hu) (by omega), hx.hi, hx.le, hx.wa, hoks⟩, dst_sub2 (sub_or_hd hM), by unfold vDst vSt; rw [show (insOf u 106 ms).l = ms from rfl, hv_], rfl, rfl⟩

end
end Go.Proofs.Ytjnaeoelnmhjfaa

set_option linter.unusedSimpArgs false
set_option linter.unusedVariables false
namespace Go.Proofs.Ytjnaeoelnmhjfaa
open Go Go.RowKit

section
theorem map_at {α β γ : Type} {f : α → γ} {g : β → γ} {l : List α} {m : List β} (h : l.map f = m.map g) {i : Nat} {x : α} {y : β} (hx : l[i]? = some x) (hy : m[i]? = some y) : f x = g y := by
  have h1 := congrArg (fun z => z[i]?) h
  simp only [List.getElem?_map, hx, hy, Option.map_some, Option.some.injEq] at h1
  exact h1
theorem in_a1 {α : Type} {K : α → List HBk} {l1 l2 : List α} {a b : HBk} {i : Nat} {y : α} {z : HBk} (hy : l1[i]? = some y) (hz : z ∈ K y) : z ∈ a :: b :: (l1.flatMap K ++ l2.flatMap K) := List.mem_cons_of_mem _ (List.mem_cons_of_mem _ (List.mem_append_left _ (List.mem_flatMap.2 ⟨y, List.mem_of_getElem? hy, hz⟩)))
theorem in_a2 {α : Type} {K : α → List HBk} {l1 l2 : List α} {a b : HBk} {i : Nat} {y : α} {z : HBk} (hy : l2[i]? = some y) (hz : z ∈ K y) : z ∈ a :: b :: (l1.flatMap K ++ l2.flatMap K) := List.mem_cons_of_mem _ (List.mem_cons_of_mem _ (List.mem_append_right _ (List.mem_flatMap.2 ⟨y, List.mem_of_getElem? hy, hz⟩)))
theorem sub_2 {S1 S2 A : List HBk} {a b : HBk} (h1 : ∀ z ∈ a :: S1, z ∈ A) (h2 : ∀ z ∈ b :: S2, z ∈ A) : ∀ z ∈ a :: b :: (S1 ++ S2), z ∈ A := by
  intro z hz
  simp only [List.mem_cons, List.mem_append] at hz
  rcases hz with rfl | rfl | hz | hz
  · exact h1 _ List.mem_cons_self
  · exact h2 _ List.mem_cons_self
  · exact h1 _ (List.mem_cons_of_mem _ hz)
  · exact h2 _ (List.mem_cons_of_mem _ hz)

set_option maxRecDepth 100000 in
set_option maxHeartbeats 1000000 in
theorem rs_It (s1 s2 : Ins It) (hs1 : InsOk 2 cIt s1) (hs2 : InsOk 2 cIt s2) (he : s1.l = s2.l) (hg : ∀ x ∈ s1.l, GIt x) :
    Ct Try.prog 164 [.slice s1.p s1.l.length s1.cap, .slice s2.p s2.l.length s2.cap] [insK s1, insK s2] [] fun v post => v = .bool true ∧ post = [] := by
 have hl1 := hs1.le
 have hl2 := hs1.max
 have hl3 := hs2.le
 have hl4 := hs2.max
 have hln := congrArg List.length he
 refine Yu Try.func164 rfl rfl (fun w0 => ?_)
 show G _ _ [(0, _), (1, _)] _ _
 refine Zh ?_
 refine Zd (l := [0]) rfl ?_
 refine Za rfl rfl rfl rfl (Zk rfl rfl) ?_
 refine Zg ?_
 refine Zh ?_
 refine Zh ?_
 refine Zd (l := [0, 1, 2, 3, 4]) rfl ?_
 refine Za rfl rfl rfl rfl (Zc rfl rfl) ?_
 refine Za rfl rfl rfl rfl (Yp rfl rfl Try.underlying215 rfl) ?_
 refine Za rfl rfl rfl rfl (Zc rfl rfl) ?_
 refine Za rfl rfl rfl rfl (Yp rfl rfl Try.underlying215 rfl) ?_
 refine Za rfl rfl rfl rfl (V_neq rfl rfl rfl) ?_
 refine Zg ?_
 refine Yk rfl (fun hc1 => ?_) (fun hc1 => ?_)
 · (first | contradiction | (exact absurd rfl hc1) | (exfalso; omega))
 refine Zu ?_
 refine Zh ?_
 refine Zh ?_
 refine Zd (l := [0]) rfl ?_
 refine Za rfl rfl rfl rfl (Zk rfl rfl) ?_
 refine Zg ?_
 refine Zs ?_
 refine Yi ?he4 [] ?hl4 (Xb (X := Nat) (fun i => i ≤ s1.l.length) (fun i => s1.l.length - i) (fun i => [(0, .slice s1.p s1.l.length s1.cap), (1, .slice s2.p s2.l.length s2.cap), (5, .int .i64 (i : Int))]) (fun i => []) ?round4 0 ?h04)
 case he4 => exact (And.intro rfl (And.intro rfl (And.intro rfl trivial)))
 case hl4 => exact ⟨_, rfl⟩
 case h04 => exact Nat.zero_le _
 case round4 =>
  intro i hJ ih
  try dsimp only at hJ ih
  refine Zh ?_
  refine Zh ?_
  refine Zd (l := [0, 1, 2, 3]) rfl ?_
  refine Za rfl rfl rfl rfl (Zc rfl rfl) ?_
  refine Za rfl rfl rfl rfl (Zc rfl rfl) ?_
  refine Za rfl rfl rfl rfl (Yp rfl rfl Try.underlying215 rfl) ?_
  refine Za rfl rfl rfl rfl (Xn rfl rfl rfl) ?_
  refine Zg ?_
  refine Yk rfl (fun hc2 => ?_) (fun hc2 => ?_)
  ·
   refine Zu ?_
   refine Zh ?_
   refine Zs ?_
   refine Zh ?_
   obtain ⟨y, hy⟩ := getI (show i < s1.l.length by omega)
   obtain ⟨y2, hy2⟩ := getI (show i < s2.l.length by omega)
   obtain ⟨c1, p1, q1, ss1⟩ := hs1.isS (i := i) (by omega)
   obtain ⟨c2, p2, q2, ss2⟩ := hs2.isS (i := i) (by omega)
   rw [p1, p2]
   have hyy : y2 = y := by rw [he, hy2] at hy; exact Option.some.inj hy
   subst hyy
   obtain ⟨lx, hlx⟩ := key_It (hg y2 (List.mem_of_getElem? hy))
   refine G_draw Yo (by kernel_rfl) ?_
   refine Zr rfl rfl rfl rfl (Zc rfl rfl) ?_
   refine Zr rfl rfl rfl rfl (Zc rfl rfl) ?_
   refine Zr rfl rfl rfl rfl (Zo (s := 2) rfl Try.underlying215 i_262 rfl rfl rfl rfl (by omega)) ?_
   refine Zr rfl rfl rfl rfl (Xp (s := 2) (vs := (cIt y2).toArray) rfl rfl (by rw [← Xc q1]; exact Zf 0 rfl) Try.underlying262 rfl i_262 rfl (ss1.elem cIt_len hy) (by rfl)) ?_
   refine Zr rfl rfl rfl rfl (Zc rfl rfl) ?_
   refine Zr rfl rfl rfl rfl (Zc rfl rfl) ?_
   refine Zr rfl rfl rfl rfl (Zo (s := 2) rfl Try.underlying215 i_262 rfl rfl rfl rfl (by omega)) ?_
   refine Zr rfl rfl rfl rfl (Xp (s := 2) (vs := (cIt y2).toArray) rfl rfl (by rw [← Xc q2]; exact Zf 1 rfl) Try.underlying262 rfl i_262 rfl (ss2.elem cIt_len hy2) (by rfl)) ?_
   refine Zr rfl rfl rfl rfl (V_aggneq (m := 6) rfl Try.eqGuardType262 (by kernel_rfl) (by decide) (formed_of Try.underlying262 rfl (by kernel_rfl : Try.prog.cellsOf 262 = 2) (by rfl)) (formed_of Try.underlying262 rfl (by kernel_rfl : Try.prog.cellsOf 262 = 2) (by rfl)) rfl rfl hlx hlx) ?_
   refine GQ_done rfl ?_
   refine Yk rfl (fun hc3 => ?_) (fun hc3 => ?_)
   · (first | contradiction | (exact absurd rfl hc3) | (exfalso; omega))
   refine Zu ?_
   refine Zv ?_
   refine Zd (l := [0, 1, 2]) rfl ?_
   refine Za rfl rfl rfl rfl (Zc rfl rfl) ?_
   refine Za rfl rfl rfl rfl ((Xe rfl rfl rfl).int (Zw (by omega))) ?_
   refine Za rfl rfl rfl rfl (Zk rfl rfl) ?_
   refine Zg ?_
   refine Yi ?_ [] ?_ (ih (i + 1) ?_ ?_)
   · (refine (And.intro ?_ (And.intro ?_ (And.intro ?_ trivial))) <;> first | rfl | exact Zl (by omega) | (rw [p1]; rfl) | (rw [p2]; rfl))
   · exact ⟨_, rfl⟩
   · omega
   · (first | omega | (dsimp only; omega))
  refine Yr rfl ?_
  refine Zh ?_
  refine Zd (l := [0]) rfl ?_
  refine Za rfl rfl rfl rfl (Zk rfl rfl) ?_
  refine Zg ?_
  refine Yy (post := []) Try.func164 rfl (Zy (Yt rfl) Zp) [] rfl ?_
  dsimp only [packed]
  exact ⟨rfl, rfl⟩

set_option maxRecDepth 100000 in
set_option maxHeartbeats 1000000 in
theorem rs_Op (s1 s2 : Ins Op) (hs1 : InsOk 18 cOp s1) (hs2 : InsOk 18 cOp s2) (he : s1.l = s2.l) (hg : ∀ x ∈ s1.l, GOp x) :
    Ct Try.prog 46 [.slice s1.p s1.l.length s1.cap, .slice s2.p s2.l.length s2.cap] [insK s1, insK s2] [] fun v post => v = .bool true ∧ post = [] := by
 have hl1 := hs1.le
 have hl2 := hs1.max
 have hl3 := hs2.le
 have hl4 := hs2.max
 have hln := congrArg List.length he
 refine Yu Try.func46 rfl rfl (fun w0 => ?_)
 show G _ _ [(0, _), (1, _)] _ _
 refine Zh ?_
 refine Zd (l := [0]) rfl ?_
 refine Za rfl rfl rfl rfl (Zk rfl rfl) ?_
 refine Zg ?_
 refine Zh ?_
 refine Zh ?_
 refine Zd (l := [0, 1, 2, 3, 4]) rfl ?_
 refine Za rfl rfl rfl rfl (Zc rfl rfl) ?_
 refine Za rfl rfl rfl rfl (Yp rfl rfl Try.underlying24 rfl) ?_
 refine Za rfl rfl rfl rfl (Zc rfl rfl) ?_
 refine Za rfl rfl rfl rfl (Yp rfl rfl Try.underlying24 rfl) ?_
 refine Za rfl rfl rfl rfl (V_neq rfl rfl rfl) ?_
 refine Zg ?_
 refine Yk rfl (fun hc1 => ?_) (fun hc1 => ?_)
 · (first | contradiction | (exact absurd rfl hc1) | (exfalso; omega))
 refine Zu ?_
 refine Zh ?_
 refine Zh ?_
 refine Zd (l := [0]) rfl ?_
 refine Za rfl rfl rfl rfl (Zk rfl rfl) ?_
 refine Zg ?_
 refine Zs ?_
 refine Yi ?he4 [] ?hl4 (Xb (X := Nat) (fun i => i ≤ s1.l.length) (fun i => s1.l.length - i) (fun i => [(0, .slice s1.p s1.l.length s1.cap), (1, .slice s2.p s2.l.length s2.cap), (5, .int .i64 (i : Int))]) (fun i => []) ?round4 0 ?h04)
 case he4 => exact (And.intro rfl (And.intro rfl (And.intro rfl trivial)))
 case hl4 => exact ⟨_, rfl⟩
 case h04 => exact Nat.zero_le _
 case round4 =>
  intro i hJ ih
  try dsimp only at hJ ih
  refine Zh ?_
  refine Zh ?_
  refine Zd (l := [0, 1, 2, 3]) rfl ?_
  refine Za rfl rfl rfl rfl (Zc rfl rfl) ?_
  refine Za rfl rfl rfl rfl (Zc rfl rfl) ?_
  refine Za rfl rfl rfl rfl (Yp rfl rfl Try.underlying24 rfl) ?_
  refine Za rfl rfl rfl rfl (Xn rfl rfl rfl) ?_
  refine Zg ?_
  refine Yk rfl (fun hc2 => ?_) (fun hc2 => ?_)
  ·
   refine Zu ?_
   refine Zh ?_
   refine Zs ?_
   refine Zh ?_
   obtain ⟨y, hy⟩ := getI (show i < s1.l.length by omega)
   obtain ⟨y2, hy2⟩ := getI (show i < s2.l.length by omega)
   obtain ⟨c1, p1, q1, ss1⟩ := hs1.isS (i := i) (by omega)
   obtain ⟨c2, p2, q2, ss2⟩ := hs2.isS (i := i) (by omega)
   rw [p1, p2]
   have hyy : y2 = y := by rw [he, hy2] at hy; exact Option.some.inj hy
   subst hyy
   obtain ⟨lx, hlx⟩ := key_Op (hg y2 (List.mem_of_getElem? hy))
   refine G_draw Yo (by kernel_rfl) ?_
   refine Zr rfl rfl rfl rfl (Zc rfl rfl) ?_
   refine Zr rfl rfl rfl rfl (Zc rfl rfl) ?_
   refine Zr rfl rfl rfl rfl (Zo (s := 18) rfl Try.underlying24 i_137 rfl rfl rfl rfl (by omega)) ?_
   refine Zr rfl rfl rfl rfl (Xp (s := 18) (vs := (cOp y2).toArray) rfl rfl (by rw [← Xc q1]; exact Zf 0 rfl) Try.underlying137 rfl i_137 rfl (ss1.elem cOp_len hy) (by rfl)) ?_
   refine Zr rfl rfl rfl rfl (Zc rfl rfl) ?_
   refine Zr rfl rfl rfl rfl (Zc rfl rfl) ?_
   refine Zr rfl rfl rfl rfl (Zo (s := 18) rfl Try.underlying24 i_137 rfl rfl rfl rfl (by omega)) ?_
   refine Zr rfl rfl rfl rfl (Xp (s := 18) (vs := (cOp y2).toArray) rfl rfl (by rw [← Xc q2]; exact Zf 1 rfl) Try.underlying137 rfl i_137 rfl (ss2.elem cOp_len hy2) (by rfl)) ?_
   refine Zr rfl rfl rfl rfl (V_aggneq (m := 6) rfl Try.eqGuardType137 (by kernel_rfl) (by decide) (formed_of Try.underlying137 rfl (by kernel_rfl : Try.prog.cellsOf 137 = 18) (by rfl)) (formed_of Try.underlying137 rfl (by kernel_rfl : Try.prog.cellsOf 137 = 18) (by rfl)) rfl rfl hlx hlx) ?_
   refine GQ_done rfl ?_
   refine Yk rfl (fun hc3 => ?_) (fun hc3 => ?_)
   · (first | contradiction | (exact absurd rfl hc3) | (exfalso; omega))
   refine Zu ?_
   refine Zv ?_
   refine Zd (l := [0, 1, 2]) rfl ?_
   refine Za rfl rfl rfl rfl (Zc rfl rfl) ?_
   refine Za rfl rfl rfl rfl ((Xe rfl rfl rfl).int (Zw (by omega))) ?_
   refine Za rfl rfl rfl rfl (Zk rfl rfl) ?_
   refine Zg ?_
   refine Yi ?_ [] ?_ (ih (i + 1) ?_ ?_)
   · (refine (And.intro ?_ (And.intro ?_ (And.intro ?_ trivial))) <;> first | rfl | exact Zl (by omega) | (rw [p1]; rfl) | (rw [p2]; rfl))
   · exact ⟨_, rfl⟩
   · omega
   · (first | omega | (dsimp only; omega))
  refine Yr rfl ?_
  refine Zh ?_
  refine Zd (l := [0]) rfl ?_
  refine Za rfl rfl rfl rfl (Zk rfl rfl) ?_
  refine Zg ?_
  refine Yy (post := []) Try.func46 rfl (Zy (Yt rfl) Zp) [] rfl ?_
  dsimp only [packed]
  exact ⟨rfl, rfl⟩

set_option maxRecDepth 100000 in
set_option maxHeartbeats 1000000 in
theorem rs_Wk (s1 s2 : Ins Wk) (hs1 : InsOk 7 cWk s1) (hs2 : InsOk 7 cWk s2) (he : s1.l = s2.l) (hg : ∀ x ∈ s1.l, GWk x) :
    Ct Try.prog 47 [.slice s1.p s1.l.length s1.cap, .slice s2.p s2.l.length s2.cap] [insK s1, insK s2] [] fun v post => v = .bool true ∧ post = [] := by
 have hl1 := hs1.le
 have hl2 := hs1.max
 have hl3 := hs2.le
 have hl4 := hs2.max
 have hln := congrArg List.length he
 refine Yu Try.func47 rfl rfl (fun w0 => ?_)
 show G _ _ [(0, _), (1, _)] _ _
 refine Zh ?_
 refine Zd (l := [0]) rfl ?_
 refine Za rfl rfl rfl rfl (Zk rfl rfl) ?_
 refine Zg ?_
 refine Zh ?_
 refine Zh ?_
 refine Zd (l := [0, 1, 2, 3, 4]) rfl ?_
 refine Za rfl rfl rfl rfl (Zc rfl rfl) ?_
 refine Za rfl rfl rfl rfl (Yp rfl rfl Try.underlying25 rfl) ?_
 refine Za rfl rfl rfl rfl (Zc rfl rfl) ?_
 refine Za rfl rfl rfl rfl (Yp rfl rfl Try.underlying25 rfl) ?_
 refine Za rfl rfl rfl rfl (V_neq rfl rfl rfl) ?_
 refine Zg ?_
 refine Yk rfl (fun hc1 => ?_) (fun hc1 => ?_)
 · (first | contradiction | (exact absurd rfl hc1) | (exfalso; omega))
 refine Zu ?_
 refine Zh ?_
 refine Zh ?_
 refine Zd (l := [0]) rfl ?_
 refine Za rfl rfl rfl rfl (Zk rfl rfl) ?_
 refine Zg ?_
 refine Zs ?_
 refine Yi ?he4 [] ?hl4 (Xb (X := Nat) (fun i => i ≤ s1.l.length) (fun i => s1.l.length - i) (fun i => [(0, .slice s1.p s1.l.length s1.cap), (1, .slice s2.p s2.l.length s2.cap), (5, .int .i64 (i : Int))]) (fun i => []) ?round4 0 ?h04)
 case he4 => exact (And.intro rfl (And.intro rfl (And.intro rfl trivial)))
 case hl4 => exact ⟨_, rfl⟩
 case h04 => exact Nat.zero_le _
 case round4 =>
  intro i hJ ih
  try dsimp only at hJ ih
  refine Zh ?_
  refine Zh ?_
  refine Zd (l := [0, 1, 2, 3]) rfl ?_
  refine Za rfl rfl rfl rfl (Zc rfl rfl) ?_
  refine Za rfl rfl rfl rfl (Zc rfl rfl) ?_
  refine Za rfl rfl rfl rfl (Yp rfl rfl Try.underlying25 rfl) ?_
  refine Za rfl rfl rfl rfl (Xn rfl rfl rfl) ?_
  refine Zg ?_
  refine Yk rfl (fun hc2 => ?_) (fun hc2 => ?_)
  ·
   refine Zu ?_
   refine Zh ?_
   refine Zs ?_
   refine Zh ?_
   obtain ⟨y, hy⟩ := getI (show i < s1.l.length by omega)
   obtain ⟨y2, hy2⟩ := getI (show i < s2.l.length by omega)
   obtain ⟨c1, p1, q1, ss1⟩ := hs1.isS (i := i) (by omega)
   obtain ⟨c2, p2, q2, ss2⟩ := hs2.isS (i := i) (by omega)
   rw [p1, p2]
   have hyy : y2 = y := by rw [he, hy2] at hy; exact Option.some.inj hy
   subst hyy
   obtain ⟨lx, hlx⟩ := key_Wk (hg y2 (List.mem_of_getElem? hy))
   refine G_draw Yo (by kernel_rfl) ?_
   refine Zr rfl rfl rfl rfl (Zc rfl rfl) ?_
   refine Zr rfl rfl rfl rfl (Zc rfl rfl) ?_
   refine Zr rfl rfl rfl rfl (Zo (s := 7) rfl Try.underlying25 i_92 rfl rfl rfl rfl (by omega)) ?_
   refine Zr rfl rfl rfl rfl (Xp (s := 7) (vs := (cWk y2).toArray) rfl rfl (by rw [← Xc q1]; exact Zf 0 rfl) Try.underlying92 rfl i_92 rfl (ss1.elem cWk_len hy) (by rfl)) ?_
   refine Zr rfl rfl rfl rfl (Zc rfl rfl) ?_
   refine Zr rfl rfl rfl rfl (Zc rfl rfl) ?_
   refine Zr rfl rfl rfl rfl (Zo (s := 7) rfl Try.underlying25 i_92 rfl rfl rfl rfl (by omega)) ?_
   refine Zr rfl rfl rfl rfl (Xp (s := 7) (vs := (cWk y2).toArray) rfl rfl (by rw [← Xc q2]; exact Zf 1 rfl) Try.underlying92 rfl i_92 rfl (ss2.elem cWk_len hy2) (by rfl)) ?_
   refine Zr rfl rfl rfl rfl (V_aggneq (m := 6) rfl Try.eqGuardType92 (by kernel_rfl) (by decide) (formed_of Try.underlying92 rfl (by kernel_rfl : Try.prog.cellsOf 92 = 7) (by rfl)) (formed_of Try.underlying92 rfl (by kernel_rfl : Try.prog.cellsOf 92 = 7) (by rfl)) rfl rfl hlx hlx) ?_
   refine GQ_done rfl ?_
   refine Yk rfl (fun hc3 => ?_) (fun hc3 => ?_)
   · (first | contradiction | (exact absurd rfl hc3) | (exfalso; omega))
   refine Zu ?_
   refine Zv ?_
   refine Zd (l := [0, 1, 2]) rfl ?_
   refine Za rfl rfl rfl rfl (Zc rfl rfl) ?_
   refine Za rfl rfl rfl rfl ((Xe rfl rfl rfl).int (Zw (by omega))) ?_
   refine Za rfl rfl rfl rfl (Zk rfl rfl) ?_
   refine Zg ?_
   refine Yi ?_ [] ?_ (ih (i + 1) ?_ ?_)
   · (refine (And.intro ?_ (And.intro ?_ (And.intro ?_ trivial))) <;> first | rfl | exact Zl (by omega) | (rw [p1]; rfl) | (rw [p2]; rfl))
   · exact ⟨_, rfl⟩
   · omega
   · (first | omega | (dsimp only; omega))
  refine Yr rfl ?_
  refine Zh ?_
  refine Zd (l := [0]) rfl ?_
  refine Za rfl rfl rfl rfl (Zk rfl rfl) ?_
  refine Zg ?_
  refine Yy (post := []) Try.func47 rfl (Zy (Yt rfl) Zp) [] rfl ?_
  dsimp only [packed]
  exact ⟨rfl, rfl⟩

set_option maxRecDepth 100000 in
set_option maxHeartbeats 1000000 in
theorem rs_Iv (s1 s2 : Ins Iv) (hs1 : InsOk 5 cIv s1) (hs2 : InsOk 5 cIv s2) (he : s1.l = s2.l) (hg : ∀ x ∈ s1.l, GIv x) :
    Ct Try.prog 48 [.slice s1.p s1.l.length s1.cap, .slice s2.p s2.l.length s2.cap] [insK s1, insK s2] [] fun v post => v = .bool true ∧ post = [] := by
 have hl1 := hs1.le
 have hl2 := hs1.max
 have hl3 := hs2.le
 have hl4 := hs2.max
 have hln := congrArg List.length he
 refine Yu Try.func48 rfl rfl (fun w0 => ?_)
 show G _ _ [(0, _), (1, _)] _ _
 refine Zh ?_
 refine Zd (l := [0]) rfl ?_
 refine Za rfl rfl rfl rfl (Zk rfl rfl) ?_
 refine Zg ?_
 refine Zh ?_
 refine Zh ?_
 refine Zd (l := [0, 1, 2, 3, 4]) rfl ?_
 refine Za rfl rfl rfl rfl (Zc rfl rfl) ?_
 refine Za rfl rfl rfl rfl (Yp rfl rfl Try.underlying26 rfl) ?_
 refine Za rfl rfl rfl rfl (Zc rfl rfl) ?_
 refine Za rfl rfl rfl rfl (Yp rfl rfl Try.underlying26 rfl) ?_
 refine Za rfl rfl rfl rfl (V_neq rfl rfl rfl) ?_
 refine Zg ?_
 refine Yk rfl (fun hc1 => ?_) (fun hc1 => ?_)
 · (first | contradiction | (exact absurd rfl hc1) | (exfalso; omega))
 refine Zu ?_
 refine Zh ?_
 refine Zh ?_
 refine Zd (l := [0]) rfl ?_
 refine Za rfl rfl rfl rfl (Zk rfl rfl) ?_
 refine Zg ?_
 refine Zs ?_
 refine Yi ?he4 [] ?hl4 (Xb (X := Nat) (fun i => i ≤ s1.l.length) (fun i => s1.l.length - i) (fun i => [(0, .slice s1.p s1.l.length s1.cap), (1, .slice s2.p s2.l.length s2.cap), (5, .int .i64 (i : Int))]) (fun i => []) ?round4 0 ?h04)
 case he4 => exact (And.intro rfl (And.intro rfl (And.intro rfl trivial)))
 case hl4 => exact ⟨_, rfl⟩
 case h04 => exact Nat.zero_le _
 case round4 =>
  intro i hJ ih
  try dsimp only at hJ ih
  refine Zh ?_
  refine Zh ?_
  refine Zd (l := [0, 1, 2, 3]) rfl ?_
  refine Za rfl rfl rfl rfl (Zc rfl rfl) ?_
  refine Za rfl rfl rfl rfl (Zc rfl rfl) ?_
  refine Za rfl rfl rfl rfl (Yp rfl rfl Try.underlying26 rfl) ?_
  refine Za rfl rfl rfl rfl (Xn rfl rfl rfl) ?_
  refine Zg ?_
  refine Yk rfl (fun hc2 => ?_) (fun hc2 => ?_)
  ·
   refine Zu ?_
   refine Zh ?_
   refine Zs ?_
   refine Zh ?_
   obtain ⟨y, hy⟩ := getI (show i < s1.l.length by omega)
   obtain ⟨y2, hy2⟩ := getI (show i < s2.l.length by omega)
   obtain ⟨c1, p1, q1, ss1⟩ := hs1.isS (i := i) (by omega)
   obtain ⟨c2, p2, q2, ss2⟩ := hs2.isS (i := i) (by omega)
   rw [p1, p2]
   have hyy : y2 = y := by rw [he, hy2] at hy; exact Option.some.inj hy
   subst hyy
   obtain ⟨lx, hlx⟩ := key_Iv (hg y2 (List.mem_of_getElem? hy))
   refine G_draw Yo (by kernel_rfl) ?_
   refine Zr rfl rfl rfl rfl (Zc rfl rfl) ?_
   refine Zr rfl rfl rfl rfl (Zc rfl rfl) ?_
   refine Zr rfl rfl rfl rfl (Zo (s := 5) rfl Try.underlying26 i_95 rfl rfl rfl rfl (by omega)) ?_
   refine Zr rfl rfl rfl rfl (Xp (s := 5) (vs := (cIv y2).toArray) rfl rfl (by rw [← Xc q1]; exact Zf 0 rfl) Try.underlying95 rfl i_95 rfl (ss1.elem cIv_len hy) (by rfl)) ?_
   refine Zr rfl rfl rfl rfl (Zc rfl rfl) ?_
   refine Zr rfl rfl rfl rfl (Zc rfl rfl) ?_
   refine Zr rfl rfl rfl rfl (Zo (s := 5) rfl Try.underlying26 i_95 rfl rfl rfl rfl (by omega)) ?_
   refine Zr rfl rfl rfl rfl (Xp (s := 5) (vs := (cIv y2).toArray) rfl rfl (by rw [← Xc q2]; exact Zf 1 rfl) Try.underlying95 rfl i_95 rfl (ss2.elem cIv_len hy2) (by rfl)) ?_
   refine Zr rfl rfl rfl rfl (V_aggneq (m := 6) rfl Try.eqGuardType95 (by kernel_rfl) (by decide) (formed_of Try.underlying95 rfl (by kernel_rfl : Try.prog.cellsOf 95 = 5) (by rfl)) (formed_of Try.underlying95 rfl (by kernel_rfl : Try.prog.cellsOf 95 = 5) (by rfl)) rfl rfl hlx hlx) ?_
   refine GQ_done rfl ?_
   refine Yk rfl (fun hc3 => ?_) (fun hc3 => ?_)
   · (first | contradiction | (exact absurd rfl hc3) | (exfalso; omega))
   refine Zu ?_
   refine Zv ?_
   refine Zd (l := [0, 1, 2]) rfl ?_
   refine Za rfl rfl rfl rfl (Zc rfl rfl) ?_
   refine Za rfl rfl rfl rfl ((Xe rfl rfl rfl).int (Zw (by omega))) ?_
   refine Za rfl rfl rfl rfl (Zk rfl rfl) ?_
   refine Zg ?_
   refine Yi ?_ [] ?_ (ih (i + 1) ?_ ?_)
   · (refine (And.intro ?_ (And.intro ?_ (And.intro ?_ trivial))) <;> first | rfl | exact Zl (by omega) | (rw [p1]; rfl) | (rw [p2]; rfl))
   · exact ⟨_, rfl⟩
   · omega
   · (first | omega | (dsimp only; omega))
  refine Yr rfl ?_
  refine Zh ?_
  refine Zd (l := [0]) rfl ?_
  refine Za rfl rfl rfl rfl (Zk rfl rfl) ?_
  refine Zg ?_
  refine Yy (post := []) Try.func48 rfl (Zy (Yt rfl) Zp) [] rfl ?_
  dsimp only [packed]
  exact ⟨rfl, rfl⟩

set_option maxRecDepth 100000 in
set_option maxHeartbeats 1000000 in
theorem rs_Hr (s1 s2 : Ins Hr) (hs1 : InsOk 17 cHr s1) (hs2 : InsOk 17 cHr s2) (he : s1.l = s2.l) (hg : ∀ x ∈ s1.l, GHr x) :
    Ct Try.prog 49 [.slice s1.p s1.l.length s1.cap, .slice s2.p s2.l.length s2.cap] [insK s1, insK s2] [] fun v post => v = .bool true ∧ post = [] := by
 have hl1 := hs1.le
 have hl2 := hs1.max
 have hl3 := hs2.le
 have hl4 := hs2.max
 have hln := congrArg List.length he
 refine Yu Try.func49 rfl rfl (fun w0 => ?_)
 show G _ _ [(0, _), (1, _)] _ _
 refine Zh ?_
 refine Zd (l := [0]) rfl ?_
 refine Za rfl rfl rfl rfl (Zk rfl rfl) ?_
 refine Zg ?_
 refine Zh ?_
 refine Zh ?_
 refine Zd (l := [0, 1, 2, 3, 4]) rfl ?_
 refine Za rfl rfl rfl rfl (Zc rfl rfl) ?_
 refine Za rfl rfl rfl rfl (Yp rfl rfl Try.underlying28 rfl) ?_
 refine Za rfl rfl rfl rfl (Zc rfl rfl) ?_
 refine Za rfl rfl rfl rfl (Yp rfl rfl Try.underlying28 rfl) ?_
 refine Za rfl rfl rfl rfl (V_neq rfl rfl rfl) ?_
 refine Zg ?_
 refine Yk rfl (fun hc1 => ?_) (fun hc1 => ?_)
 · (first | contradiction | (exact absurd rfl hc1) | (exfalso; omega))
 refine Zu ?_
 refine Zh ?_
 refine Zh ?_
 refine Zd (l := [0]) rfl ?_
 refine Za rfl rfl rfl rfl (Zk rfl rfl) ?_
 refine Zg ?_
 refine Zs ?_
 refine Yi ?he4 [] ?hl4 (Xb (X := Nat) (fun i => i ≤ s1.l.length) (fun i => s1.l.length - i) (fun i => [(0, .slice s1.p s1.l.length s1.cap), (1, .slice s2.p s2.l.length s2.cap), (5, .int .i64 (i : Int))]) (fun i => []) ?round4 0 ?h04)
 case he4 => exact (And.intro rfl (And.intro rfl (And.intro rfl trivial)))
 case hl4 => exact ⟨_, rfl⟩
 case h04 => exact Nat.zero_le _
 case round4 =>
  intro i hJ ih
  try dsimp only at hJ ih
  refine Zh ?_
  refine Zh ?_
  refine Zd (l := [0, 1, 2, 3]) rfl ?_
  refine Za rfl rfl rfl rfl (Zc rfl rfl) ?_
  refine Za rfl rfl rfl rfl (Zc rfl rfl) ?_
  refine Za rfl rfl rfl rfl (Yp rfl rfl Try.underlying28 rfl) ?_
  refine Za rfl rfl rfl rfl (Xn rfl rfl rfl) ?_
  refine Zg ?_
  refine Yk rfl (fun hc2 => ?_) (fun hc2 => ?_)
  ·
   refine Zu ?_
   refine Zh ?_
   refine Zs ?_
   refine Zh ?_
   obtain ⟨y, hy⟩ := getI (show i < s1.l.length by omega)
   obtain ⟨y2, hy2⟩ := getI (show i < s2.l.length by omega)
   obtain ⟨c1, p1, q1, ss1⟩ := hs1.isS (i := i) (by omega)
   obtain ⟨c2, p2, q2, ss2⟩ := hs2.isS (i := i) (by omega)
   rw [p1, p2]
   have hyy : y2 = y := by rw [he, hy2] at hy; exact Option.some.inj hy
   subst hyy
   obtain ⟨lx, hlx⟩ := key_Hr (hg y2 (List.mem_of_getElem? hy))
   refine G_draw Yo (by kernel_rfl) ?_
   refine Zr rfl rfl rfl rfl (Zc rfl rfl) ?_
   refine Zr rfl rfl rfl rfl (Zc rfl rfl) ?_
   refine Zr rfl rfl rfl rfl (Zo (s := 17) rfl Try.underlying28 i_141 rfl rfl rfl rfl (by omega)) ?_
   refine Zr rfl rfl rfl rfl (Xp (s := 17) (vs := (cHr y2).toArray) rfl rfl (by rw [← Xc q1]; exact Zf 0 rfl) Try.underlying141 rfl i_141 rfl (ss1.elem cHr_len hy) (by rfl)) ?_
   refine Zr rfl rfl rfl rfl (Zc rfl rfl) ?_
   refine Zr rfl rfl rfl rfl (Zc rfl rfl) ?_
   refine Zr rfl rfl rfl rfl (Zo (s := 17) rfl Try.underlying28 i_141 rfl rfl rfl rfl (by omega)) ?_
   refine Zr rfl rfl rfl rfl (Xp (s := 17) (vs := (cHr y2).toArray) rfl rfl (by rw [← Xc q2]; exact Zf 1 rfl) Try.underlying141 rfl i_141 rfl (ss2.elem cHr_len hy2) (by rfl)) ?_
   refine Zr rfl rfl rfl rfl (V_aggneq (m := 6) rfl Try.eqGuardType141 (by kernel_rfl) (by decide) (formed_of Try.underlying141 rfl (by kernel_rfl : Try.prog.cellsOf 141 = 17) (by rfl)) (formed_of Try.underlying141 rfl (by kernel_rfl : Try.prog.cellsOf 141 = 17) (by rfl)) rfl rfl hlx hlx) ?_
   refine GQ_done rfl ?_
   refine Yk rfl (fun hc3 => ?_) (fun hc3 => ?_)
   · (first | contradiction | (exact absurd rfl hc3) | (exfalso; omega))
   refine Zu ?_
   refine Zv ?_
   refine Zd (l := [0, 1, 2]) rfl ?_
   refine Za rfl rfl rfl rfl (Zc rfl rfl) ?_
   refine Za rfl rfl rfl rfl ((Xe rfl rfl rfl).int (Zw (by omega))) ?_
   refine Za rfl rfl rfl rfl (Zk rfl rfl) ?_
   refine Zg ?_
   refine Yi ?_ [] ?_ (ih (i + 1) ?_ ?_)
   · (refine (And.intro ?_ (And.intro ?_ (And.intro ?_ trivial))) <;> first | rfl | exact Zl (by omega) | (rw [p1]; rfl) | (rw [p2]; rfl))
   · exact ⟨_, rfl⟩
   · omega
   · (first | omega | (dsimp only; omega))
  refine Yr rfl ?_
  refine Zh ?_
  refine Zd (l := [0]) rfl ?_
  refine Za rfl rfl rfl rfl (Zk rfl rfl) ?_
  refine Zg ?_
  refine Yy (post := []) Try.func49 rfl (Zy (Yt rfl) Zp) [] rfl ?_
  dsimp only [packed]
  exact ⟨rfl, rfl⟩

set_option maxRecDepth 100000 in
set_option maxHeartbeats 1000000 in
theorem rs_Lt (s1 s2 : Ins Lt) (hs1 : InsOk 6 cLt s1) (hs2 : InsOk 6 cLt s2) (he : s1.l = s2.l) (hg : ∀ x ∈ s1.l, GLt x) :
    Ct Try.prog 50 [.slice s1.p s1.l.length s1.cap, .slice s2.p s2.l.length s2.cap] [insK s1, insK s2] [] fun v post => v = .bool true ∧ post = [] := by
 have hl1 := hs1.le
 have hl2 := hs1.max
 have hl3 := hs2.le
 have hl4 := hs2.max
 have hln := congrArg List.length he
 refine Yu Try.func50 rfl rfl (fun w0 => ?_)
 show G _ _ [(0, _), (1, _)] _ _
 refine Zh ?_
 refine Zd (l := [0]) rfl ?_
 refine Za rfl rfl rfl rfl (Zk rfl rfl) ?_
 refine Zg ?_
 refine Zh ?_
 refine Zh ?_
 refine Zd (l := [0, 1, 2, 3, 4]) rfl ?_
 refine Za rfl rfl rfl rfl (Zc rfl rfl) ?_
 refine Za rfl rfl rfl rfl (Yp rfl rfl Try.underlying29 rfl) ?_
 refine Za rfl rfl rfl rfl (Zc rfl rfl) ?_
 refine Za rfl rfl rfl rfl (Yp rfl rfl Try.underlying29 rfl) ?_
 refine Za rfl rfl rfl rfl (V_neq rfl rfl rfl) ?_
 refine Zg ?_
 refine Yk rfl (fun hc1 => ?_) (fun hc1 => ?_)
 · (first | contradiction | (exact absurd rfl hc1) | (exfalso; omega))
 refine Zu ?_
 refine Zh ?_
 refine Zh ?_
 refine Zd (l := [0]) rfl ?_
 refine Za rfl rfl rfl rfl (Zk rfl rfl) ?_
 refine Zg ?_
 refine Zs ?_
 refine Yi ?he4 [] ?hl4 (Xb (X := Nat) (fun i => i ≤ s1.l.length) (fun i => s1.l.length - i) (fun i => [(0, .slice s1.p s1.l.length s1.cap), (1, .slice s2.p s2.l.length s2.cap), (5, .int .i64 (i : Int))]) (fun i => []) ?round4 0 ?h04)
 case he4 => exact (And.intro rfl (And.intro rfl (And.intro rfl trivial)))
 case hl4 => exact ⟨_, rfl⟩
 case h04 => exact Nat.zero_le _
 case round4 =>
  intro i hJ ih
  try dsimp only at hJ ih
  refine Zh ?_
  refine Zh ?_
  refine Zd (l := [0, 1, 2, 3]) rfl ?_
  refine Za rfl rfl rfl rfl (Zc rfl rfl) ?_
  refine Za rfl rfl rfl rfl (Zc rfl rfl) ?_
  refine Za rfl rfl rfl rfl (Yp rfl rfl Try.underlying29 rfl) ?_
  refine Za rfl rfl rfl rfl (Xn rfl rfl rfl) ?_
  refine Zg ?_
  refine Yk rfl (fun hc2 => ?_) (fun hc2 => ?_)
  ·
   refine Zu ?_
   refine Zh ?_
   refine Zs ?_
   refine Zh ?_
   obtain ⟨y, hy⟩ := getI (show i < s1.l.length by omega)
   obtain ⟨y2, hy2⟩ := getI (show i < s2.l.length by omega)
   obtain ⟨c1, p1, q1, ss1⟩ := hs1.isS (i := i) (by omega)
   obtain ⟨c2, p2, q2, ss2⟩ := hs2.isS (i := i) (by omega)
   rw [p1, p2]
   have hyy : y2 = y := by rw [he, hy2] at hy; exact Option.some.inj hy
   subst hyy
   obtain ⟨lx, hlx⟩ := key_Lt (hg y2 (List.mem_of_getElem? hy))
   refine G_draw Yo (by kernel_rfl) ?_
   refine Zr rfl rfl rfl rfl (Zc rfl rfl) ?_
   refine Zr rfl rfl rfl rfl (Zc rfl rfl) ?_
   refine Zr rfl rfl rfl rfl (Zo (s := 6) rfl Try.underlying29 i_143 rfl rfl rfl rfl (by omega)) ?_
   refine Zr rfl rfl rfl rfl (Xp (s := 6) (vs := (cLt y2).toArray) rfl rfl (by rw [← Xc q1]; exact Zf 0 rfl) Try.underlying143 rfl i_143 rfl (ss1.elem cLt_len hy) (by rfl)) ?_
   refine Zr rfl rfl rfl rfl (Zc rfl rfl) ?_
   refine Zr rfl rfl rfl rfl (Zc rfl rfl) ?_
   refine Zr rfl rfl rfl rfl (Zo (s := 6) rfl Try.underlying29 i_143 rfl rfl rfl rfl (by omega)) ?_
   refine Zr rfl rfl rfl rfl (Xp (s := 6) (vs := (cLt y2).toArray) rfl rfl (by rw [← Xc q2]; exact Zf 1 rfl) Try.underlying143 rfl i_143 rfl (ss2.elem cLt_len hy2) (by rfl)) ?_
   refine Zr rfl rfl rfl rfl (V_aggneq (m := 6) rfl Try.eqGuardType143 (by kernel_rfl) (by decide) (formed_of Try.underlying143 rfl (by kernel_rfl : Try.prog.cellsOf 143 = 6) (by rfl)) (formed_of Try.underlying143 rfl (by kernel_rfl : Try.prog.cellsOf 143 = 6) (by rfl)) rfl rfl hlx hlx) ?_
   refine GQ_done rfl ?_
   refine Yk rfl (fun hc3 => ?_) (fun hc3 => ?_)
   · (first | contradiction | (exact absurd rfl hc3) | (exfalso; omega))
   refine Zu ?_
   refine Zv ?_
   refine Zd (l := [0, 1, 2]) rfl ?_
   refine Za rfl rfl rfl rfl (Zc rfl rfl) ?_
   refine Za rfl rfl rfl rfl ((Xe rfl rfl rfl).int (Zw (by omega))) ?_
   refine Za rfl rfl rfl rfl (Zk rfl rfl) ?_
   refine Zg ?_
   refine Yi ?_ [] ?_ (ih (i + 1) ?_ ?_)
   · (refine (And.intro ?_ (And.intro ?_ (And.intro ?_ trivial))) <;> first | rfl | exact Zl (by omega) | (rw [p1]; rfl) | (rw [p2]; rfl))
   · exact ⟨_, rfl⟩
   · omega
   · (first | omega | (dsimp only; omega))
  refine Yr rfl ?_
  refine Zh ?_
  refine Zd (l := [0]) rfl ?_
  refine Za rfl rfl rfl rfl (Zk rfl rfl) ?_
  refine Zg ?_
  refine Yy (post := []) Try.func50 rfl (Zy (Yt rfl) Zp) [] rfl ?_
  dsimp only [packed]
  exact ⟨rfl, rfl⟩

set_option maxRecDepth 100000 in
set_option maxHeartbeats 1000000 in
theorem rs_Wt (s1 s2 : Ins Wt) (hs1 : InsOk 2 cWt s1) (hs2 : InsOk 2 cWt s2) (he : s1.l = s2.l) (hg : ∀ x ∈ s1.l, GWt x) :
    Ct Try.prog 51 [.slice s1.p s1.l.length s1.cap, .slice s2.p s2.l.length s2.cap] [insK s1, insK s2] [] fun v post => v = .bool true ∧ post = [] := by
 have hl1 := hs1.le
 have hl2 := hs1.max
 have hl3 := hs2.le
 have hl4 := hs2.max
 have hln := congrArg List.length he
 refine Yu Try.func51 rfl rfl (fun w0 => ?_)
 show G _ _ [(0, _), (1, _)] _ _
 refine Zh ?_
 refine Zd (l := [0]) rfl ?_
 refine Za rfl rfl rfl rfl (Zk rfl rfl) ?_
 refine Zg ?_
 refine Zh ?_
 refine Zh ?_
 refine Zd (l := [0, 1, 2, 3, 4]) rfl ?_
 refine Za rfl rfl rfl rfl (Zc rfl rfl) ?_
 refine Za rfl rfl rfl rfl (Yp rfl rfl Try.underlying30 rfl) ?_
 refine Za rfl rfl rfl rfl (Zc rfl rfl) ?_
 refine Za rfl rfl rfl rfl (Yp rfl rfl Try.underlying30 rfl) ?_
 refine Za rfl rfl rfl rfl (V_neq rfl rfl rfl) ?_
 refine Zg ?_
 refine Yk rfl (fun hc1 => ?_) (fun hc1 => ?_)
 · (first | contradiction | (exact absurd rfl hc1) | (exfalso; omega))
 refine Zu ?_
 refine Zh ?_
 refine Zh ?_
 refine Zd (l := [0]) rfl ?_
 refine Za rfl rfl rfl rfl (Zk rfl rfl) ?_
 refine Zg ?_
 refine Zs ?_
 refine Yi ?he4 [] ?hl4 (Xb (X := Nat) (fun i => i ≤ s1.l.length) (fun i => s1.l.length - i) (fun i => [(0, .slice s1.p s1.l.length s1.cap), (1, .slice s2.p s2.l.length s2.cap), (5, .int .i64 (i : Int))]) (fun i => []) ?round4 0 ?h04)
 case he4 => exact (And.intro rfl (And.intro rfl (And.intro rfl trivial)))
 case hl4 => exact ⟨_, rfl⟩
 case h04 => exact Nat.zero_le _
 case round4 =>
  intro i hJ ih
  try dsimp only at hJ ih
  refine Zh ?_
  refine Zh ?_
  refine Zd (l := [0, 1, 2, 3]) rfl ?_
  refine Za rfl rfl rfl rfl (Zc rfl rfl) ?_
  refine Za rfl rfl rfl rfl (Zc rfl rfl) ?_
  refine Za rfl rfl rfl rfl (Yp rfl rfl Try.underlying30 rfl) ?_
  refine Za rfl rfl rfl rfl (Xn rfl rfl rfl) ?_
  refine Zg ?_
  refine Yk rfl (fun hc2 => ?_) (fun hc2 => ?_)
  ·
   refine Zu ?_
   refine Zh ?_
   refine Zs ?_
   refine Zh ?_
   obtain ⟨y, hy⟩ := getI (show i < s1.l.length by omega)
   obtain ⟨y2, hy2⟩ := getI (show i < s2.l.length by omega)
   obtain ⟨c1, p1, q1, ss1⟩ := hs1.isS (i := i) (by omega)
   obtain ⟨c2, p2, q2, ss2⟩ := hs2.isS (i := i) (by omega)
   rw [p1, p2]
   have hyy : y2 = y := by rw [he, hy2] at hy; exact Option.some.inj hy
   subst hyy
   obtain ⟨lx, hlx⟩ := key_Wt (hg y2 (List.mem_of_getElem? hy))
   refine G_draw Yo (by kernel_rfl) ?_
   refine Zr rfl rfl rfl rfl (Zc rfl rfl) ?_
   refine Zr rfl rfl rfl rfl (Zc rfl rfl) ?_
   refine Zr rfl rfl rfl rfl (Zo (s := 2) rfl Try.underlying30 i_145 rfl rfl rfl rfl (by omega)) ?_
   refine Zr rfl rfl rfl rfl (Xp (s := 2) (vs := (cWt y2).toArray) rfl rfl (by rw [← Xc q1]; exact Zf 0 rfl) Try.underlying145 rfl i_145 rfl (ss1.elem cWt_len hy) (by rfl)) ?_
   refine Zr rfl rfl rfl rfl (Zc rfl rfl) ?_
   refine Zr rfl rfl rfl rfl (Zc rfl rfl) ?_
   refine Zr rfl rfl rfl rfl (Zo (s := 2) rfl Try.underlying30 i_145 rfl rfl rfl rfl (by omega)) ?_
   refine Zr rfl rfl rfl rfl (Xp (s := 2) (vs := (cWt y2).toArray) rfl rfl (by rw [← Xc q2]; exact Zf 1 rfl) Try.underlying145 rfl i_145 rfl (ss2.elem cWt_len hy2) (by rfl)) ?_
   refine Zr rfl rfl rfl rfl (V_aggneq (m := 6) rfl Try.eqGuardType145 (by kernel_rfl) (by decide) (formed_of Try.underlying145 rfl (by kernel_rfl : Try.prog.cellsOf 145 = 2) (by rfl)) (formed_of Try.underlying145 rfl (by kernel_rfl : Try.prog.cellsOf 145 = 2) (by rfl)) rfl rfl hlx hlx) ?_
   refine GQ_done rfl ?_
   refine Yk rfl (fun hc3 => ?_) (fun hc3 => ?_)
   · (first | contradiction | (exact absurd rfl hc3) | (exfalso; omega))
   refine Zu ?_
   refine Zv ?_
   refine Zd (l := [0, 1, 2]) rfl ?_
   refine Za rfl rfl rfl rfl (Zc rfl rfl) ?_
   refine Za rfl rfl rfl rfl ((Xe rfl rfl rfl).int (Zw (by omega))) ?_
   refine Za rfl rfl rfl rfl (Zk rfl rfl) ?_
   refine Zg ?_
   refine Yi ?_ [] ?_ (ih (i + 1) ?_ ?_)
   · (refine (And.intro ?_ (And.intro ?_ (And.intro ?_ trivial))) <;> first | rfl | exact Zl (by omega) | (rw [p1]; rfl) | (rw [p2]; rfl))
   · exact ⟨_, rfl⟩
   · omega
   · (first | omega | (dsimp only; omega))
  refine Yr rfl ?_
  refine Zh ?_
  refine Zd (l := [0]) rfl ?_
  refine Za rfl rfl rfl rfl (Zk rfl rfl) ?_
  refine Zg ?_
  refine Yy (post := []) Try.func51 rfl (Zy (Yt rfl) Zp) [] rfl ?_
  dsimp only [packed]
  exact ⟨rfl, rfl⟩

set_option maxRecDepth 100000 in
set_option maxHeartbeats 1000000 in
theorem rs_Fl (s1 s2 : Ins Fl) (hs1 : InsOk 4 cFl s1) (hs2 : InsOk 4 cFl s2) (ok1 : ∀ y ∈ s1.l, OkFl y) (ok2 : ∀ y ∈ s2.l, OkFl y) (he : s1.l.map vFl = s2.l.map vFl) (hg : ∀ y ∈ s1.l, GPF (vFl y)) :
    Ct Try.prog 146 [.slice s1.p s1.l.length s1.cap, .slice s2.p s2.l.length s2.cap] (insK s1 :: insK s2 :: (s1.l.flatMap kFl ++ s2.l.flatMap kFl)) [] fun v post => v = .bool true ∧ post = [] := by
 have hl1 := hs1.le
 have hl2 := hs1.max
 have hl3 := hs2.le
 have hl4 := hs2.max
 have hln := len_of_map he
 refine Yu Try.func146 rfl rfl (fun w0 => ?_)
 show G _ _ [(0, _), (1, _)] _ _
 refine Zh ?_
 refine Zd (l := [0]) rfl ?_
 refine Za rfl rfl rfl rfl (Zk rfl rfl) ?_
 refine Zg ?_
 refine Zh ?_
 refine Zh ?_
 refine Zd (l := [0, 1, 2, 3, 4]) rfl ?_
 refine Za rfl rfl rfl rfl (Zc rfl rfl) ?_
 refine Za rfl rfl rfl rfl (Yp rfl rfl Try.underlying207 rfl) ?_
 refine Za rfl rfl rfl rfl (Zc rfl rfl) ?_
 refine Za rfl rfl rfl rfl (Yp rfl rfl Try.underlying207 rfl) ?_
 refine Za rfl rfl rfl rfl (V_neq rfl rfl rfl) ?_
 refine Zg ?_
 refine Yk rfl (fun hc1 => ?_) (fun hc1 => ?_)
 · (first | contradiction | (exact absurd rfl hc1) | (exfalso; omega))
 refine Zu ?_
 refine Zh ?_
 refine Zh ?_
 refine Zd (l := [0]) rfl ?_
 refine Za rfl rfl rfl rfl (Zk rfl rfl) ?_
 refine Zg ?_
 refine Zs ?_
 refine Yi ?he4 [] ?hl4 (Xb (X := Nat) (fun i => i ≤ s1.l.length) (fun i => s1.l.length - i) (fun i => [(0, .slice s1.p s1.l.length s1.cap), (1, .slice s2.p s2.l.length s2.cap), (5, .int .i64 (i : Int))]) (fun i => []) ?round4 0 ?h04)
 case he4 => exact (And.intro rfl (And.intro rfl (And.intro rfl trivial)))
 case hl4 => exact ⟨_, rfl⟩
 case h04 => exact Nat.zero_le _
 case round4 =>
  intro i hJ ih
  try dsimp only at hJ ih
  refine Zh ?_
  refine Zh ?_
  refine Zd (l := [0, 1, 2, 3]) rfl ?_
  refine Za rfl rfl rfl rfl (Zc rfl rfl) ?_
  refine Za rfl rfl rfl rfl (Zc rfl rfl) ?_
  refine Za rfl rfl rfl rfl (Yp rfl rfl Try.underlying207 rfl) ?_
  refine Za rfl rfl rfl rfl (Xn rfl rfl rfl) ?_
  refine Zg ?_
  refine Yk rfl (fun hc2 => ?_) (fun hc2 => ?_)
  ·
   refine Zu ?_
   refine Zh ?_
   refine Zs ?_
   refine Zh ?_
   obtain ⟨y, hy⟩ := getI (show i < s1.l.length by omega)
   obtain ⟨y2, hy2⟩ := getI (show i < s2.l.length by omega)
   obtain ⟨c1, p1, q1, ss1⟩ := hs1.isS (i := i) (by omega)
   obtain ⟨c2, p2, q2, ss2⟩ := hs2.isS (i := i) (by omega)
   rw [p1, p2]
   have hv := map_at he hy hy2
   have e0 := congrArg PF.v0 hv
   have e1 := congrArg PF.v1 hv
   have e2 := congrArg PF.v2 hv
   have el := congrArg PF.l hv
   simp only [vFl] at e0 e1 e2 el
   have hgy := (gPF_iff.1 (hg y (List.mem_of_getElem? hy))).2.2
   have o1 := ok1 y (List.mem_of_getElem? hy)
   have o2 := ok2 y2 (List.mem_of_getElem? hy2)
   refine G_draw Yo (by kernel_rfl) ?_
   refine Zr rfl rfl rfl rfl (Zc rfl rfl) ?_
   refine Zr rfl rfl rfl rfl (Zc rfl rfl) ?_
   refine Zr rfl rfl rfl rfl (Zo (s := 4) rfl Try.underlying207 i_217 rfl rfl rfl rfl (by omega)) ?_
   refine Zr rfl rfl rfl rfl (Zb (fo := _) rfl Try.underlying217 rfl i_3 rfl rfl rfl) ?_
   refine Zr rfl rfl rfl rfl (Zj rfl rfl (by rw [← Xc q1]; exact List.mem_append_left _ (Zf 0 rfl)) (Zt (Xr ss1 cFl_len hy 0 (by omega) rfl)) Try.underlying3 rfl) ?_
   refine Zr rfl rfl rfl rfl (Zc rfl rfl) ?_
   refine Zr rfl rfl rfl rfl (Zc rfl rfl) ?_
   refine Zr rfl rfl rfl rfl (Zo (s := 4) rfl Try.underlying207 i_217 rfl rfl rfl rfl (by omega)) ?_
   refine Zr rfl rfl rfl rfl (Zb (fo := _) rfl Try.underlying217 rfl i_3 rfl rfl rfl) ?_
   refine Zr rfl rfl rfl rfl (Zj rfl rfl (by rw [← Xc q2]; exact List.mem_append_left _ (Zf 1 rfl)) (Zt (Xr ss2 cFl_len hy2 0 (by omega) rfl)) Try.underlying3 rfl) ?_
   refine Zr rfl rfl rfl rfl (V_neq rfl rfl rfl) ?_
   refine Zr rfl rfl rfl rfl (Zc rfl rfl) ?_
   refine GQ_splitD 28 rfl (fun hc3 => ?_) (fun hc3 => ?_)
   · (first | contradiction | (exact absurd rfl hc3) | (exfalso; omega))
   refine Zr rfl rfl rfl rfl (Zc rfl rfl) ?_
   refine Zr rfl rfl rfl rfl (Zc rfl rfl) ?_
   refine Zr rfl rfl rfl rfl (Zo (s := 4) rfl Try.underlying207 i_217 rfl rfl rfl rfl (by omega)) ?_
   refine Zr rfl rfl rfl rfl (Zb (fo := _ + 1) rfl Try.underlying217 rfl i_3 rfl rfl rfl) ?_
   refine Zr rfl rfl rfl rfl (Zj rfl rfl (by rw [← Xc q1]; exact List.mem_append_left _ (Zf 0 rfl)) (Zt (Xr ss1 cFl_len hy 1 (by omega) rfl)) Try.underlying3 rfl) ?_
   refine Zr rfl rfl rfl rfl (Zc rfl rfl) ?_
   refine Zr rfl rfl rfl rfl (Zc rfl rfl) ?_
   refine Zr rfl rfl rfl rfl (Zo (s := 4) rfl Try.underlying207 i_217 rfl rfl rfl rfl (by omega)) ?_
   refine Zr rfl rfl rfl rfl (Zb (fo := _ + 1) rfl Try.underlying217 rfl i_3 rfl rfl rfl) ?_
   refine Zr rfl rfl rfl rfl (Zj rfl rfl (by rw [← Xc q2]; exact List.mem_append_left _ (Zf 1 rfl)) (Zt (Xr ss2 cFl_len hy2 1 (by omega) rfl)) Try.underlying3 rfl) ?_
   refine Zr rfl rfl rfl rfl (V_neq rfl rfl rfl) ?_
   refine Zr rfl rfl rfl rfl (Xg rfl rfl rfl) ?_
   refine Zr rfl rfl rfl rfl (Zc rfl rfl) ?_
   refine GQ_splitD 41 rfl (fun hc4 => ?_) (fun hc4 => ?_)
   · (first | contradiction | (exact absurd rfl hc4) | (exfalso; omega))
   refine Zr rfl rfl rfl rfl (Zc rfl rfl) ?_
   refine Zr rfl rfl rfl rfl (Zc rfl rfl) ?_
   refine Zr rfl rfl rfl rfl (Zo (s := 4) rfl Try.underlying207 i_217 rfl rfl rfl rfl (by omega)) ?_
   refine Zr rfl rfl rfl rfl (Zb (fo := _ + 2) rfl Try.underlying217 rfl i_3 rfl rfl rfl) ?_
   refine Zr rfl rfl rfl rfl (Zj rfl rfl (by rw [← Xc q1]; exact List.mem_append_left _ (Zf 0 rfl)) (Zt (Xr ss1 cFl_len hy 2 (by omega) rfl)) Try.underlying3 rfl) ?_
   refine Zr rfl rfl rfl rfl (Zc rfl rfl) ?_
   refine Zr rfl rfl rfl rfl (Zc rfl rfl) ?_
   refine Zr rfl rfl rfl rfl (Zo (s := 4) rfl Try.underlying207 i_217 rfl rfl rfl rfl (by omega)) ?_
   refine Zr rfl rfl rfl rfl (Zb (fo := _ + 2) rfl Try.underlying217 rfl i_3 rfl rfl rfl) ?_
   refine Zr rfl rfl rfl rfl (Zj rfl rfl (by rw [← Xc q2]; exact List.mem_append_left _ (Zf 1 rfl)) (Zt (Xr ss2 cFl_len hy2 2 (by omega) rfl)) Try.underlying3 rfl) ?_
   refine Zr rfl rfl rfl rfl (V_neq rfl rfl rfl) ?_
   refine Zr rfl rfl rfl rfl (Xg rfl rfl rfl) ?_
   refine Zr rfl rfl rfl rfl (Zc rfl rfl) ?_
   refine GQ_splitD 54 rfl (fun hc5 => ?_) (fun hc5 => ?_)
   · (first | contradiction | (exact absurd rfl hc5) | (exfalso; omega))
   refine Zr rfl rfl rfl rfl (Zc rfl rfl) ?_
   refine Zr rfl rfl rfl rfl (Zc rfl rfl) ?_
   refine Zr rfl rfl rfl rfl (Zo (s := 4) rfl Try.underlying207 i_217 rfl rfl rfl rfl (by omega)) ?_
   refine Zr rfl rfl rfl rfl (Zb (fo := _ + 3) rfl Try.underlying217 rfl i_215 rfl rfl rfl) ?_
   refine Zr rfl rfl rfl rfl (Zj rfl rfl (by rw [← Xc q1]; exact List.mem_append_left _ (Zf 0 rfl)) (Zt (Xr ss1 cFl_len hy 3 (by omega) rfl)) Try.underlying215 rfl) ?_
   refine Zr rfl rfl rfl rfl (Zc rfl rfl) ?_
   refine Zr rfl rfl rfl rfl (Zc rfl rfl) ?_
   refine Zr rfl rfl rfl rfl (Zo (s := 4) rfl Try.underlying207 i_217 rfl rfl rfl rfl (by omega)) ?_
   refine Zr rfl rfl rfl rfl (Zb (fo := _ + 3) rfl Try.underlying217 rfl i_215 rfl rfl rfl) ?_
   refine Zr rfl rfl rfl rfl (Zj rfl rfl (by rw [← Xc q2]; exact List.mem_append_left _ (Zf 1 rfl)) (Zt (Xr ss2 cFl_len hy2 3 (by omega) rfl)) Try.underlying215 rfl) ?_
   refine GQ_callM rfl rfl rfl rfl rfl rfl Try.call164 (rs_It y.s y2.s o1.1 o2.1 el hgy) (Ys (List.mem_append_left _ (in_a1 hy List.mem_cons_self)) (Ys (List.mem_append_left _ (in_a2 hy2 List.mem_cons_self)) Xh)) (fun v post hp => (hp : _ ∧ _).1) ?_
   refine Zr rfl rfl rfl rfl (V_not rfl rfl) ?_
   refine Zr rfl rfl rfl rfl (Xg rfl rfl rfl) ?_
   refine GQ_done rfl ?_
   refine Xu rfl ?_
   refine Zu ?_
   refine Zv ?_
   refine Zd (l := [0, 1, 2]) rfl ?_
   refine Za rfl rfl rfl rfl (Zc rfl rfl) ?_
   refine Za rfl rfl rfl rfl ((Xe rfl rfl rfl).int (Zw (by omega))) ?_
   refine Za rfl rfl rfl rfl (Zk rfl rfl) ?_
   refine Zg ?_
   refine Yi ?_ [] ?_ (ih (i + 1) ?_ ?_)
   · (refine (And.intro ?_ (And.intro ?_ (And.intro ?_ trivial))) <;> first | rfl | exact Zl (by omega) | (rw [p1]; rfl) | (rw [p2]; rfl))
   · exact ⟨_, rfl⟩
   · omega
   · (first | omega | (dsimp only; omega))
  refine Yr rfl ?_
  refine Zh ?_
  refine Zd (l := [0]) rfl ?_
  refine Za rfl rfl rfl rfl (Zk rfl rfl) ?_
  refine Zg ?_
  refine Yy (post := []) Try.func146 rfl (Zy (Yt rfl) Zp) [] rfl ?_
  dsimp only [packed]
  exact ⟨rfl, rfl⟩

set_option maxRecDepth 100000 in
set_option maxHeartbeats 1000000 in
theorem rs_Dt (s1 s2 : Ins Dt) (hs1 : InsOk 6 cDt s1) (hs2 : InsOk 6 cDt s2) (ok1 : ∀ y ∈ s1.l, OkDt y) (ok2 : ∀ y ∈ s2.l, OkDt y) (he : s1.l.map vDt = s2.l.map vDt) (hg : ∀ y ∈ s1.l, GPT (vDt y)) :
    Ct Try.prog 116 [.slice s1.p s1.l.length s1.cap, .slice s2.p s2.l.length s2.cap] (insK s1 :: insK s2 :: (s1.l.flatMap kDt ++ s2.l.flatMap kDt)) [] fun v post => v = .bool true ∧ post = [] := by
 have hl1 := hs1.le
 have hl2 := hs1.max
 have hl3 := hs2.le
 have hl4 := hs2.max
 have hln := len_of_map he
 refine Yu Try.func116 rfl rfl (fun w0 => ?_)
 show G _ _ [(0, _), (1, _)] _ _
 refine Zh ?_
 refine Zd (l := [0]) rfl ?_
 refine Za rfl rfl rfl rfl (Zk rfl rfl) ?_
 refine Zg ?_
 refine Zh ?_
 refine Zh ?_
 refine Zd (l := [0, 1, 2, 3, 4]) rfl ?_
 refine Za rfl rfl rfl rfl (Zc rfl rfl) ?_
 refine Za rfl rfl rfl rfl (Yp rfl rfl Try.underlying107 rfl) ?_
 refine Za rfl rfl rfl rfl (Zc rfl rfl) ?_
 refine Za rfl rfl rfl rfl (Yp rfl rfl Try.underlying107 rfl) ?_
 refine Za rfl rfl rfl rfl (V_neq rfl rfl rfl) ?_
 refine Zg ?_
 refine Yk rfl (fun hc1 => ?_) (fun hc1 => ?_)
 · (first | contradiction | (exact absurd rfl hc1) | (exfalso; omega))
 refine Zu ?_
 refine Zh ?_
 refine Zh ?_
 refine Zd (l := [0]) rfl ?_
 refine Za rfl rfl rfl rfl (Zk rfl rfl) ?_
 refine Zg ?_
 refine Zs ?_
 refine Yi ?he4 [] ?hl4 (Xb (X := Nat) (fun i => i ≤ s1.l.length) (fun i => s1.l.length - i) (fun i => [(0, .slice s1.p s1.l.length s1.cap), (1, .slice s2.p s2.l.length s2.cap), (5, .int .i64 (i : Int))]) (fun i => []) ?round4 0 ?h04)
 case he4 => exact (And.intro rfl (And.intro rfl (And.intro rfl trivial)))
 case hl4 => exact ⟨_, rfl⟩
 case h04 => exact Nat.zero_le _
 case round4 =>
  intro i hJ ih
  try dsimp only at hJ ih
  refine Zh ?_
  refine Zh ?_
  refine Zd (l := [0, 1, 2, 3]) rfl ?_
  refine Za rfl rfl rfl rfl (Zc rfl rfl) ?_
  refine Za rfl rfl rfl rfl (Zc rfl rfl) ?_
  refine Za rfl rfl rfl rfl (Yp rfl rfl Try.underlying107 rfl) ?_
  refine Za rfl rfl rfl rfl (Xn rfl rfl rfl) ?_
  refine Zg ?_
  refine Yk rfl (fun hc2 => ?_) (fun hc2 => ?_)
  ·
   refine Zu ?_
   refine Zh ?_
   refine Zs ?_
   refine Zh ?_
   obtain ⟨y, hy⟩ := getI (show i < s1.l.length by omega)
   obtain ⟨y2, hy2⟩ := getI (show i < s2.l.length by omega)
   obtain ⟨c1, p1, q1, ss1⟩ := hs1.isS (i := i) (by omega)
   obtain ⟨c2, p2, q2, ss2⟩ := hs2.isS (i := i) (by omega)
   rw [p1, p2]
   have hv := map_at he hy hy2
   have e0 := congrArg PT.v0 hv
   have e1 := congrArg PT.v1 hv
   have e2 := congrArg PT.v2 hv
   have e3 := congrArg PT.g hv
   have el := congrArg PT.l hv
   simp only [vDt] at e0 e1 e2 e3 el
   have hgy := (gPT_iff.1 (hg y (List.mem_of_getElem? hy))).2.2
   simp only [vDt] at hgy
   have o1 := ok1 y (List.mem_of_getElem? hy)
   have o2 := ok2 y2 (List.mem_of_getElem? hy2)
   refine G_draw Yo (by kernel_rfl) ?_
   refine Zr rfl rfl rfl rfl (Zc rfl rfl) ?_
   refine Zr rfl rfl rfl rfl (Zc rfl rfl) ?_
   refine Zr rfl rfl rfl rfl (Zo (s := 6) rfl Try.underlying107 i_212 rfl rfl rfl rfl (by omega)) ?_
   refine Zr rfl rfl rfl rfl (Zb (fo := _) rfl Try.underlying212 rfl i_3 rfl rfl rfl) ?_
   refine Zr rfl rfl rfl rfl (Zj rfl rfl (by rw [← Xc q1]; exact List.mem_append_left _ (Zf 0 rfl)) (Zt (Xr ss1 cDt_len hy 0 (by omega) rfl)) Try.underlying3 rfl) ?_
   refine Zr rfl rfl rfl rfl (Zc rfl rfl) ?_
   refine Zr rfl rfl rfl rfl (Zc rfl rfl) ?_
   refine Zr rfl rfl rfl rfl (Zo (s := 6) rfl Try.underlying107 i_212 rfl rfl rfl rfl (by omega)) ?_
   refine Zr rfl rfl rfl rfl (Zb (fo := _) rfl Try.underlying212 rfl i_3 rfl rfl rfl) ?_
   refine Zr rfl rfl rfl rfl (Zj rfl rfl (by rw [← Xc q2]; exact List.mem_append_left _ (Zf 1 rfl)) (Zt (Xr ss2 cDt_len hy2 0 (by omega) rfl)) Try.underlying3 rfl) ?_
   refine Zr rfl rfl rfl rfl (V_neq rfl rfl rfl) ?_
   refine Zr rfl rfl rfl rfl (Zc rfl rfl) ?_
   refine GQ_splitD 28 rfl (fun hc3 => ?_) (fun hc3 => ?_)
   · (first | contradiction | (exact absurd rfl hc3) | (exfalso; omega))
   refine Zr rfl rfl rfl rfl (Zc rfl rfl) ?_
   refine Zr rfl rfl rfl rfl (Zc rfl rfl) ?_
   refine Zr rfl rfl rfl rfl (Zo (s := 6) rfl Try.underlying107 i_212 rfl rfl rfl rfl (by omega)) ?_
   refine Zr rfl rfl rfl rfl (Zb (fo := _ + 1) rfl Try.underlying212 rfl i_3 rfl rfl rfl) ?_
   refine Zr rfl rfl rfl rfl (Zj rfl rfl (by rw [← Xc q1]; exact List.mem_append_left _ (Zf 0 rfl)) (Zt (Xr ss1 cDt_len hy 1 (by omega) rfl)) Try.underlying3 rfl) ?_
   refine Zr rfl rfl rfl rfl (Zc rfl rfl) ?_
   refine Zr rfl rfl rfl rfl (Zc rfl rfl) ?_
   refine Zr rfl rfl rfl rfl (Zo (s := 6) rfl Try.underlying107 i_212 rfl rfl rfl rfl (by omega)) ?_
   refine Zr rfl rfl rfl rfl (Zb (fo := _ + 1) rfl Try.underlying212 rfl i_3 rfl rfl rfl) ?_
   refine Zr rfl rfl rfl rfl (Zj rfl rfl (by rw [← Xc q2]; exact List.mem_append_left _ (Zf 1 rfl)) (Zt (Xr ss2 cDt_len hy2 1 (by omega) rfl)) Try.underlying3 rfl) ?_
   refine Zr rfl rfl rfl rfl (V_neq rfl rfl rfl) ?_
   refine Zr rfl rfl rfl rfl (Xg rfl rfl rfl) ?_
   refine Zr rfl rfl rfl rfl (Zc rfl rfl) ?_
   refine GQ_splitD 41 rfl (fun hc4 => ?_) (fun hc4 => ?_)
   · (first | contradiction | (exact absurd rfl hc4) | (exfalso; omega))
   refine Zr rfl rfl rfl rfl (Zc rfl rfl) ?_
   refine Zr rfl rfl rfl rfl (Zc rfl rfl) ?_
   refine Zr rfl rfl rfl rfl (Zo (s := 6) rfl Try.underlying107 i_212 rfl rfl rfl rfl (by omega)) ?_
   refine Zr rfl rfl rfl rfl (Zb (fo := _ + 2) rfl Try.underlying212 rfl i_3 rfl rfl rfl) ?_
   refine Zr rfl rfl rfl rfl (Zj rfl rfl (by rw [← Xc q1]; exact List.mem_append_left _ (Zf 0 rfl)) (Zt (Xr ss1 cDt_len hy 2 (by omega) rfl)) Try.underlying3 rfl) ?_
   refine Zr rfl rfl rfl rfl (Zc rfl rfl) ?_
   refine Zr rfl rfl rfl rfl (Zc rfl rfl) ?_
   refine Zr rfl rfl rfl rfl (Zo (s := 6) rfl Try.underlying107 i_212 rfl rfl rfl rfl (by omega)) ?_
   refine Zr rfl rfl rfl rfl (Zb (fo := _ + 2) rfl Try.underlying212 rfl i_3 rfl rfl rfl) ?_
   refine Zr rfl rfl rfl rfl (Zj rfl rfl (by rw [← Xc q2]; exact List.mem_append_left _ (Zf 1 rfl)) (Zt (Xr ss2 cDt_len hy2 2 (by omega) rfl)) Try.underlying3 rfl) ?_
   refine Zr rfl rfl rfl rfl (V_neq rfl rfl rfl) ?_
   refine Zr rfl rfl rfl rfl (Xg rfl rfl rfl) ?_
   refine Zr rfl rfl rfl rfl (Zc rfl rfl) ?_
   refine GQ_splitD 54 rfl (fun hc5 => ?_) (fun hc5 => ?_)
   · (first | contradiction | (exact absurd rfl hc5) | (exfalso; omega))
   refine Zr rfl rfl rfl rfl (Zc rfl rfl) ?_
   refine Zr rfl rfl rfl rfl (Zc rfl rfl) ?_
   refine Zr rfl rfl rfl rfl (Zo (s := 6) rfl Try.underlying107 i_212 rfl rfl rfl rfl (by omega)) ?_
   refine Zr rfl rfl rfl rfl (Zb (fo := _ + 3) rfl Try.underlying212 rfl i_210 rfl rfl rfl) ?_
   refine Zr rfl rfl rfl rfl (Zb (fo := _ + 2) rfl Try.underlying210 rfl i_4 rfl rfl rfl) ?_
   refine Zr rfl rfl rfl rfl (Zj rfl rfl (by rw [← Xc q1]; exact List.mem_append_left _ (Zf 0 rfl)) (Zt (Xr ss1 cDt_len hy 5 (by omega) rfl)) Try.underlying4 rfl) ?_
   refine Zr rfl rfl rfl rfl (Zc rfl rfl) ?_
   refine Zr rfl rfl rfl rfl (Zc rfl rfl) ?_
   refine Zr rfl rfl rfl rfl (Zo (s := 6) rfl Try.underlying107 i_212 rfl rfl rfl rfl (by omega)) ?_
   refine Zr rfl rfl rfl rfl (Zb (fo := _ + 3) rfl Try.underlying212 rfl i_210 rfl rfl rfl) ?_
   refine Zr rfl rfl rfl rfl (Zb (fo := _ + 2) rfl Try.underlying210 rfl i_4 rfl rfl rfl) ?_
   refine Zr rfl rfl rfl rfl (Zj rfl rfl (by rw [← Xc q2]; exact List.mem_append_left _ (Zf 1 rfl)) (Zt (Xr ss2 cDt_len hy2 5 (by omega) rfl)) Try.underlying4 rfl) ?_
   refine Zr rfl rfl rfl rfl (V_bneq rfl Try.underlying4 rfl rfl) ?_
   refine Zr rfl rfl rfl rfl (Xg rfl rfl rfl) ?_
   refine Zr rfl rfl rfl rfl (Zc rfl rfl) ?_
   refine GQ_splitD 69 rfl (fun hc6 => ?_) (fun hc6 => ?_)
   · (first | contradiction | (exact absurd rfl hc6) | (exfalso; omega))
   refine Zr rfl rfl rfl rfl (Zc rfl rfl) ?_
   refine Zr rfl rfl rfl rfl (Zc rfl rfl) ?_
   refine Zr rfl rfl rfl rfl (Zo (s := 6) rfl Try.underlying107 i_212 rfl rfl rfl rfl (by omega)) ?_
   refine Zr rfl rfl rfl rfl (Zb (fo := _ + 3) rfl Try.underlying212 rfl i_210 rfl rfl rfl) ?_
   refine Zr rfl rfl rfl rfl (Zb (fo := _ + 1) rfl Try.underlying210 rfl i_207 rfl rfl rfl) ?_
   refine Zr rfl rfl rfl rfl (Zj rfl rfl (by rw [← Xc q1]; exact List.mem_append_left _ (Zf 0 rfl)) (Zt (Xr ss1 cDt_len hy 4 (by omega) rfl)) Try.underlying207 rfl) ?_
   refine Zr rfl rfl rfl rfl (Zc rfl rfl) ?_
   refine Zr rfl rfl rfl rfl (Zc rfl rfl) ?_
   refine Zr rfl rfl rfl rfl (Zo (s := 6) rfl Try.underlying107 i_212 rfl rfl rfl rfl (by omega)) ?_
   refine Zr rfl rfl rfl rfl (Zb (fo := _ + 3) rfl Try.underlying212 rfl i_210 rfl rfl rfl) ?_
   refine Zr rfl rfl rfl rfl (Zb (fo := _ + 1) rfl Try.underlying210 rfl i_207 rfl rfl rfl) ?_
   refine Zr rfl rfl rfl rfl (Zj rfl rfl (by rw [← Xc q2]; exact List.mem_append_left _ (Zf 1 rfl)) (Zt (Xr ss2 cDt_len hy2 4 (by omega) rfl)) Try.underlying207 rfl) ?_
   refine GQ_callM rfl rfl rfl rfl rfl rfl Try.call146 (rs_Fl y.s y2.s o1.1 o2.1 o1.2 o2.2 el (fun f hf => hgy _ (List.mem_map.2 ⟨f, hf, rfl⟩))) (sub_2 (fun z hz => List.mem_append_left _ (in_a1 hy hz)) (fun z hz => List.mem_append_left _ (in_a2 hy2 hz))) (fun v post hp => (hp : _ ∧ _).1) ?_
   refine Zr rfl rfl rfl rfl (V_not rfl rfl) ?_
   refine Zr rfl rfl rfl rfl (Xg rfl rfl rfl) ?_
   refine GQ_done rfl ?_
   refine Xu rfl ?_
   refine Zu ?_
   refine Zv ?_
   refine Zd (l := [0, 1, 2]) rfl ?_
   refine Za rfl rfl rfl rfl (Zc rfl rfl) ?_
   refine Za rfl rfl rfl rfl ((Xe rfl rfl rfl).int (Zw (by omega))) ?_
   refine Za rfl rfl rfl rfl (Zk rfl rfl) ?_
   refine Zg ?_
   refine Yi ?_ [] ?_ (ih (i + 1) ?_ ?_)
   · (refine (And.intro ?_ (And.intro ?_ (And.intro ?_ trivial))) <;> first | rfl | exact Zl (by omega) | (rw [p1]; rfl) | (rw [p2]; rfl))
   · exact ⟨_, rfl⟩
   · omega
   · (first | omega | (dsimp only; omega))
  refine Yr rfl ?_
  refine Zh ?_
  refine Zd (l := [0]) rfl ?_
  refine Za rfl rfl rfl rfl (Zk rfl rfl) ?_
  refine Zg ?_
  refine Yy (post := []) Try.func116 rfl (Zy (Yt rfl) Zp) [] rfl ?_
  dsimp only [packed]
  exact ⟨rfl, rfl⟩

end
end Go.Proofs.Ytjnaeoelnmhjfaa
