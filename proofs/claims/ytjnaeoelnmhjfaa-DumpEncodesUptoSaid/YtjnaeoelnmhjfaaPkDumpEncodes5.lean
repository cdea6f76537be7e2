/- What the law DumpEncodes needs, part 5.  -/
import Derived.Test.YtjnaeoelnmhjfaaPkDumpEncodes1
import Derived.Test.YtjnaeoelnmhjfaaPkDumpEncodes2
import Derived.Test.YtjnaeoelnmhjfaaPkDumpEncodes3
import Derived.Test.YtjnaeoelnmhjfaaPkDumpEncodes4


set_option linter.unusedSimpArgs false
set_option linter.unusedVariables false
namespace Go.Proofs.Ytjnaeoelnmhjfaa
open Go Go.RowKit

section
def poOf (n : List UInt8) (u : Int) (v1 v2 v3 : Sl) (T1 T2 T3 : TypeId) (l : List Cl) : Po := ⟨n, u, insOf v1 T1 (l.map Cl.v0), insOf v3 T3 (l.map Cl.s), insOf v2 T2 (l.map Cl.g)⟩
theorem zip_cls : ∀ l : List Cl, List.zipWith (fun a (p : Bool × Ins Tn) => (⟨a, p.1, p.2⟩ : Cl)) (l.map Cl.v0) ((l.map Cl.g).zip (l.map Cl.s)) = l
  | [] => rfl
  | x :: l => by
    show (⟨x.v0, x.g, x.s⟩ : Cl) :: _ = _
    exact congrArg (x :: ·) (zip_cls l)
theorem poOf_even (n : List UInt8) (u : Int) (v1 v2 v3 : Sl) (T1 T2 T3 : TypeId) (l : List Cl) : EvenPo (poOf n u v1 v2 v3 T1 T2 T3 l) := by simp [EvenPo, poOf, insOf]
theorem poOf_v (n : List UInt8) (u : Int) (v1 v2 v3 : Sl) (T1 T2 T3 : TypeId) (l : List Cl) : vPo (poOf n u v1 v2 v3 T1 T2 T3 l) = ⟨n, u, true, l.map vCl⟩ := by
  unfold vPo
  rw [if_pos (poOf_even ..), decide_eq_true (poOf_even ..)]
  show (⟨n, u, true, List.map vCl (clsOf (poOf n u v1 v2 v3 T1 T2 T3 l))⟩ : PP) = _
  rw [show clsOf (poOf n u v1 v2 v3 T1 T2 T3 l) = l from zip_cls l]
theorem poOf_c (n : List UInt8) (u : Int) (v1 v2 v3 : Sl) (T1 T2 T3 : TypeId) (l : List Cl) : (cPo (poOf n u v1 v2 v3 T1 T2 T3 l)).toArray = #[.string (bs n), .int .i64 u, v1.v l.length, v3.v l.length, v2.v l.length] := by simp [cPo, poOf, insOf, Sl.v]
theorem poOf_ok {n : List UInt8} {u : Int} {v1 v2 v3 : Sl} {T1 T2 T3 : TypeId} {l : List Cl} (hl : l.length ≤ 1000) (h1 : Own 1 v1 ((l.map Cl.v0).flatMap i1C) l.length) (h2 : Own 1 v2 ((l.map Cl.g).flatMap bC) l.length) (h3 : Own 1 v3 ((l.map Cl.s).flatMap shC) l.length) (hoks : ∀ m ∈ l, OkCl m) : OkPo (poOf n u v1 v2 v3 T1 T2 T3 l) := by
  refine ⟨Xd (by simpa using h1) (by simp; omega), Xd (by simpa using h2) (by simp; omega), Xd (by simpa using h3) (by simp; omega), fun s hs => ?_⟩
  obtain ⟨m, hm, rfl⟩ := List.mem_map.1 hs
  exact hoks m hm
theorem poOf_k {n : List UInt8} {u : Int} {v1 v2 v3 : Sl} {T1 T2 T3 : TypeId} {l : List Cl} {M : List HBk} {b : HBk} (hM : ∀ z ∈ b :: l.flatMap kCl, z ∈ M) : ∀ z ∈ kPo (poOf n u v1 v2 v3 T1 T2 T3 l), z ∈ (v1.ob, Obj.cells v1.cs T1 v1.fz) :: (v2.ob, Obj.cells v2.cs T2 v2.fz) :: (v3.ob, Obj.cells v3.cs T3 v3.fz) :: M := by
  refine sub_hd (sub_hd (sub_hd fun z hz => hM z (List.mem_cons_of_mem _ ?_)))
  obtain ⟨s, hs, hz⟩ := List.mem_flatMap.1 hz
  obtain ⟨m, hm, rfl⟩ := List.mem_map.1 hs
  exact List.mem_flatMap.2 ⟨m, hm, hz⟩
theorem Ye {α β : Type} (f : α → β) (g : β → List Value) {l : List α} {i : Nat} {y : α} (h : l[i]? = some y) : ((l.take i).map f).flatMap g ++ g (f y) = ((l.take (i + 1)).map f).flatMap g := by
  obtain ⟨hi, rfl⟩ := List.getElem?_eq_some_iff.1 h
  rw [List.take_succ_eq_append_getElem hi, List.map_append, List.flatMap_append]; exact congrArg _ (by simp)

set_option maxRecDepth 100000 in
set_option maxHeartbeats 4000000 in
theorem cr_pool (b br : Nat) (l : List UInt8) (e : Nat) (hl : l.length ≤ 140737488350000) (he : e ≤ 1000) (bx : Nat) (T : TypeId) :
    Ct Try.prog 104 [.pointer (some ⟨b, 0, none⟩), .pointer (some ⟨bx, 0, none⟩)] [(some b, .cells #[.pointer none, .slice none 0 0, .pointer (some ⟨br, 0, none⟩), .bool false] 80 (0, 0))] [(some br, .cells #[.string (bs l), .int .i64 ((e : Nat) : Int)] 169 (0, 0)), (some bx, .cells ((cPo (⟨[], 0, zIns Int, zIns (Ins Tn), zIns Bool⟩ : Po)).toArray) T (0, 0))] fun v post => ∃ (m : Po) (l1 : List UInt8) (e1 : Nat) (M : List HBk), OkPo m ∧ (∀ z ∈ kPo m, z ∈ M) ∧ Rdg encPP GPP l e (vPo m) l1 e1 ∧ v = .tuple #[] ∧ post = (some br, .cells #[.string (bs l1), .int .i64 ((e1 : Nat) : Int)] 169 (0, 0)) :: (some bx, .cells ((cPo m).toArray) T (0, 0)) :: M := by
 refine Yv Try.func104 rfl rfl (fun w0 => ?_)
 show G _ _ [(0, _), (1, _)] _ _
 refine Zi ?_
 refine Zd (l := [0, 1, 2, 3, 4, 5]) rfl ?_
 refine Za rfl rfl rfl rfl (Zc rfl rfl) ?_
 refine Za rfl rfl rfl rfl (Zc rfl rfl) ?_
 refine Za rfl rfl rfl rfl (Ze rfl rfl) ?_
 refine Za rfl rfl rfl rfl (Zb (fo := 0) rfl Try.underlying103 rfl i_9 rfl rfl rfl) ?_
 refine Yr rfl rfl rfl rfl (Zn (s := 1) (cs := [_]) rfl Try.underlying278 i_244 rfl rfl rfl rfl rfl rfl rfl rfl rfl) (fun b12 => ?_)
 refine Yh (L2 := [_]) rfl rfl rfl rfl rfl rfl Try.call142 (cr_textsL b br l e (by omega) (by omega) _ _ bx (cPo (⟨[], 0, zIns Int, zIns (Ins Tn), zIns Bool⟩ : Po)).toArray T [0] (by simp) (by intro y hy; simp only [List.mem_cons, List.not_mem_nil, or_false] at hy; subst hy; decide)) [1, 1] [1, 0] rfl rfl ?_
 rintro v post ⟨xs0, l1, e1, hxs, r0, rfl, rfl⟩
 show G _ _ _ [_, _, _] _
 obtain ⟨a0, rfl⟩ := len_1 hxs
 rw [show putAll (fun z : List UInt8 => Value.string (bs z)) (cPo (⟨[], 0, zIns Int, zIns (Ins Tn), zIns Bool⟩ : Po)).toArray [0] [a0] = #[.string (bs a0), .int .i64 0, .slice none 0 0, .slice none 0 0, .slice none 0 0] from rfl]
 have hl1_ := r0.len
 have he1_ := r0.err
 refine Zg ?_
 refine Zi ?_
 refine Zd (l := [0, 1, 2, 3, 4, 5]) rfl ?_
 refine Za rfl rfl rfl rfl (Zc rfl rfl) ?_
 refine Za rfl rfl rfl rfl (Zc rfl rfl) ?_
 refine Za rfl rfl rfl rfl (Ze rfl rfl) ?_
 refine Za rfl rfl rfl rfl (Zb (fo := 1) rfl Try.underlying103 rfl i_3 rfl rfl rfl) ?_
 refine Yr rfl rfl rfl rfl (Zn (s := 1) (cs := [_]) rfl Try.underlying241 i_176 rfl rfl rfl rfl rfl rfl rfl rfl rfl) (fun b18 => ?_)
 refine Yh (L2 := [_, _]) rfl rfl rfl rfl rfl rfl Try.call96 (cr_intsL b br l1 e1 (by omega) (by omega) _ _ bx #[.string (bs a0), .int .i64 0, .slice none 0 0, .slice none 0 0, .slice none 0 0] T [1] (by simp) (by intro y hy; simp only [List.mem_cons, List.not_mem_nil, or_false] at hy; subst hy; simp)) [1, 1] [1, 0] rfl rfl ?_
 rintro v post ⟨xs1, l2, e2, hxs1, r1, rfl, rfl⟩
 show G _ _ _ [_, _, _, _] _
 obtain ⟨a1, rfl⟩ := len_1 hxs1
 rw [show putAll (fun z : Int => Value.int .i64 z) #[.string (bs a0), .int .i64 0, .slice none 0 0, .slice none 0 0, .slice none 0 0] [1] [a1] = #[.string (bs a0), .int .i64 a1, .slice none 0 0, .slice none 0 0, .slice none 0 0] from rfl]
 have hl2_ := r1.len
 have he2_ := r1.err
 refine Zg ?_
 refine Zi ?_
 refine Zd (l := [0]) rfl ?_
 refine Yr rfl rfl rfl rfl (N_alloc1 rfl i_248 rfl rfl) (fun b4 => ?_)
 refine Zg ?_
 refine Zi ?_
 refine Zi ?_
 refine Ya (Lq := [_]) (isq := [2]) (m := 24) Ym rfl rfl ?_
 refine Zh 0 rfl rfl rfl rfl (by kernel_rfl) (fun _ _ => Zc rfl rfl) ?_
 refine Zh 1 rfl rfl rfl rfl (by kernel_rfl) (fun _ _ => Ze rfl rfl) ?_
 refine Zh 2 rfl rfl rfl rfl (by kernel_rfl) (fun _ _ => Zb (fo := 2) rfl Try.underlying103 rfl i_99 rfl rfl rfl) ?_
 refine Zh 3 rfl rfl rfl rfl (by kernel_rfl) (fun _ _ => Zj rfl rfl (Zf 1 rfl) rfl Try.underlying99 rfl) ?_
 refine Zh 4 rfl rfl rfl rfl (by kernel_rfl) (fun _ _ => Yf rfl rfl Try.underlying99 rfl) ?_
 refine Zh 5 rfl rfl rfl rfl (by kernel_rfl) (fun _ _ => Zc rfl rfl) ?_
 refine Zh 6 rfl rfl rfl rfl (by kernel_rfl) (fun _ _ => Ze rfl rfl) ?_
 refine Zh 7 rfl rfl rfl rfl (by kernel_rfl) (fun _ _ => Zb (fo := 3) rfl Try.underlying103 rfl i_100 rfl rfl rfl) ?_
 refine Zh 8 rfl rfl rfl rfl (by kernel_rfl) (fun _ _ => Zj rfl rfl (Zf 1 rfl) rfl Try.underlying100 rfl) ?_
 refine Zh 9 rfl rfl rfl rfl (by kernel_rfl) (fun _ _ => Yf rfl rfl Try.underlying100 rfl) ?_
 refine Zh 10 rfl rfl rfl rfl (by kernel_rfl) (fun _ _ => V_neq rfl rfl rfl) ?_
 refine Zh 11 rfl rfl rfl rfl (by kernel_rfl) (fun _ _ => Zc rfl rfl) ?_
 refine GH_splitD 31 rfl (fun hc1 => ?_) (fun hc1 => ?_)
 · (first | contradiction | (exact absurd rfl hc1) | (exfalso; omega) | (simp at hc1; done) | (exact absurd hc1 (by decide)) | (exact absurd (by decide) hc1))
 refine Zh 12 rfl rfl rfl rfl (by kernel_rfl) (fun _ _ => Zc rfl rfl) ?_
 refine Zh 13 rfl rfl rfl rfl (by kernel_rfl) (fun _ _ => Ze rfl rfl) ?_
 refine Zh 14 rfl rfl rfl rfl (by kernel_rfl) (fun _ _ => Zb (fo := 2) rfl Try.underlying103 rfl i_99 rfl rfl rfl) ?_
 refine Zh 15 rfl rfl rfl rfl (by kernel_rfl) (fun _ _ => Zj rfl rfl (Zf 1 rfl) rfl Try.underlying99 rfl) ?_
 refine Zh 16 rfl rfl rfl rfl (by kernel_rfl) (fun _ _ => Yf rfl rfl Try.underlying99 rfl) ?_
 refine Zh 17 rfl rfl rfl rfl (by kernel_rfl) (fun _ _ => Zc rfl rfl) ?_
 refine Zh 18 rfl rfl rfl rfl (by kernel_rfl) (fun _ _ => Ze rfl rfl) ?_
 refine Zh 19 rfl rfl rfl rfl (by kernel_rfl) (fun _ _ => Zb (fo := 4) rfl Try.underlying103 rfl i_101 rfl rfl rfl) ?_
 refine Zh 20 rfl rfl rfl rfl (by kernel_rfl) (fun _ _ => Zj rfl rfl (Zf 1 rfl) rfl Try.underlying101 rfl) ?_
 refine Zh 21 rfl rfl rfl rfl (by kernel_rfl) (fun _ _ => Yf rfl rfl Try.underlying101 rfl) ?_
 refine Zh 22 rfl rfl rfl rfl (by kernel_rfl) (fun _ _ => V_neq rfl rfl rfl) ?_
 refine Zh 23 rfl rfl rfl rfl (by kernel_rfl) (fun _ _ => Xu rfl rfl rfl) ?_
 refine Zw (by kernel_rfl) ?_
 refine Yl rfl (fun hc2 => ?_) (fun hc2 => ?_)
 · (first | contradiction | (exact absurd rfl hc2) | (exfalso; omega) | (simp at hc2; done) | (exact absurd hc2 (by decide)) | (exact absurd (by decide) hc2))
 refine Zu ?_
 refine Zi ?_
 refine Zi ?_
 refine Zd (l := [0, 1, 2, 3, 4, 5]) rfl ?_
 refine Za rfl rfl rfl rfl (Zc rfl rfl) ?_
 refine Za rfl rfl rfl rfl (Ze rfl rfl) ?_
 refine Za rfl rfl rfl rfl (Zb (fo := 2) rfl Try.underlying103 rfl i_99 rfl rfl rfl) ?_
 refine Za rfl rfl rfl rfl (Zj rfl rfl (Zf 3 rfl) rfl Try.underlying99 rfl) ?_
 refine Za rfl rfl rfl rfl (Yf rfl rfl Try.underlying99 rfl) ?_
 refine Za rfl rfl rfl rfl (Zc rfl rfl) ?_
 refine Zg ?_
 refine Zp ?_
 refine G_loop1 ?_
 refine Zi ?_
 refine Zd (l := [0]) rfl ?_
 refine Za rfl rfl rfl rfl (Xh rfl rfl rfl) ?_
 refine Zg ?_
 refine Zi ?_
 refine Yl rfl (fun hc3 => ?_) (fun hc3 => ?_)
 · (first | contradiction | (exact absurd rfl hc3) | (exfalso; omega) | (simp at hc3; done) | (exact absurd hc3 (by decide)) | (exact absurd (by decide) hc3))
 refine Yx rfl ?_
 refine Zi ?_
 refine Zd (l := [0, 1, 2, 3]) rfl ?_
 refine Za rfl rfl rfl rfl (Zc rfl rfl) ?_
 refine Za rfl rfl rfl rfl (Zc rfl rfl) ?_
 refine Za rfl rfl rfl rfl (V_func rfl rfl rfl) ?_
 refine Yh (L2 := [_, _, _]) rfl rfl rfl rfl rfl rfl Try.call143 (cr_listCl b br l2 e2 (by omega) (by omega) b4 0 #[.slice none 0 0] _ rfl) [1, 0] [0] rfl rfl ?_
 rintro v post ⟨s, l3, e3, M, hso, hsl, r2, hoks, hM, rfl, rfl⟩
 refine G_perm (perm_in0 [_, _] [_, _, _] _) ?_
 show G _ _ _ (_ :: _ :: _ :: _ :: _ :: _) _
 rw [show (#[.slice none 0 0] : Array Value).setIfInBounds 0 (insV s) = #[insV s] from rfl]
 refine Zg ?_
 refine Zi ?_
 refine Zi ?_
 refine Zd (l := [0, 1, 2, 3, 4]) rfl ?_
 refine Za rfl rfl rfl rfl (Zc rfl rfl) ?_
 refine Za rfl rfl rfl rfl (Ze rfl rfl) ?_
 refine Za rfl rfl rfl rfl (Zb (fo := 2) rfl Try.underlying80 rfl i_74 rfl rfl rfl) ?_
 refine Za rfl rfl rfl rfl (Zj rfl rfl (Zf 0 rfl) rfl Try.underlying74 rfl) ?_
 refine Za rfl rfl rfl rfl (V_peqlN rfl Try.underlying74 rfl rfl) ?_
 refine Zg ?_
 refine G_else rfl ?_
 refine Zu ?_
 refine Zi ?_
 refine G_addNone (.cells #[] 109 (0, 0)) ?_
 refine G_addNone (.cells #[] 4 (0, 0)) ?_
 refine G_addNone (.cells #[] 3 (0, 0)) ?_
 refine Zd (l := [0, 1, 2]) rfl ?_
 refine Za rfl rfl rfl rfl (Zj rfl rfl (Zf 5 rfl) rfl Try.underlying248 rfl) ?_
 refine Za rfl rfl rfl rfl (Yf rfl rfl Try.underlying248 rfl) ?_
 refine Za rfl rfl rfl rfl (Zc rfl rfl) ?_
 refine Zg ?_
 refine Zp ?_
 refine Xy (L1 := [_, _, _, _, _]) ?he13 [3, 4, 0, 0, 0] ?hl13 (Xc (X := Nat × Sl × Sl × Sl) (fun x_ => match x_ with | ⟨i, v1, v2, v3⟩ => i ≤ s.l.length ∧ Own 1 v1 (((s.l.take (i)).map Cl.v0).flatMap i1C) (i) ∧ Own 1 v2 (((s.l.take (i)).map Cl.g).flatMap bC) (i) ∧ Own 1 v3 (((s.l.take (i)).map Cl.s).flatMap shC) (i)) (fun x_ => match x_ with | ⟨i, v1, v2, v3⟩ => s.l.length - i) (fun x_ => match x_ with | ⟨i, v1, v2, v3⟩ => [(0, .pointer (some ⟨b, 0, none⟩)), (1, .pointer (some ⟨bx, 0, none⟩)), (90, .slice s.p s.l.length s.cap), (91, .int .i64 (s.l.length : Int)), (92, .int .i64 (i : Int))]) (fun x_ => match x_ with | ⟨i, v1, v2, v3⟩ => ((some br, .cells #[.string (bs l3), .int .i64 ((e3 : Nat) : Int)] 169 (0, 0)) :: (some bx, .cells (#[.string (bs a0), .int .i64 a1, v1.v i, v3.v i, v2.v i]) T (0, 0)) :: (v1.ob, .cells v1.cs 3 v1.fz) :: (v2.ob, .cells v2.cs 4 v2.fz) :: (v3.ob, .cells v3.cs 109 v3.fz) :: M)) ?round13 (0, slNil, slNil, slNil) ?h013)
 case he13 => exact (And.intro rfl (And.intro rfl (And.intro rfl (And.intro rfl (And.intro rfl trivial)))))
 case hl13 => exact ⟨_, _, rfl, List.perm_append_comm (l₁ := [_, _, _])⟩
 case h013 => exact ⟨Nat.zero_le _, own_nil 1, own_nil 1, own_nil 1⟩
 case round13 =>
  intro x_ hJ ih
  try dsimp only at hJ ih
  obtain ⟨i, v1, v2, v3⟩ := x_
  try dsimp only at hJ ih
  obtain ⟨hi, h1, h2, h3⟩ := hJ
  show G _ _ [(0, .pointer (some ⟨b, 0, none⟩)), (1, .pointer (some ⟨bx, 0, none⟩)), (90, .slice s.p s.l.length s.cap), (91, .int .i64 (s.l.length : Int)), (92, .int .i64 (i : Int))] ((some br, .cells #[.string (bs l3), .int .i64 ((e3 : Nat) : Int)] 169 (0, 0)) :: (some bx, .cells (#[.string (bs a0), .int .i64 a1, v1.v i, v3.v i, v2.v i]) T (0, 0)) :: (v1.ob, .cells v1.cs 3 v1.fz) :: (v2.ob, .cells v2.cs 4 v2.fz) :: (v3.ob, .cells v3.cs 109 v3.fz) :: M) _
  refine Zi ?_
  refine Zd (l := [0]) rfl ?_
  refine Za rfl rfl rfl rfl (Xh rfl rfl rfl) ?_
  refine Zg ?_
  refine Zi ?_
  refine Yl rfl (fun hc4 => ?_) (fun hc4 => ?_)
  ·
   refine Zu ?_
   refine Zi ?_
   refine Zp ?_
   refine Zi ?_
   obtain ⟨c, hc⟩ := Xv (show i < s.l.length by omega)
   obtain ⟨bi, hb1, hb2, hss⟩ := hso.isS (i := i) (by omega)
   rw [hb1]
   refine Zd (l := [0, 1, 2, 3]) rfl ?_
   refine Za rfl rfl rfl rfl (Zl (s := 3) rfl Try.underlying248 i_250 rfl rfl rfl rfl (by omega)) ?_
   refine Za rfl rfl rfl rfl (Xm (s := 3) (vs := (cCl c).toArray) rfl rfl (by rw [← Yg hb2]; exact List.mem_append_right _ (List.mem_append_right ([_, _, _, _, _] : List HBk) (hM _ List.mem_cons_self))) Try.underlying250 rfl i_250 rfl (hss.elem cCl_len hc) (by rfl)) ?_
   refine Yr rfl rfl rfl rfl (Xb rfl i_250 rfl) (fun b7 => ?_)
   refine Xl (l1 := []) (L' := (_ :: _ :: _ :: _ :: _ :: _ :: _)) rfl rfl rfl rfl (Xk (s := 3) rfl rfl rfl (Zf 0 rfl) (by rfl) i_250 rfl (by rfl) (by simp [Value.oneCell', cOp, cWk, cIv, cHr, cLt, cWt, cIt, cFl, cTn, cCl, cPo, cSt, cDt, cDs, Sl.v, zIns, insV])) rfl ?_
   refine Zg ?_
   refine GP_start 29 (Lq := [_, _]) (isq := [2, 0]) (m := 36) Ym rfl rfl ?_
   refine GP_join (X := {y : Sl × Sl × Sl // Own 1 y.1 (((s.l.take (i + 1)).map Cl.v0).flatMap i1C) (i + 1) ∧ Own 1 y.2.1 (((s.l.take (i + 1)).map Cl.g).flatMap bC) (i + 1) ∧ Own 1 y.2.2 (((s.l.take (i + 1)).map Cl.s).flatMap shC) (i + 1)}) (fun xj => match xj with | ⟨⟨y1, y2, y3⟩, hy⟩ => [(0, .pointer (some ⟨b, 0, none⟩)), (1, .pointer (some ⟨bx, 0, none⟩)), (90, .slice (some ⟨bi, s.off, none⟩) s.l.length s.cap), (91, .int .i64 (s.l.length : Int)), (92, .int .i64 (i : Int))]) (fun xj => match xj with | ⟨⟨y1, y2, y3⟩, hy⟩ => ((some br, .cells #[.string (bs l3), .int .i64 ((e3 : Nat) : Int)] 169 (0, 0)) :: (some bx, .cells (#[.string (bs a0), .int .i64 a1, y1.v (i + 1), y3.v (i + 1), y2.v (i + 1)]) T (0, 0)) :: (y1.ob, .cells y1.cs 3 y1.fz) :: (y2.ob, .cells y2.cs 4 y2.fz) :: (y3.ob, .cells y3.cs 109 y3.fz) :: M)) ?rest15 (fun jn15 => ?main15)
   case rest15 =>
    intro xj
    obtain ⟨⟨y1, y2, y3⟩, hy⟩ := xj
    show G _ _ [(0, .pointer (some ⟨b, 0, none⟩)), (1, .pointer (some ⟨bx, 0, none⟩)), (90, .slice (some ⟨bi, s.off, none⟩) s.l.length s.cap), (91, .int .i64 (s.l.length : Int)), (92, .int .i64 (i : Int))] ((some br, .cells #[.string (bs l3), .int .i64 ((e3 : Nat) : Int)] 169 (0, 0)) :: (some bx, .cells (#[.string (bs a0), .int .i64 a1, y1.v (i + 1), y3.v (i + 1), y2.v (i + 1)]) T (0, 0)) :: (y1.ob, .cells y1.cs 3 y1.fz) :: (y2.ob, .cells y2.cs 4 y2.fz) :: (y3.ob, .cells y3.cs 109 y3.fz) :: M) _
    refine Zs ?_
    refine Zd (l := [0, 1]) rfl ?_
    refine Za rfl rfl rfl rfl ((Yu rfl rfl rfl).int (Zv (by omega))) ?_
    refine Za rfl rfl rfl rfl (Zc rfl rfl) ?_
    refine Zg ?_
    refine Xy (L1 := [_, _, _, _, _]) ?_ [0, 0, 0, 0, 0] ?_ (ih (i + 1, y1, y2, y3) ?_ ?_)
    · (refine (And.intro ?_ (And.intro ?_ (And.intro ?_ (And.intro ?_ (And.intro ?_ trivial))))) <;> first | rfl | exact Zm (by omega) | (rw [hb1]; rfl))
    · exact ⟨_, _, rfl, List.perm_append_comm (l₁ := [])⟩
    · exact ⟨by omega, hy⟩
    · (first | omega | (dsimp only; omega))
   case main15 =>
    refine Zx 0 rfl rfl rfl rfl (by kernel_rfl) (by kernel_rfl) (by kernel_rfl) (by decide) (fun _ _ => (Zc rfl rfl)) ?_
    refine Zx 1 rfl rfl rfl rfl (by kernel_rfl) (by kernel_rfl) (by kernel_rfl) (by decide) (fun _ _ => (Zc rfl rfl)) ?_
    refine Zx 2 rfl rfl rfl rfl (by kernel_rfl) (by kernel_rfl) (by kernel_rfl) (by decide) (fun _ _ => (Zc rfl rfl)) ?_
    refine Zx 3 rfl rfl rfl rfl (by kernel_rfl) (by kernel_rfl) (by kernel_rfl) (by decide) (fun _ _ => (Zc rfl rfl)) ?_
    refine Zx 4 rfl rfl rfl rfl (by kernel_rfl) (by kernel_rfl) (by kernel_rfl) (by decide) (fun _ _ => (Ze rfl rfl)) ?_
    refine Zx 5 rfl rfl rfl rfl (by kernel_rfl) (by kernel_rfl) (by kernel_rfl) (by decide) (fun _ _ => (Zb (fo := 2) rfl Try.underlying103 rfl i_99 rfl rfl rfl)) ?_
    refine GP_takeL 6 [] rfl rfl rfl rfl (by kernel_rfl) (by kernel_rfl) (by kernel_rfl) (by decide) (by kernel_rfl) (by kernel_rfl) (fun _ _ => (Zj rfl rfl (Zf 1 rfl) rfl Try.underlying99 rfl)) ?_
    refine Zx 7 rfl rfl rfl rfl (by kernel_rfl) (by kernel_rfl) (by kernel_rfl) (by decide) (fun _ _ => (Zb (fo := 0) rfl Try.underlying250 rfl i_3 rfl rfl rfl)) ?_
    refine GP_takeL 8 [] rfl rfl rfl rfl (by kernel_rfl) (by kernel_rfl) (by kernel_rfl) (by decide) (by kernel_rfl) (by kernel_rfl) (fun _ _ => (Zj rfl rfl (Zf 2 rfl) rfl Try.underlying3 rfl)) ?_
    refine Zx 11 rfl rfl rfl rfl (by kernel_rfl) (by kernel_rfl) (by kernel_rfl) (by decide) (fun _ _ => (Zc rfl rfl)) ?_
    refine Zx 12 rfl rfl rfl rfl (by kernel_rfl) (by kernel_rfl) (by kernel_rfl) (by decide) (fun _ _ => (Ze rfl rfl)) ?_
    refine Zx 13 rfl rfl rfl rfl (by kernel_rfl) (by kernel_rfl) (by kernel_rfl) (by decide) (fun _ _ => (Zb (fo := 4) rfl Try.underlying103 rfl i_101 rfl rfl rfl)) ?_
    refine GP_takeL 14 [] rfl rfl rfl rfl (by kernel_rfl) (by kernel_rfl) (by kernel_rfl) (by decide) (by kernel_rfl) (by kernel_rfl) (fun _ _ => (Zj rfl rfl (Zf 1 rfl) rfl Try.underlying101 rfl)) ?_
    refine Zx 15 rfl rfl rfl rfl (by kernel_rfl) (by kernel_rfl) (by kernel_rfl) (by decide) (fun _ _ => (Zb (fo := 1) rfl Try.underlying250 rfl i_4 rfl rfl rfl)) ?_
    refine GP_takeL 16 [18, 17] rfl rfl rfl rfl (by kernel_rfl) (by kernel_rfl) (by kernel_rfl) (by decide) (by kernel_rfl) (by kernel_rfl) (fun _ _ => (Zj rfl rfl (Zf 2 rfl) rfl Try.underlying4 rfl)) ?_
    refine Zx 19 rfl rfl rfl rfl (by kernel_rfl) (by kernel_rfl) (by kernel_rfl) (by decide) (fun _ _ => (Zc rfl rfl)) ?_
    refine Zx 20 rfl rfl rfl rfl (by kernel_rfl) (by kernel_rfl) (by kernel_rfl) (by decide) (fun _ _ => (Ze rfl rfl)) ?_
    refine Zx 21 rfl rfl rfl rfl (by kernel_rfl) (by kernel_rfl) (by kernel_rfl) (by decide) (fun _ _ => (Zb (fo := 3) rfl Try.underlying103 rfl i_100 rfl rfl rfl)) ?_
    refine GP_takeL 22 [] rfl rfl rfl rfl (by kernel_rfl) (by kernel_rfl) (by kernel_rfl) (by decide) (by kernel_rfl) (by kernel_rfl) (fun _ _ => (Zj rfl rfl (Zf 1 rfl) rfl Try.underlying100 rfl)) ?_
    refine Zx 23 rfl rfl rfl rfl (by kernel_rfl) (by kernel_rfl) (by kernel_rfl) (by decide) (fun _ _ => (Zb (fo := 2) rfl Try.underlying250 rfl i_109 rfl rfl rfl)) ?_
    refine GP_takeL 24 [26, 25] rfl rfl rfl rfl (by kernel_rfl) (by kernel_rfl) (by kernel_rfl) (by decide) (by kernel_rfl) (by kernel_rfl) (fun _ _ => (Zj rfl rfl (Zf 2 rfl) rfl Try.underlying109 rfl)) ?_
    refine GP_all [9, 17, 25] (by kernel_rfl) (by decide) ?_
    refine (And.intro ?_ (And.intro ?_ (And.intro ?_ trivial)))
    ·
     refine GPop_new rfl rfl rfl rfl (Zn (s := 1) (cs := [_]) rfl Try.underlying99 i_3 rfl rfl rfl rfl rfl rfl rfl rfl rfl) [3, 1] (fun _ => ⟨_, rfl⟩) (fun b105 => ?_)
     refine GP_all [10, 17, 25] (by kernel_rfl) (by decide) ?_
     refine (And.intro ?_ (And.intro ?_ (And.intro ?_ trivial)))
     ·
      refine Yq (l1 := [_, _, _, _]) (sl := v1) (nn := i) (m := 1) (news := (i1C c.v0)) (bt := 8) rfl rfl rfl rfl Try.underlying99 Try.underlying99 (by first | exact .inl rfl | exact .inr ⟨_, rfl⟩) i_3 rfl rfl rfl rfl rfl rfl h1 rfl (Yp (Zf 1 rfl) rfl rfl (by simp [i1C, Value.oneCell'])) (by omega) (by omega) [3, 1] (fun _ => ⟨_, rfl⟩) ?_
      intro w1 hw1 _
      show GP _ _ _ _ _ _ _ _ (_ :: _ :: _ :: _ :: _ :: _ :: _ :: _) _
      refine GP_all [17, 25] (by kernel_rfl) (by decide) ?_
      refine (And.intro ?_ (And.intro ?_ trivial))
      ·
       refine GPop_new rfl rfl rfl rfl (Zn (s := 1) (cs := [_]) rfl Try.underlying101 i_4 rfl rfl rfl rfl rfl rfl rfl rfl rfl) [4, 2] (fun _ => ⟨_, rfl⟩) (fun b113 => ?_)
       refine GP_all [18, 25] (by kernel_rfl) (by decide) ?_
       refine (And.intro ?_ (And.intro ?_ trivial))
       ·
        refine Yq (l1 := [_, _, _, _, _, _]) (sl := v2) (nn := i) (m := 1) (news := (bC c.g)) (bt := 1) rfl rfl rfl rfl Try.underlying101 Try.underlying101 (by first | exact .inl rfl | exact .inr ⟨_, rfl⟩) i_4 rfl rfl rfl rfl rfl rfl h2 rfl (Yp (Zf 1 rfl) rfl rfl (by simp [bC, Value.oneCell'])) (by omega) (by omega) [4, 2] (fun _ => ⟨_, rfl⟩) ?_
        intro w2 hw2 _
        show GP _ _ _ _ _ _ _ _ (_ :: _ :: _ :: _ :: _ :: _ :: _ :: _ :: _) _
        refine GP_all [25] (by kernel_rfl) (by decide) ?_
        refine (And.intro ?_ trivial)
        ·
         refine GPop_new rfl rfl rfl rfl (Zn (s := 1) (cs := [_]) rfl Try.underlying100 i_109 rfl rfl rfl rfl rfl rfl rfl rfl rfl) [5, 3] (fun _ => ⟨_, rfl⟩) (fun b121 => ?_)
         refine GP_all [26] (by kernel_rfl) (by decide) ?_
         refine (And.intro ?_ trivial)
         ·
          refine Yq (l1 := [_, _, _, _, _, _, _, _]) (sl := v3) (nn := i) (m := 1) (news := (shC c.s)) (bt := 24) rfl rfl rfl rfl Try.underlying100 Try.underlying100 (by first | exact .inl rfl | exact .inr ⟨_, rfl⟩) i_109 rfl rfl rfl rfl rfl rfl h3 rfl (Yp (Zf 1 rfl) rfl rfl (by simp [shC, Value.oneCell'])) (by omega) (by omega) [5, 3] (fun _ => ⟨_, rfl⟩) ?_
          intro w3 hw3 _
          show GP _ _ _ _ _ _ _ _ (_ :: _ :: _ :: _ :: _ :: _ :: _ :: _ :: _ :: _) _
          refine Zx 27 rfl rfl rfl rfl (by kernel_rfl) (by kernel_rfl) (by kernel_rfl) (by decide) (fun _ _ => (Ze rfl rfl)) ?_
          refine Zx 28 rfl rfl rfl rfl (by kernel_rfl) (by kernel_rfl) (by kernel_rfl) (by decide) (fun _ _ => (Zb (fo := 2) rfl Try.underlying103 rfl i_99 rfl rfl rfl)) ?_
          refine GP_all [29] (by kernel_rfl) (by decide) ?_
          refine (And.intro ?_ trivial)
          ·
           refine Xg (l1 := [_, _, _, _, _]) (L' := (_ :: _ :: _ :: _ :: _ :: _ :: _ :: _ :: _ :: _)) rfl rfl rfl rfl (Zq rfl rfl rfl (Zf 5 rfl) (by first | exact of_decide_eq_true rfl | omega | (simp [cOp, cWk, cIv, cHr, cLt, cWt, cIt, cFl, cTn, cCl, cPo, cSt, cDt, cDs, Sl.v, zIns, insV]; done) | (simp [cOp, cWk, cIv, cHr, cLt, cWt, cIt, cFl, cTn, cCl, cPo, cSt, cDt, cDs, Sl.v, zIns, insV]; omega) | (simp [cOp, cWk, cIv, cHr, cLt, cWt, cIt, cFl, cTn, cCl, cPo, cSt, cDt, cDs, Sl.v, zIns, insV] at *; omega)) i_99 rfl rfl) rfl (by kernel_rfl) ?_
           refine Zx 30 rfl rfl rfl rfl (by kernel_rfl) (by kernel_rfl) (by kernel_rfl) (by decide) (fun _ _ => (Ze rfl rfl)) ?_
           refine Zx 31 rfl rfl rfl rfl (by kernel_rfl) (by kernel_rfl) (by kernel_rfl) (by decide) (fun _ _ => (Zb (fo := 4) rfl Try.underlying103 rfl i_101 rfl rfl rfl)) ?_
           refine GP_all [32] (by kernel_rfl) (by decide) ?_
           refine (And.intro ?_ trivial)
           ·
            refine Xg (l1 := [_, _, _, _, _]) (L' := (_ :: _ :: _ :: _ :: _ :: _ :: _ :: _ :: _ :: _)) rfl rfl rfl rfl (Zq rfl rfl rfl (Zf 5 rfl) (by first | exact of_decide_eq_true rfl | omega | (simp [cOp, cWk, cIv, cHr, cLt, cWt, cIt, cFl, cTn, cCl, cPo, cSt, cDt, cDs, Sl.v, zIns, insV]; done) | (simp [cOp, cWk, cIv, cHr, cLt, cWt, cIt, cFl, cTn, cCl, cPo, cSt, cDt, cDs, Sl.v, zIns, insV]; omega) | (simp [cOp, cWk, cIv, cHr, cLt, cWt, cIt, cFl, cTn, cCl, cPo, cSt, cDt, cDs, Sl.v, zIns, insV] at *; omega)) i_101 rfl rfl) rfl (by kernel_rfl) ?_
            refine Zx 33 rfl rfl rfl rfl (by kernel_rfl) (by kernel_rfl) (by kernel_rfl) (by decide) (fun _ _ => (Ze rfl rfl)) ?_
            refine Zx 34 rfl rfl rfl rfl (by kernel_rfl) (by kernel_rfl) (by kernel_rfl) (by decide) (fun _ _ => (Zb (fo := 3) rfl Try.underlying103 rfl i_100 rfl rfl rfl)) ?_
            refine GP_all [35] (by kernel_rfl) (by decide) ?_
            refine (And.intro ?_ trivial)
            ·
             refine Xg (l1 := [_, _, _, _, _]) (L' := (_ :: _ :: _ :: _ :: _ :: _ :: _ :: _ :: _ :: _)) rfl rfl rfl rfl (Zq rfl rfl rfl (Zf 5 rfl) (by first | exact of_decide_eq_true rfl | omega | (simp [cOp, cWk, cIv, cHr, cLt, cWt, cIt, cFl, cTn, cCl, cPo, cSt, cDt, cDs, Sl.v, zIns, insV]; done) | (simp [cOp, cWk, cIv, cHr, cLt, cWt, cIt, cFl, cTn, cCl, cPo, cSt, cDt, cDs, Sl.v, zIns, insV]; omega) | (simp [cOp, cWk, cIv, cHr, cLt, cWt, cIt, cFl, cTn, cCl, cPo, cSt, cDt, cDs, Sl.v, zIns, insV] at *; omega)) i_100 rfl rfl) rfl (by kernel_rfl) ?_
             refine GP_done (by kernel_rfl) ?_
             exact Xy (L1 := [_, _, _, _, _]) (by exact (And.intro rfl (And.intro rfl (And.intro rfl (And.intro rfl (And.intro rfl trivial)))))) [4, 4, 4, 4, 4] (by exact ⟨_, _, rfl, List.perm_append_comm (l₁ := [_, _, _, _])⟩) (jn15 ⟨(w1, w2, w3), by rw [← Ye Cl.v0 i1C hc, ← Ye Cl.g bC hc, ← Ye Cl.s shC hc]; exact ⟨hw1, hw2, hw3⟩⟩)
       ·
        refine GPop_new rfl rfl rfl rfl (Zn (s := 1) (cs := [_]) rfl Try.underlying100 i_109 rfl rfl rfl rfl rfl rfl rfl rfl rfl) [5, 3] (fun _ => ⟨_, rfl⟩) (fun b121 => ?_)
        refine GP_all [18] (by kernel_rfl) (by decide) ?_
        refine (And.intro ?_ trivial)
        ·
         refine Yq (l1 := [_, _, _, _, _, _, _]) (sl := v2) (nn := i) (m := 1) (news := (bC c.g)) (bt := 1) rfl rfl rfl rfl Try.underlying101 Try.underlying101 (by first | exact .inl rfl | exact .inr ⟨_, rfl⟩) i_4 rfl rfl rfl rfl rfl rfl h2 rfl (Yp (Zf 2 rfl) rfl rfl (by simp [bC, Value.oneCell'])) (by omega) (by omega) [5, 3] (fun _ => ⟨_, rfl⟩) ?_
         intro w2 hw2 _
         show GP _ _ _ _ _ _ _ _ (_ :: _ :: _ :: _ :: _ :: _ :: _ :: _ :: _ :: _) _
         refine GP_all [26] (by kernel_rfl) (by decide) ?_
         refine (And.intro ?_ trivial)
         ·
          refine Yq (l1 := [_, _, _, _, _, _, _, _]) (sl := v3) (nn := i) (m := 1) (news := (shC c.s)) (bt := 24) rfl rfl rfl rfl Try.underlying100 Try.underlying100 (by first | exact .inl rfl | exact .inr ⟨_, rfl⟩) i_109 rfl rfl rfl rfl rfl rfl h3 rfl (Yp (Zf 1 rfl) rfl rfl (by simp [shC, Value.oneCell'])) (by omega) (by omega) [5, 3] (fun _ => ⟨_, rfl⟩) ?_
          intro w3 hw3 _
          show GP _ _ _ _ _ _ _ _ (_ :: _ :: _ :: _ :: _ :: _ :: _ :: _ :: _ :: _) _
          refine Zx 27 rfl rfl rfl rfl (by kernel_rfl) (by kernel_rfl) (by kernel_rfl) (by decide) (fun _ _ => (Ze rfl rfl)) ?_
          refine Zx 28 rfl rfl rfl rfl (by kernel_rfl) (by kernel_rfl) (by kernel_rfl) (by decide) (fun _ _ => (Zb (fo := 2) rfl Try.underlying103 rfl i_99 rfl rfl rfl)) ?_
          refine GP_all [29] (by kernel_rfl) (by decide) ?_
          refine (And.intro ?_ trivial)
          ·
           refine Xg (l1 := [_, _, _, _, _]) (L' := (_ :: _ :: _ :: _ :: _ :: _ :: _ :: _ :: _ :: _)) rfl rfl rfl rfl (Zq rfl rfl rfl (Zf 5 rfl) (by first | exact of_decide_eq_true rfl | omega | (simp [cOp, cWk, cIv, cHr, cLt, cWt, cIt, cFl, cTn, cCl, cPo, cSt, cDt, cDs, Sl.v, zIns, insV]; done) | (simp [cOp, cWk, cIv, cHr, cLt, cWt, cIt, cFl, cTn, cCl, cPo, cSt, cDt, cDs, Sl.v, zIns, insV]; omega) | (simp [cOp, cWk, cIv, cHr, cLt, cWt, cIt, cFl, cTn, cCl, cPo, cSt, cDt, cDs, Sl.v, zIns, insV] at *; omega)) i_99 rfl rfl) rfl (by kernel_rfl) ?_
           refine Zx 30 rfl rfl rfl rfl (by kernel_rfl) (by kernel_rfl) (by kernel_rfl) (by decide) (fun _ _ => (Ze rfl rfl)) ?_
           refine Zx 31 rfl rfl rfl rfl (by kernel_rfl) (by kernel_rfl) (by kernel_rfl) (by decide) (fun _ _ => (Zb (fo := 4) rfl Try.underlying103 rfl i_101 rfl rfl rfl)) ?_
           refine GP_all [32] (by kernel_rfl) (by decide) ?_
           refine (And.intro ?_ trivial)
           ·
            refine Xg (l1 := [_, _, _, _, _]) (L' := (_ :: _ :: _ :: _ :: _ :: _ :: _ :: _ :: _ :: _)) rfl rfl rfl rfl (Zq rfl rfl rfl (Zf 5 rfl) (by first | exact of_decide_eq_true rfl | omega | (simp [cOp, cWk, cIv, cHr, cLt, cWt, cIt, cFl, cTn, cCl, cPo, cSt, cDt, cDs, Sl.v, zIns, insV]; done) | (simp [cOp, cWk, cIv, cHr, cLt, cWt, cIt, cFl, cTn, cCl, cPo, cSt, cDt, cDs, Sl.v, zIns, insV]; omega) | (simp [cOp, cWk, cIv, cHr, cLt, cWt, cIt, cFl, cTn, cCl, cPo, cSt, cDt, cDs, Sl.v, zIns, insV] at *; omega)) i_101 rfl rfl) rfl (by kernel_rfl) ?_
            refine Zx 33 rfl rfl rfl rfl (by kernel_rfl) (by kernel_rfl) (by kernel_rfl) (by decide) (fun _ _ => (Ze rfl rfl)) ?_
            refine Zx 34 rfl rfl rfl rfl (by kernel_rfl) (by kernel_rfl) (by kernel_rfl) (by decide) (fun _ _ => (Zb (fo := 3) rfl Try.underlying103 rfl i_100 rfl rfl rfl)) ?_
            refine GP_all [35] (by kernel_rfl) (by decide) ?_
            refine (And.intro ?_ trivial)
            ·
             refine Xg (l1 := [_, _, _, _, _]) (L' := (_ :: _ :: _ :: _ :: _ :: _ :: _ :: _ :: _ :: _)) rfl rfl rfl rfl (Zq rfl rfl rfl (Zf 5 rfl) (by first | exact of_decide_eq_true rfl | omega | (simp [cOp, cWk, cIv, cHr, cLt, cWt, cIt, cFl, cTn, cCl, cPo, cSt, cDt, cDs, Sl.v, zIns, insV]; done) | (simp [cOp, cWk, cIv, cHr, cLt, cWt, cIt, cFl, cTn, cCl, cPo, cSt, cDt, cDs, Sl.v, zIns, insV]; omega) | (simp [cOp, cWk, cIv, cHr, cLt, cWt, cIt, cFl, cTn, cCl, cPo, cSt, cDt, cDs, Sl.v, zIns, insV] at *; omega)) i_100 rfl rfl) rfl (by kernel_rfl) ?_
             refine GP_done (by kernel_rfl) ?_
             exact Xy (L1 := [_, _, _, _, _]) (by exact (And.intro rfl (And.intro rfl (And.intro rfl (And.intro rfl (And.intro rfl trivial)))))) [4, 4, 4, 4, 4] (by exact ⟨_, _, rfl, List.perm_append_comm (l₁ := [_, _, _, _])⟩) (jn15 ⟨(w1, w2, w3), by rw [← Ye Cl.v0 i1C hc, ← Ye Cl.g bC hc, ← Ye Cl.s shC hc]; exact ⟨hw1, hw2, hw3⟩⟩)
      ·
       refine GPop_new rfl rfl rfl rfl (Zn (s := 1) (cs := [_]) rfl Try.underlying100 i_109 rfl rfl rfl rfl rfl rfl rfl rfl rfl) [4, 2] (fun _ => ⟨_, rfl⟩) (fun b121 => ?_)
       refine GP_all [17] (by kernel_rfl) (by decide) ?_
       refine (And.intro ?_ trivial)
       ·
        refine GPop_new rfl rfl rfl rfl (Zn (s := 1) (cs := [_]) rfl Try.underlying101 i_4 rfl rfl rfl rfl rfl rfl rfl rfl rfl) [5, 3] (fun _ => ⟨_, rfl⟩) (fun b113 => ?_)
        refine GP_all [18] (by kernel_rfl) (by decide) ?_
        refine (And.intro ?_ trivial)
        ·
         refine Yq (l1 := [_, _, _, _, _, _, _]) (sl := v2) (nn := i) (m := 1) (news := (bC c.g)) (bt := 1) rfl rfl rfl rfl Try.underlying101 Try.underlying101 (by first | exact .inl rfl | exact .inr ⟨_, rfl⟩) i_4 rfl rfl rfl rfl rfl rfl h2 rfl (Yp (Zf 1 rfl) rfl rfl (by simp [bC, Value.oneCell'])) (by omega) (by omega) [5, 3] (fun _ => ⟨_, rfl⟩) ?_
         intro w2 hw2 _
         show GP _ _ _ _ _ _ _ _ (_ :: _ :: _ :: _ :: _ :: _ :: _ :: _ :: _ :: _) _
         refine GP_all [26] (by kernel_rfl) (by decide) ?_
         refine (And.intro ?_ trivial)
         ·
          refine Yq (l1 := [_, _, _, _, _, _, _, _]) (sl := v3) (nn := i) (m := 1) (news := (shC c.s)) (bt := 24) rfl rfl rfl rfl Try.underlying100 Try.underlying100 (by first | exact .inl rfl | exact .inr ⟨_, rfl⟩) i_109 rfl rfl rfl rfl rfl rfl h3 rfl (Yp (Zf 2 rfl) rfl rfl (by simp [shC, Value.oneCell'])) (by omega) (by omega) [5, 3] (fun _ => ⟨_, rfl⟩) ?_
          intro w3 hw3 _
          show GP _ _ _ _ _ _ _ _ (_ :: _ :: _ :: _ :: _ :: _ :: _ :: _ :: _ :: _) _
          refine Zx 27 rfl rfl rfl rfl (by kernel_rfl) (by kernel_rfl) (by kernel_rfl) (by decide) (fun _ _ => (Ze rfl rfl)) ?_
          refine Zx 28 rfl rfl rfl rfl (by kernel_rfl) (by kernel_rfl) (by kernel_rfl) (by decide) (fun _ _ => (Zb (fo := 2) rfl Try.underlying103 rfl i_99 rfl rfl rfl)) ?_
          refine GP_all [29] (by kernel_rfl) (by decide) ?_
          refine (And.intro ?_ trivial)
          ·
           refine Xg (l1 := [_, _, _, _, _]) (L' := (_ :: _ :: _ :: _ :: _ :: _ :: _ :: _ :: _ :: _)) rfl rfl rfl rfl (Zq rfl rfl rfl (Zf 5 rfl) (by first | exact of_decide_eq_true rfl | omega | (simp [cOp, cWk, cIv, cHr, cLt, cWt, cIt, cFl, cTn, cCl, cPo, cSt, cDt, cDs, Sl.v, zIns, insV]; done) | (simp [cOp, cWk, cIv, cHr, cLt, cWt, cIt, cFl, cTn, cCl, cPo, cSt, cDt, cDs, Sl.v, zIns, insV]; omega) | (simp [cOp, cWk, cIv, cHr, cLt, cWt, cIt, cFl, cTn, cCl, cPo, cSt, cDt, cDs, Sl.v, zIns, insV] at *; omega)) i_99 rfl rfl) rfl (by kernel_rfl) ?_
           refine Zx 30 rfl rfl rfl rfl (by kernel_rfl) (by kernel_rfl) (by kernel_rfl) (by decide) (fun _ _ => (Ze rfl rfl)) ?_
           refine Zx 31 rfl rfl rfl rfl (by kernel_rfl) (by kernel_rfl) (by kernel_rfl) (by decide) (fun _ _ => (Zb (fo := 4) rfl Try.underlying103 rfl i_101 rfl rfl rfl)) ?_
           refine GP_all [32] (by kernel_rfl) (by decide) ?_
           refine (And.intro ?_ trivial)
           ·
            refine Xg (l1 := [_, _, _, _, _]) (L' := (_ :: _ :: _ :: _ :: _ :: _ :: _ :: _ :: _ :: _)) rfl rfl rfl rfl (Zq rfl rfl rfl (Zf 5 rfl) (by first | exact of_decide_eq_true rfl | omega | (simp [cOp, cWk, cIv, cHr, cLt, cWt, cIt, cFl, cTn, cCl, cPo, cSt, cDt, cDs, Sl.v, zIns, insV]; done) | (simp [cOp, cWk, cIv, cHr, cLt, cWt, cIt, cFl, cTn, cCl, cPo, cSt, cDt, cDs, Sl.v, zIns, insV]; omega) | (simp [cOp, cWk, cIv, cHr, cLt, cWt, cIt, cFl, cTn, cCl, cPo, cSt, cDt, cDs, Sl.v, zIns, insV] at *; omega)) i_101 rfl rfl) rfl (by kernel_rfl) ?_
            refine Zx 33 rfl rfl rfl rfl (by kernel_rfl) (by kernel_rfl) (by kernel_rfl) (by decide) (fun _ _ => (Ze rfl rfl)) ?_
            refine Zx 34 rfl rfl rfl rfl (by kernel_rfl) (by kernel_rfl) (by kernel_rfl) (by decide) (fun _ _ => (Zb (fo := 3) rfl Try.underlying103 rfl i_100 rfl rfl rfl)) ?_
            refine GP_all [35] (by kernel_rfl) (by decide) ?_
            refine (And.intro ?_ trivial)
            ·
             refine Xg (l1 := [_, _, _, _, _]) (L' := (_ :: _ :: _ :: _ :: _ :: _ :: _ :: _ :: _ :: _)) rfl rfl rfl rfl (Zq rfl rfl rfl (Zf 5 rfl) (by first | exact of_decide_eq_true rfl | omega | (simp [cOp, cWk, cIv, cHr, cLt, cWt, cIt, cFl, cTn, cCl, cPo, cSt, cDt, cDs, Sl.v, zIns, insV]; done) | (simp [cOp, cWk, cIv, cHr, cLt, cWt, cIt, cFl, cTn, cCl, cPo, cSt, cDt, cDs, Sl.v, zIns, insV]; omega) | (simp [cOp, cWk, cIv, cHr, cLt, cWt, cIt, cFl, cTn, cCl, cPo, cSt, cDt, cDs, Sl.v, zIns, insV] at *; omega)) i_100 rfl rfl) rfl (by kernel_rfl) ?_
             refine GP_done (by kernel_rfl) ?_
             exact Xy (L1 := [_, _, _, _, _]) (by exact (And.intro rfl (And.intro rfl (And.intro rfl (And.intro rfl (And.intro rfl trivial)))))) [4, 4, 4, 4, 4] (by exact ⟨_, _, rfl, List.perm_append_comm (l₁ := [_, _, _, _])⟩) (jn15 ⟨(w1, w2, w3), by rw [← Ye Cl.v0 i1C hc, ← Ye Cl.g bC hc, ← Ye Cl.s shC hc]; exact ⟨hw1, hw2, hw3⟩⟩)
     ·
      refine GPop_new rfl rfl rfl rfl (Zn (s := 1) (cs := [_]) rfl Try.underlying101 i_4 rfl rfl rfl rfl rfl rfl rfl rfl rfl) [4, 2] (fun _ => ⟨_, rfl⟩) (fun b113 => ?_)
      refine GP_all [10, 25] (by kernel_rfl) (by decide) ?_
      refine (And.intro ?_ (And.intro ?_ trivial))
      ·
       refine Yq (l1 := [_, _, _, _, _]) (sl := v1) (nn := i) (m := 1) (news := (i1C c.v0)) (bt := 8) rfl rfl rfl rfl Try.underlying99 Try.underlying99 (by first | exact .inl rfl | exact .inr ⟨_, rfl⟩) i_3 rfl rfl rfl rfl rfl rfl h1 rfl (Yp (Zf 2 rfl) rfl rfl (by simp [i1C, Value.oneCell'])) (by omega) (by omega) [4, 2] (fun _ => ⟨_, rfl⟩) ?_
       intro w1 hw1 _
       show GP _ _ _ _ _ _ _ _ (_ :: _ :: _ :: _ :: _ :: _ :: _ :: _ :: _) _
       refine GP_all [18, 25] (by kernel_rfl) (by decide) ?_
       refine (And.intro ?_ (And.intro ?_ trivial))
       ·
        refine Yq (l1 := [_, _, _, _, _, _]) (sl := v2) (nn := i) (m := 1) (news := (bC c.g)) (bt := 1) rfl rfl rfl rfl Try.underlying101 Try.underlying101 (by first | exact .inl rfl | exact .inr ⟨_, rfl⟩) i_4 rfl rfl rfl rfl rfl rfl h2 rfl (Yp (Zf 1 rfl) rfl rfl (by simp [bC, Value.oneCell'])) (by omega) (by omega) [4, 2] (fun _ => ⟨_, rfl⟩) ?_
        intro w2 hw2 _
        show GP _ _ _ _ _ _ _ _ (_ :: _ :: _ :: _ :: _ :: _ :: _ :: _ :: _) _
        refine GP_all [25] (by kernel_rfl) (by decide) ?_
        refine (And.intro ?_ trivial)
        ·
         refine GPop_new rfl rfl rfl rfl (Zn (s := 1) (cs := [_]) rfl Try.underlying100 i_109 rfl rfl rfl rfl rfl rfl rfl rfl rfl) [5, 3] (fun _ => ⟨_, rfl⟩) (fun b121 => ?_)
         refine GP_all [26] (by kernel_rfl) (by decide) ?_
         refine (And.intro ?_ trivial)
         ·
          refine Yq (l1 := [_, _, _, _, _, _, _, _]) (sl := v3) (nn := i) (m := 1) (news := (shC c.s)) (bt := 24) rfl rfl rfl rfl Try.underlying100 Try.underlying100 (by first | exact .inl rfl | exact .inr ⟨_, rfl⟩) i_109 rfl rfl rfl rfl rfl rfl h3 rfl (Yp (Zf 1 rfl) rfl rfl (by simp [shC, Value.oneCell'])) (by omega) (by omega) [5, 3] (fun _ => ⟨_, rfl⟩) ?_
          intro w3 hw3 _
          show GP _ _ _ _ _ _ _ _ (_ :: _ :: _ :: _ :: _ :: _ :: _ :: _ :: _ :: _) _
          refine Zx 27 rfl rfl rfl rfl (by kernel_rfl) (by kernel_rfl) (by kernel_rfl) (by decide) (fun _ _ => (Ze rfl rfl)) ?_
          refine Zx 28 rfl rfl rfl rfl (by kernel_rfl) (by kernel_rfl) (by kernel_rfl) (by decide) (fun _ _ => (Zb (fo := 2) rfl Try.underlying103 rfl i_99 rfl rfl rfl)) ?_
          refine GP_all [29] (by kernel_rfl) (by decide) ?_
          refine (And.intro ?_ trivial)
          ·
           refine Xg (l1 := [_, _, _, _, _]) (L' := (_ :: _ :: _ :: _ :: _ :: _ :: _ :: _ :: _ :: _)) rfl rfl rfl rfl (Zq rfl rfl rfl (Zf 5 rfl) (by first | exact of_decide_eq_true rfl | omega | (simp [cOp, cWk, cIv, cHr, cLt, cWt, cIt, cFl, cTn, cCl, cPo, cSt, cDt, cDs, Sl.v, zIns, insV]; done) | (simp [cOp, cWk, cIv, cHr, cLt, cWt, cIt, cFl, cTn, cCl, cPo, cSt, cDt, cDs, Sl.v, zIns, insV]; omega) | (simp [cOp, cWk, cIv, cHr, cLt, cWt, cIt, cFl, cTn, cCl, cPo, cSt, cDt, cDs, Sl.v, zIns, insV] at *; omega)) i_99 rfl rfl) rfl (by kernel_rfl) ?_
           refine Zx 30 rfl rfl rfl rfl (by kernel_rfl) (by kernel_rfl) (by kernel_rfl) (by decide) (fun _ _ => (Ze rfl rfl)) ?_
           refine Zx 31 rfl rfl rfl rfl (by kernel_rfl) (by kernel_rfl) (by kernel_rfl) (by decide) (fun _ _ => (Zb (fo := 4) rfl Try.underlying103 rfl i_101 rfl rfl rfl)) ?_
           refine GP_all [32] (by kernel_rfl) (by decide) ?_
           refine (And.intro ?_ trivial)
           ·
            refine Xg (l1 := [_, _, _, _, _]) (L' := (_ :: _ :: _ :: _ :: _ :: _ :: _ :: _ :: _ :: _)) rfl rfl rfl rfl (Zq rfl rfl rfl (Zf 5 rfl) (by first | exact of_decide_eq_true rfl | omega | (simp [cOp, cWk, cIv, cHr, cLt, cWt, cIt, cFl, cTn, cCl, cPo, cSt, cDt, cDs, Sl.v, zIns, insV]; done) | (simp [cOp, cWk, cIv, cHr, cLt, cWt, cIt, cFl, cTn, cCl, cPo, cSt, cDt, cDs, Sl.v, zIns, insV]; omega) | (simp [cOp, cWk, cIv, cHr, cLt, cWt, cIt, cFl, cTn, cCl, cPo, cSt, cDt, cDs, Sl.v, zIns, insV] at *; omega)) i_101 rfl rfl) rfl (by kernel_rfl) ?_
            refine Zx 33 rfl rfl rfl rfl (by kernel_rfl) (by kernel_rfl) (by kernel_rfl) (by decide) (fun _ _ => (Ze rfl rfl)) ?_
            refine Zx 34 rfl rfl rfl rfl (by kernel_rfl) (by kernel_rfl) (by kernel_rfl) (by decide) (fun _ _ => (Zb (fo := 3) rfl Try.underlying103 rfl i_100 rfl rfl rfl)) ?_
            refine GP_all [35] (by kernel_rfl) (by decide) ?_
            refine (And.intro ?_ trivial)
            ·
             refine Xg (l1 := [_, _, _, _, _]) (L' := (_ :: _ :: _ :: _ :: _ :: _ :: _ :: _ :: _ :: _)) rfl rfl rfl rfl (Zq rfl rfl rfl (Zf 5 rfl) (by first | exact of_decide_eq_true rfl | omega | (simp [cOp, cWk, cIv, cHr, cLt, cWt, cIt, cFl, cTn, cCl, cPo, cSt, cDt, cDs, Sl.v, zIns, insV]; done) | (simp [cOp, cWk, cIv, cHr, cLt, cWt, cIt, cFl, cTn, cCl, cPo, cSt, cDt, cDs, Sl.v, zIns, insV]; omega) | (simp [cOp, cWk, cIv, cHr, cLt, cWt, cIt, cFl, cTn, cCl, cPo, cSt, cDt, cDs, Sl.v, zIns, insV] at *; omega)) i_100 rfl rfl) rfl (by kernel_rfl) ?_
             refine GP_done (by kernel_rfl) ?_
             exact Xy (L1 := [_, _, _, _, _]) (by exact (And.intro rfl (And.intro rfl (And.intro rfl (And.intro rfl (And.intro rfl trivial)))))) [4, 4, 4, 4, 4] (by exact ⟨_, _, rfl, List.perm_append_comm (l₁ := [_, _, _, _])⟩) (jn15 ⟨(w1, w2, w3), by rw [← Ye Cl.v0 i1C hc, ← Ye Cl.g bC hc, ← Ye Cl.s shC hc]; exact ⟨hw1, hw2, hw3⟩⟩)
       ·
        refine GPop_new rfl rfl rfl rfl (Zn (s := 1) (cs := [_]) rfl Try.underlying100 i_109 rfl rfl rfl rfl rfl rfl rfl rfl rfl) [5, 3] (fun _ => ⟨_, rfl⟩) (fun b121 => ?_)
        refine GP_all [18] (by kernel_rfl) (by decide) ?_
        refine (And.intro ?_ trivial)
        ·
         refine Yq (l1 := [_, _, _, _, _, _, _]) (sl := v2) (nn := i) (m := 1) (news := (bC c.g)) (bt := 1) rfl rfl rfl rfl Try.underlying101 Try.underlying101 (by first | exact .inl rfl | exact .inr ⟨_, rfl⟩) i_4 rfl rfl rfl rfl rfl rfl h2 rfl (Yp (Zf 2 rfl) rfl rfl (by simp [bC, Value.oneCell'])) (by omega) (by omega) [5, 3] (fun _ => ⟨_, rfl⟩) ?_
         intro w2 hw2 _
         show GP _ _ _ _ _ _ _ _ (_ :: _ :: _ :: _ :: _ :: _ :: _ :: _ :: _ :: _) _
         refine GP_all [26] (by kernel_rfl) (by decide) ?_
         refine (And.intro ?_ trivial)
         ·
          refine Yq (l1 := [_, _, _, _, _, _, _, _]) (sl := v3) (nn := i) (m := 1) (news := (shC c.s)) (bt := 24) rfl rfl rfl rfl Try.underlying100 Try.underlying100 (by first | exact .inl rfl | exact .inr ⟨_, rfl⟩) i_109 rfl rfl rfl rfl rfl rfl h3 rfl (Yp (Zf 1 rfl) rfl rfl (by simp [shC, Value.oneCell'])) (by omega) (by omega) [5, 3] (fun _ => ⟨_, rfl⟩) ?_
          intro w3 hw3 _
          show GP _ _ _ _ _ _ _ _ (_ :: _ :: _ :: _ :: _ :: _ :: _ :: _ :: _ :: _) _
          refine Zx 27 rfl rfl rfl rfl (by kernel_rfl) (by kernel_rfl) (by kernel_rfl) (by decide) (fun _ _ => (Ze rfl rfl)) ?_
          refine Zx 28 rfl rfl rfl rfl (by kernel_rfl) (by kernel_rfl) (by kernel_rfl) (by decide) (fun _ _ => (Zb (fo := 2) rfl Try.underlying103 rfl i_99 rfl rfl rfl)) ?_
          refine GP_all [29] (by kernel_rfl) (by decide) ?_
          refine (And.intro ?_ trivial)
          ·
           refine Xg (l1 := [_, _, _, _, _]) (L' := (_ :: _ :: _ :: _ :: _ :: _ :: _ :: _ :: _ :: _)) rfl rfl rfl rfl (Zq rfl rfl rfl (Zf 5 rfl) (by first | exact of_decide_eq_true rfl | omega | (simp [cOp, cWk, cIv, cHr, cLt, cWt, cIt, cFl, cTn, cCl, cPo, cSt, cDt, cDs, Sl.v, zIns, insV]; done) | (simp [cOp, cWk, cIv, cHr, cLt, cWt, cIt, cFl, cTn, cCl, cPo, cSt, cDt, cDs, Sl.v, zIns, insV]; omega) | (simp [cOp, cWk, cIv, cHr, cLt, cWt, cIt, cFl, cTn, cCl, cPo, cSt, cDt, cDs, Sl.v, zIns, insV] at *; omega)) i_99 rfl rfl) rfl (by kernel_rfl) ?_
           refine Zx 30 rfl rfl rfl rfl (by kernel_rfl) (by kernel_rfl) (by kernel_rfl) (by decide) (fun _ _ => (Ze rfl rfl)) ?_
           refine Zx 31 rfl rfl rfl rfl (by kernel_rfl) (by kernel_rfl) (by kernel_rfl) (by decide) (fun _ _ => (Zb (fo := 4) rfl Try.underlying103 rfl i_101 rfl rfl rfl)) ?_
           refine GP_all [32] (by kernel_rfl) (by decide) ?_
           refine (And.intro ?_ trivial)
           ·
            refine Xg (l1 := [_, _, _, _, _]) (L' := (_ :: _ :: _ :: _ :: _ :: _ :: _ :: _ :: _ :: _)) rfl rfl rfl rfl (Zq rfl rfl rfl (Zf 5 rfl) (by first | exact of_decide_eq_true rfl | omega | (simp [cOp, cWk, cIv, cHr, cLt, cWt, cIt, cFl, cTn, cCl, cPo, cSt, cDt, cDs, Sl.v, zIns, insV]; done) | (simp [cOp, cWk, cIv, cHr, cLt, cWt, cIt, cFl, cTn, cCl, cPo, cSt, cDt, cDs, Sl.v, zIns, insV]; omega) | (simp [cOp, cWk, cIv, cHr, cLt, cWt, cIt, cFl, cTn, cCl, cPo, cSt, cDt, cDs, Sl.v, zIns, insV] at *; omega)) i_101 rfl rfl) rfl (by kernel_rfl) ?_
            refine Zx 33 rfl rfl rfl rfl (by kernel_rfl) (by kernel_rfl) (by kernel_rfl) (by decide) (fun _ _ => (Ze rfl rfl)) ?_
            refine Zx 34 rfl rfl rfl rfl (by kernel_rfl) (by kernel_rfl) (by kernel_rfl) (by decide) (fun _ _ => (Zb (fo := 3) rfl Try.underlying103 rfl i_100 rfl rfl rfl)) ?_
            refine GP_all [35] (by kernel_rfl) (by decide) ?_
            refine (And.intro ?_ trivial)
            ·
             refine Xg (l1 := [_, _, _, _, _]) (L' := (_ :: _ :: _ :: _ :: _ :: _ :: _ :: _ :: _ :: _)) rfl rfl rfl rfl (Zq rfl rfl rfl (Zf 5 rfl) (by first | exact of_decide_eq_true rfl | omega | (simp [cOp, cWk, cIv, cHr, cLt, cWt, cIt, cFl, cTn, cCl, cPo, cSt, cDt, cDs, Sl.v, zIns, insV]; done) | (simp [cOp, cWk, cIv, cHr, cLt, cWt, cIt, cFl, cTn, cCl, cPo, cSt, cDt, cDs, Sl.v, zIns, insV]; omega) | (simp [cOp, cWk, cIv, cHr, cLt, cWt, cIt, cFl, cTn, cCl, cPo, cSt, cDt, cDs, Sl.v, zIns, insV] at *; omega)) i_100 rfl rfl) rfl (by kernel_rfl) ?_
             refine GP_done (by kernel_rfl) ?_
             exact Xy (L1 := [_, _, _, _, _]) (by exact (And.intro rfl (And.intro rfl (And.intro rfl (And.intro rfl (And.intro rfl trivial)))))) [4, 4, 4, 4, 4] (by exact ⟨_, _, rfl, List.perm_append_comm (l₁ := [_, _, _, _])⟩) (jn15 ⟨(w1, w2, w3), by rw [← Ye Cl.v0 i1C hc, ← Ye Cl.g bC hc, ← Ye Cl.s shC hc]; exact ⟨hw1, hw2, hw3⟩⟩)
      ·
       refine GPop_new rfl rfl rfl rfl (Zn (s := 1) (cs := [_]) rfl Try.underlying100 i_109 rfl rfl rfl rfl rfl rfl rfl rfl rfl) [5, 3] (fun _ => ⟨_, rfl⟩) (fun b121 => ?_)
       refine GP_all [10] (by kernel_rfl) (by decide) ?_
       refine (And.intro ?_ trivial)
       ·
        refine Yq (l1 := [_, _, _, _, _, _]) (sl := v1) (nn := i) (m := 1) (news := (i1C c.v0)) (bt := 8) rfl rfl rfl rfl Try.underlying99 Try.underlying99 (by first | exact .inl rfl | exact .inr ⟨_, rfl⟩) i_3 rfl rfl rfl rfl rfl rfl h1 rfl (Yp (Zf 3 rfl) rfl rfl (by simp [i1C, Value.oneCell'])) (by omega) (by omega) [5, 3] (fun _ => ⟨_, rfl⟩) ?_
        intro w1 hw1 _
        show GP _ _ _ _ _ _ _ _ (_ :: _ :: _ :: _ :: _ :: _ :: _ :: _ :: _ :: _) _
        refine GP_all [18] (by kernel_rfl) (by decide) ?_
        refine (And.intro ?_ trivial)
        ·
         refine Yq (l1 := [_, _, _, _, _, _, _]) (sl := v2) (nn := i) (m := 1) (news := (bC c.g)) (bt := 1) rfl rfl rfl rfl Try.underlying101 Try.underlying101 (by first | exact .inl rfl | exact .inr ⟨_, rfl⟩) i_4 rfl rfl rfl rfl rfl rfl h2 rfl (Yp (Zf 2 rfl) rfl rfl (by simp [bC, Value.oneCell'])) (by omega) (by omega) [5, 3] (fun _ => ⟨_, rfl⟩) ?_
         intro w2 hw2 _
         show GP _ _ _ _ _ _ _ _ (_ :: _ :: _ :: _ :: _ :: _ :: _ :: _ :: _ :: _) _
         refine GP_all [26] (by kernel_rfl) (by decide) ?_
         refine (And.intro ?_ trivial)
         ·
          refine Yq (l1 := [_, _, _, _, _, _, _, _]) (sl := v3) (nn := i) (m := 1) (news := (shC c.s)) (bt := 24) rfl rfl rfl rfl Try.underlying100 Try.underlying100 (by first | exact .inl rfl | exact .inr ⟨_, rfl⟩) i_109 rfl rfl rfl rfl rfl rfl h3 rfl (Yp (Zf 1 rfl) rfl rfl (by simp [shC, Value.oneCell'])) (by omega) (by omega) [5, 3] (fun _ => ⟨_, rfl⟩) ?_
          intro w3 hw3 _
          show GP _ _ _ _ _ _ _ _ (_ :: _ :: _ :: _ :: _ :: _ :: _ :: _ :: _ :: _) _
          refine Zx 27 rfl rfl rfl rfl (by kernel_rfl) (by kernel_rfl) (by kernel_rfl) (by decide) (fun _ _ => (Ze rfl rfl)) ?_
          refine Zx 28 rfl rfl rfl rfl (by kernel_rfl) (by kernel_rfl) (by kernel_rfl) (by decide) (fun _ _ => (Zb (fo := 2) rfl Try.underlying103 rfl i_99 rfl rfl rfl)) ?_
          refine GP_all [29] (by kernel_rfl) (by decide) ?_
          refine (And.intro ?_ trivial)
          ·
           refine Xg (l1 := [_, _, _, _, _]) (L' := (_ :: _ :: _ :: _ :: _ :: _ :: _ :: _ :: _ :: _)) rfl rfl rfl rfl (Zq rfl rfl rfl (Zf 5 rfl) (by first | exact of_decide_eq_true rfl | omega | (simp [cOp, cWk, cIv, cHr, cLt, cWt, cIt, cFl, cTn, cCl, cPo, cSt, cDt, cDs, Sl.v, zIns, insV]; done) | (simp [cOp, cWk, cIv, cHr, cLt, cWt, cIt, cFl, cTn, cCl, cPo, cSt, cDt, cDs, Sl.v, zIns, insV]; omega) | (simp [cOp, cWk, cIv, cHr, cLt, cWt, cIt, cFl, cTn, cCl, cPo, cSt, cDt, cDs, Sl.v, zIns, insV] at *; omega)) i_99 rfl rfl) rfl (by kernel_rfl) ?_
           refine Zx 30 rfl rfl rfl rfl (by kernel_rfl) (by kernel_rfl) (by kernel_rfl) (by decide) (fun _ _ => (Ze rfl rfl)) ?_
           refine Zx 31 rfl rfl rfl rfl (by kernel_rfl) (by kernel_rfl) (by kernel_rfl) (by decide) (fun _ _ => (Zb (fo := 4) rfl Try.underlying103 rfl i_101 rfl rfl rfl)) ?_
           refine GP_all [32] (by kernel_rfl) (by decide) ?_
           refine (And.intro ?_ trivial)
           ·
            refine Xg (l1 := [_, _, _, _, _]) (L' := (_ :: _ :: _ :: _ :: _ :: _ :: _ :: _ :: _ :: _)) rfl rfl rfl rfl (Zq rfl rfl rfl (Zf 5 rfl) (by first | exact of_decide_eq_true rfl | omega | (simp [cOp, cWk, cIv, cHr, cLt, cWt, cIt, cFl, cTn, cCl, cPo, cSt, cDt, cDs, Sl.v, zIns, insV]; done) | (simp [cOp, cWk, cIv, cHr, cLt, cWt, cIt, cFl, cTn, cCl, cPo, cSt, cDt, cDs, Sl.v, zIns, insV]; omega) | (simp [cOp, cWk, cIv, cHr, cLt, cWt, cIt, cFl, cTn, cCl, cPo, cSt, cDt, cDs, Sl.v, zIns, insV] at *; omega)) i_101 rfl rfl) rfl (by kernel_rfl) ?_
            refine Zx 33 rfl rfl rfl rfl (by kernel_rfl) (by kernel_rfl) (by kernel_rfl) (by decide) (fun _ _ => (Ze rfl rfl)) ?_
            refine Zx 34 rfl rfl rfl rfl (by kernel_rfl) (by kernel_rfl) (by kernel_rfl) (by decide) (fun _ _ => (Zb (fo := 3) rfl Try.underlying103 rfl i_100 rfl rfl rfl)) ?_
            refine GP_all [35] (by kernel_rfl) (by decide) ?_
            refine (And.intro ?_ trivial)
            ·
             refine Xg (l1 := [_, _, _, _, _]) (L' := (_ :: _ :: _ :: _ :: _ :: _ :: _ :: _ :: _ :: _)) rfl rfl rfl rfl (Zq rfl rfl rfl (Zf 5 rfl) (by first | exact of_decide_eq_true rfl | omega | (simp [cOp, cWk, cIv, cHr, cLt, cWt, cIt, cFl, cTn, cCl, cPo, cSt, cDt, cDs, Sl.v, zIns, insV]; done) | (simp [cOp, cWk, cIv, cHr, cLt, cWt, cIt, cFl, cTn, cCl, cPo, cSt, cDt, cDs, Sl.v, zIns, insV]; omega) | (simp [cOp, cWk, cIv, cHr, cLt, cWt, cIt, cFl, cTn, cCl, cPo, cSt, cDt, cDs, Sl.v, zIns, insV] at *; omega)) i_100 rfl rfl) rfl (by kernel_rfl) ?_
             refine GP_done (by kernel_rfl) ?_
             exact Xy (L1 := [_, _, _, _, _]) (by exact (And.intro rfl (And.intro rfl (And.intro rfl (And.intro rfl (And.intro rfl trivial)))))) [4, 4, 4, 4, 4] (by exact ⟨_, _, rfl, List.perm_append_comm (l₁ := [_, _, _, _])⟩) (jn15 ⟨(w1, w2, w3), by rw [← Ye Cl.v0 i1C hc, ← Ye Cl.g bC hc, ← Ye Cl.s shC hc]; exact ⟨hw1, hw2, hw3⟩⟩)
     ·
      refine GPop_new rfl rfl rfl rfl (Zn (s := 1) (cs := [_]) rfl Try.underlying100 i_109 rfl rfl rfl rfl rfl rfl rfl rfl rfl) [4, 2] (fun _ => ⟨_, rfl⟩) (fun b121 => ?_)
      refine GP_all [10, 17] (by kernel_rfl) (by decide) ?_
      refine (And.intro ?_ (And.intro ?_ trivial))
      ·
       refine Yq (l1 := [_, _, _, _, _]) (sl := v1) (nn := i) (m := 1) (news := (i1C c.v0)) (bt := 8) rfl rfl rfl rfl Try.underlying99 Try.underlying99 (by first | exact .inl rfl | exact .inr ⟨_, rfl⟩) i_3 rfl rfl rfl rfl rfl rfl h1 rfl (Yp (Zf 2 rfl) rfl rfl (by simp [i1C, Value.oneCell'])) (by omega) (by omega) [4, 2] (fun _ => ⟨_, rfl⟩) ?_
       intro w1 hw1 _
       show GP _ _ _ _ _ _ _ _ (_ :: _ :: _ :: _ :: _ :: _ :: _ :: _ :: _) _
       refine GP_all [17] (by kernel_rfl) (by decide) ?_
       refine (And.intro ?_ trivial)
       ·
        refine GPop_new rfl rfl rfl rfl (Zn (s := 1) (cs := [_]) rfl Try.underlying101 i_4 rfl rfl rfl rfl rfl rfl rfl rfl rfl) [5, 3] (fun _ => ⟨_, rfl⟩) (fun b113 => ?_)
        refine GP_all [18] (by kernel_rfl) (by decide) ?_
        refine (And.intro ?_ trivial)
        ·
         refine Yq (l1 := [_, _, _, _, _, _, _]) (sl := v2) (nn := i) (m := 1) (news := (bC c.g)) (bt := 1) rfl rfl rfl rfl Try.underlying101 Try.underlying101 (by first | exact .inl rfl | exact .inr ⟨_, rfl⟩) i_4 rfl rfl rfl rfl rfl rfl h2 rfl (Yp (Zf 1 rfl) rfl rfl (by simp [bC, Value.oneCell'])) (by omega) (by omega) [5, 3] (fun _ => ⟨_, rfl⟩) ?_
         intro w2 hw2 _
         show GP _ _ _ _ _ _ _ _ (_ :: _ :: _ :: _ :: _ :: _ :: _ :: _ :: _ :: _) _
         refine GP_all [26] (by kernel_rfl) (by decide) ?_
         refine (And.intro ?_ trivial)
         ·
          refine Yq (l1 := [_, _, _, _, _, _, _, _]) (sl := v3) (nn := i) (m := 1) (news := (shC c.s)) (bt := 24) rfl rfl rfl rfl Try.underlying100 Try.underlying100 (by first | exact .inl rfl | exact .inr ⟨_, rfl⟩) i_109 rfl rfl rfl rfl rfl rfl h3 rfl (Yp (Zf 2 rfl) rfl rfl (by simp [shC, Value.oneCell'])) (by omega) (by omega) [5, 3] (fun _ => ⟨_, rfl⟩) ?_
          intro w3 hw3 _
          show GP _ _ _ _ _ _ _ _ (_ :: _ :: _ :: _ :: _ :: _ :: _ :: _ :: _ :: _) _
          refine Zx 27 rfl rfl rfl rfl (by kernel_rfl) (by kernel_rfl) (by kernel_rfl) (by decide) (fun _ _ => (Ze rfl rfl)) ?_
          refine Zx 28 rfl rfl rfl rfl (by kernel_rfl) (by kernel_rfl) (by kernel_rfl) (by decide) (fun _ _ => (Zb (fo := 2) rfl Try.underlying103 rfl i_99 rfl rfl rfl)) ?_
          refine GP_all [29] (by kernel_rfl) (by decide) ?_
          refine (And.intro ?_ trivial)
          ·
           refine Xg (l1 := [_, _, _, _, _]) (L' := (_ :: _ :: _ :: _ :: _ :: _ :: _ :: _ :: _ :: _)) rfl rfl rfl rfl (Zq rfl rfl rfl (Zf 5 rfl) (by first | exact of_decide_eq_true rfl | omega | (simp [cOp, cWk, cIv, cHr, cLt, cWt, cIt, cFl, cTn, cCl, cPo, cSt, cDt, cDs, Sl.v, zIns, insV]; done) | (simp [cOp, cWk, cIv, cHr, cLt, cWt, cIt, cFl, cTn, cCl, cPo, cSt, cDt, cDs, Sl.v, zIns, insV]; omega) | (simp [cOp, cWk, cIv, cHr, cLt, cWt, cIt, cFl, cTn, cCl, cPo, cSt, cDt, cDs, Sl.v, zIns, insV] at *; omega)) i_99 rfl rfl) rfl (by kernel_rfl) ?_
           refine Zx 30 rfl rfl rfl rfl (by kernel_rfl) (by kernel_rfl) (by kernel_rfl) (by decide) (fun _ _ => (Ze rfl rfl)) ?_
           refine Zx 31 rfl rfl rfl rfl (by kernel_rfl) (by kernel_rfl) (by kernel_rfl) (by decide) (fun _ _ => (Zb (fo := 4) rfl Try.underlying103 rfl i_101 rfl rfl rfl)) ?_
           refine GP_all [32] (by kernel_rfl) (by decide) ?_
           refine (And.intro ?_ trivial)
           ·
            refine Xg (l1 := [_, _, _, _, _]) (L' := (_ :: _ :: _ :: _ :: _ :: _ :: _ :: _ :: _ :: _)) rfl rfl rfl rfl (Zq rfl rfl rfl (Zf 5 rfl) (by first | exact of_decide_eq_true rfl | omega | (simp [cOp, cWk, cIv, cHr, cLt, cWt, cIt, cFl, cTn, cCl, cPo, cSt, cDt, cDs, Sl.v, zIns, insV]; done) | (simp [cOp, cWk, cIv, cHr, cLt, cWt, cIt, cFl, cTn, cCl, cPo, cSt, cDt, cDs, Sl.v, zIns, insV]; omega) | (simp [cOp, cWk, cIv, cHr, cLt, cWt, cIt, cFl, cTn, cCl, cPo, cSt, cDt, cDs, Sl.v, zIns, insV] at *; omega)) i_101 rfl rfl) rfl (by kernel_rfl) ?_
            refine Zx 33 rfl rfl rfl rfl (by kernel_rfl) (by kernel_rfl) (by kernel_rfl) (by decide) (fun _ _ => (Ze rfl rfl)) ?_
            refine Zx 34 rfl rfl rfl rfl (by kernel_rfl) (by kernel_rfl) (by kernel_rfl) (by decide) (fun _ _ => (Zb (fo := 3) rfl Try.underlying103 rfl i_100 rfl rfl rfl)) ?_
            refine GP_all [35] (by kernel_rfl) (by decide) ?_
            refine (And.intro ?_ trivial)
            ·
             refine Xg (l1 := [_, _, _, _, _]) (L' := (_ :: _ :: _ :: _ :: _ :: _ :: _ :: _ :: _ :: _)) rfl rfl rfl rfl (Zq rfl rfl rfl (Zf 5 rfl) (by first | exact of_decide_eq_true rfl | omega | (simp [cOp, cWk, cIv, cHr, cLt, cWt, cIt, cFl, cTn, cCl, cPo, cSt, cDt, cDs, Sl.v, zIns, insV]; done) | (simp [cOp, cWk, cIv, cHr, cLt, cWt, cIt, cFl, cTn, cCl, cPo, cSt, cDt, cDs, Sl.v, zIns, insV]; omega) | (simp [cOp, cWk, cIv, cHr, cLt, cWt, cIt, cFl, cTn, cCl, cPo, cSt, cDt, cDs, Sl.v, zIns, insV] at *; omega)) i_100 rfl rfl) rfl (by kernel_rfl) ?_
             refine GP_done (by kernel_rfl) ?_
             exact Xy (L1 := [_, _, _, _, _]) (by exact (And.intro rfl (And.intro rfl (And.intro rfl (And.intro rfl (And.intro rfl trivial)))))) [4, 4, 4, 4, 4] (by exact ⟨_, _, rfl, List.perm_append_comm (l₁ := [_, _, _, _])⟩) (jn15 ⟨(w1, w2, w3), by rw [← Ye Cl.v0 i1C hc, ← Ye Cl.g bC hc, ← Ye Cl.s shC hc]; exact ⟨hw1, hw2, hw3⟩⟩)
      ·
       refine GPop_new rfl rfl rfl rfl (Zn (s := 1) (cs := [_]) rfl Try.underlying101 i_4 rfl rfl rfl rfl rfl rfl rfl rfl rfl) [5, 3] (fun _ => ⟨_, rfl⟩) (fun b113 => ?_)
       refine GP_all [10] (by kernel_rfl) (by decide) ?_
       refine (And.intro ?_ trivial)
       ·
        refine Yq (l1 := [_, _, _, _, _, _]) (sl := v1) (nn := i) (m := 1) (news := (i1C c.v0)) (bt := 8) rfl rfl rfl rfl Try.underlying99 Try.underlying99 (by first | exact .inl rfl | exact .inr ⟨_, rfl⟩) i_3 rfl rfl rfl rfl rfl rfl h1 rfl (Yp (Zf 3 rfl) rfl rfl (by simp [i1C, Value.oneCell'])) (by omega) (by omega) [5, 3] (fun _ => ⟨_, rfl⟩) ?_
        intro w1 hw1 _
        show GP _ _ _ _ _ _ _ _ (_ :: _ :: _ :: _ :: _ :: _ :: _ :: _ :: _ :: _) _
        refine GP_all [18] (by kernel_rfl) (by decide) ?_
        refine (And.intro ?_ trivial)
        ·
         refine Yq (l1 := [_, _, _, _, _, _, _]) (sl := v2) (nn := i) (m := 1) (news := (bC c.g)) (bt := 1) rfl rfl rfl rfl Try.underlying101 Try.underlying101 (by first | exact .inl rfl | exact .inr ⟨_, rfl⟩) i_4 rfl rfl rfl rfl rfl rfl h2 rfl (Yp (Zf 1 rfl) rfl rfl (by simp [bC, Value.oneCell'])) (by omega) (by omega) [5, 3] (fun _ => ⟨_, rfl⟩) ?_
         intro w2 hw2 _
         show GP _ _ _ _ _ _ _ _ (_ :: _ :: _ :: _ :: _ :: _ :: _ :: _ :: _ :: _) _
         refine GP_all [26] (by kernel_rfl) (by decide) ?_
         refine (And.intro ?_ trivial)
         ·
          refine Yq (l1 := [_, _, _, _, _, _, _, _]) (sl := v3) (nn := i) (m := 1) (news := (shC c.s)) (bt := 24) rfl rfl rfl rfl Try.underlying100 Try.underlying100 (by first | exact .inl rfl | exact .inr ⟨_, rfl⟩) i_109 rfl rfl rfl rfl rfl rfl h3 rfl (Yp (Zf 2 rfl) rfl rfl (by simp [shC, Value.oneCell'])) (by omega) (by omega) [5, 3] (fun _ => ⟨_, rfl⟩) ?_
          intro w3 hw3 _
          show GP _ _ _ _ _ _ _ _ (_ :: _ :: _ :: _ :: _ :: _ :: _ :: _ :: _ :: _) _
          refine Zx 27 rfl rfl rfl rfl (by kernel_rfl) (by kernel_rfl) (by kernel_rfl) (by decide) (fun _ _ => (Ze rfl rfl)) ?_
          refine Zx 28 rfl rfl rfl rfl (by kernel_rfl) (by kernel_rfl) (by kernel_rfl) (by decide) (fun _ _ => (Zb (fo := 2) rfl Try.underlying103 rfl i_99 rfl rfl rfl)) ?_
          refine GP_all [29] (by kernel_rfl) (by decide) ?_
          refine (And.intro ?_ trivial)
          ·
           refine Xg (l1 := [_, _, _, _, _]) (L' := (_ :: _ :: _ :: _ :: _ :: _ :: _ :: _ :: _ :: _)) rfl rfl rfl rfl (Zq rfl rfl rfl (Zf 5 rfl) (by first | exact of_decide_eq_true rfl | omega | (simp [cOp, cWk, cIv, cHr, cLt, cWt, cIt, cFl, cTn, cCl, cPo, cSt, cDt, cDs, Sl.v, zIns, insV]; done) | (simp [cOp, cWk, cIv, cHr, cLt, cWt, cIt, cFl, cTn, cCl, cPo, cSt, cDt, cDs, Sl.v, zIns, insV]; omega) | (simp [cOp, cWk, cIv, cHr, cLt, cWt, cIt, cFl, cTn, cCl, cPo, cSt, cDt, cDs, Sl.v, zIns, insV] at *; omega)) i_99 rfl rfl) rfl (by kernel_rfl) ?_
           refine Zx 30 rfl rfl rfl rfl (by kernel_rfl) (by kernel_rfl) (by kernel_rfl) (by decide) (fun _ _ => (Ze rfl rfl)) ?_
           refine Zx 31 rfl rfl rfl rfl (by kernel_rfl) (by kernel_rfl) (by kernel_rfl) (by decide) (fun _ _ => (Zb (fo := 4) rfl Try.underlying103 rfl i_101 rfl rfl rfl)) ?_
           refine GP_all [32] (by kernel_rfl) (by decide) ?_
           refine (And.intro ?_ trivial)
           ·
            refine Xg (l1 := [_, _, _, _, _]) (L' := (_ :: _ :: _ :: _ :: _ :: _ :: _ :: _ :: _ :: _)) rfl rfl rfl rfl (Zq rfl rfl rfl (Zf 5 rfl) (by first | exact of_decide_eq_true rfl | omega | (simp [cOp, cWk, cIv, cHr, cLt, cWt, cIt, cFl, cTn, cCl, cPo, cSt, cDt, cDs, Sl.v, zIns, insV]; done) | (simp [cOp, cWk, cIv, cHr, cLt, cWt, cIt, cFl, cTn, cCl, cPo, cSt, cDt, cDs, Sl.v, zIns, insV]; omega) | (simp [cOp, cWk, cIv, cHr, cLt, cWt, cIt, cFl, cTn, cCl, cPo, cSt, cDt, cDs, Sl.v, zIns, insV] at *; omega)) i_101 rfl rfl) rfl (by kernel_rfl) ?_
            refine Zx 33 rfl rfl rfl rfl (by kernel_rfl) (by kernel_rfl) (by kernel_rfl) (by decide) (fun _ _ => (Ze rfl rfl)) ?_
            refine Zx 34 rfl rfl rfl rfl (by kernel_rfl) (by kernel_rfl) (by kernel_rfl) (by decide) (fun _ _ => (Zb (fo := 3) rfl Try.underlying103 rfl i_100 rfl rfl rfl)) ?_
            refine GP_all [35] (by kernel_rfl) (by decide) ?_
            refine (And.intro ?_ trivial)
            ·
             refine Xg (l1 := [_, _, _, _, _]) (L' := (_ :: _ :: _ :: _ :: _ :: _ :: _ :: _ :: _ :: _)) rfl rfl rfl rfl (Zq rfl rfl rfl (Zf 5 rfl) (by first | exact of_decide_eq_true rfl | omega | (simp [cOp, cWk, cIv, cHr, cLt, cWt, cIt, cFl, cTn, cCl, cPo, cSt, cDt, cDs, Sl.v, zIns, insV]; done) | (simp [cOp, cWk, cIv, cHr, cLt, cWt, cIt, cFl, cTn, cCl, cPo, cSt, cDt, cDs, Sl.v, zIns, insV]; omega) | (simp [cOp, cWk, cIv, cHr, cLt, cWt, cIt, cFl, cTn, cCl, cPo, cSt, cDt, cDs, Sl.v, zIns, insV] at *; omega)) i_100 rfl rfl) rfl (by kernel_rfl) ?_
             refine GP_done (by kernel_rfl) ?_
             exact Xy (L1 := [_, _, _, _, _]) (by exact (And.intro rfl (And.intro rfl (And.intro rfl (And.intro rfl (And.intro rfl trivial)))))) [4, 4, 4, 4, 4] (by exact ⟨_, _, rfl, List.perm_append_comm (l₁ := [_, _, _, _])⟩) (jn15 ⟨(w1, w2, w3), by rw [← Ye Cl.v0 i1C hc, ← Ye Cl.g bC hc, ← Ye Cl.s shC hc]; exact ⟨hw1, hw2, hw3⟩⟩)
    ·
     refine GPop_new rfl rfl rfl rfl (Zn (s := 1) (cs := [_]) rfl Try.underlying101 i_4 rfl rfl rfl rfl rfl rfl rfl rfl rfl) [3, 1] (fun _ => ⟨_, rfl⟩) (fun b113 => ?_)
     refine GP_all [9, 25] (by kernel_rfl) (by decide) ?_
     refine (And.intro ?_ (And.intro ?_ trivial))
     ·
      refine GPop_new rfl rfl rfl rfl (Zn (s := 1) (cs := [_]) rfl Try.underlying99 i_3 rfl rfl rfl rfl rfl rfl rfl rfl rfl) [4, 2] (fun _ => ⟨_, rfl⟩) (fun b105 => ?_)
      refine GP_all [10, 25] (by kernel_rfl) (by decide) ?_
      refine (And.intro ?_ (And.intro ?_ trivial))
      ·
       refine Yq (l1 := [_, _, _, _, _]) (sl := v1) (nn := i) (m := 1) (news := (i1C c.v0)) (bt := 8) rfl rfl rfl rfl Try.underlying99 Try.underlying99 (by first | exact .inl rfl | exact .inr ⟨_, rfl⟩) i_3 rfl rfl rfl rfl rfl rfl h1 rfl (Yp (Zf 1 rfl) rfl rfl (by simp [i1C, Value.oneCell'])) (by omega) (by omega) [4, 2] (fun _ => ⟨_, rfl⟩) ?_
       intro w1 hw1 _
       show GP _ _ _ _ _ _ _ _ (_ :: _ :: _ :: _ :: _ :: _ :: _ :: _ :: _) _
       refine GP_all [18, 25] (by kernel_rfl) (by decide) ?_
       refine (And.intro ?_ (And.intro ?_ trivial))
       ·
        refine Yq (l1 := [_, _, _, _, _, _]) (sl := v2) (nn := i) (m := 1) (news := (bC c.g)) (bt := 1) rfl rfl rfl rfl Try.underlying101 Try.underlying101 (by first | exact .inl rfl | exact .inr ⟨_, rfl⟩) i_4 rfl rfl rfl rfl rfl rfl h2 rfl (Yp (Zf 2 rfl) rfl rfl (by simp [bC, Value.oneCell'])) (by omega) (by omega) [4, 2] (fun _ => ⟨_, rfl⟩) ?_
        intro w2 hw2 _
        show GP _ _ _ _ _ _ _ _ (_ :: _ :: _ :: _ :: _ :: _ :: _ :: _ :: _) _
        refine GP_all [25] (by kernel_rfl) (by decide) ?_
        refine (And.intro ?_ trivial)
        ·
         refine GPop_new rfl rfl rfl rfl (Zn (s := 1) (cs := [_]) rfl Try.underlying100 i_109 rfl rfl rfl rfl rfl rfl rfl rfl rfl) [5, 3] (fun _ => ⟨_, rfl⟩) (fun b121 => ?_)
         refine GP_all [26] (by kernel_rfl) (by decide) ?_
         refine (And.intro ?_ trivial)
         ·
          refine Yq (l1 := [_, _, _, _, _, _, _, _]) (sl := v3) (nn := i) (m := 1) (news := (shC c.s)) (bt := 24) rfl rfl rfl rfl Try.underlying100 Try.underlying100 (by first | exact .inl rfl | exact .inr ⟨_, rfl⟩) i_109 rfl rfl rfl rfl rfl rfl h3 rfl (Yp (Zf 1 rfl) rfl rfl (by simp [shC, Value.oneCell'])) (by omega) (by omega) [5, 3] (fun _ => ⟨_, rfl⟩) ?_
          intro w3 hw3 _
          show GP _ _ _ _ _ _ _ _ (_ :: _ :: _ :: _ :: _ :: _ :: _ :: _ :: _ :: _) _
          refine Zx 27 rfl rfl rfl rfl (by kernel_rfl) (by kernel_rfl) (by kernel_rfl) (by decide) (fun _ _ => (Ze rfl rfl)) ?_
          refine Zx 28 rfl rfl rfl rfl (by kernel_rfl) (by kernel_rfl) (by kernel_rfl) (by decide) (fun _ _ => (Zb (fo := 2) rfl Try.underlying103 rfl i_99 rfl rfl rfl)) ?_
          refine GP_all [29] (by kernel_rfl) (by decide) ?_
          refine (And.intro ?_ trivial)
          ·
           refine Xg (l1 := [_, _, _, _, _]) (L' := (_ :: _ :: _ :: _ :: _ :: _ :: _ :: _ :: _ :: _)) rfl rfl rfl rfl (Zq rfl rfl rfl (Zf 5 rfl) (by first | exact of_decide_eq_true rfl | omega | (simp [cOp, cWk, cIv, cHr, cLt, cWt, cIt, cFl, cTn, cCl, cPo, cSt, cDt, cDs, Sl.v, zIns, insV]; done) | (simp [cOp, cWk, cIv, cHr, cLt, cWt, cIt, cFl, cTn, cCl, cPo, cSt, cDt, cDs, Sl.v, zIns, insV]; omega) | (simp [cOp, cWk, cIv, cHr, cLt, cWt, cIt, cFl, cTn, cCl, cPo, cSt, cDt, cDs, Sl.v, zIns, insV] at *; omega)) i_99 rfl rfl) rfl (by kernel_rfl) ?_
           refine Zx 30 rfl rfl rfl rfl (by kernel_rfl) (by kernel_rfl) (by kernel_rfl) (by decide) (fun _ _ => (Ze rfl rfl)) ?_
           refine Zx 31 rfl rfl rfl rfl (by kernel_rfl) (by kernel_rfl) (by kernel_rfl) (by decide) (fun _ _ => (Zb (fo := 4) rfl Try.underlying103 rfl i_101 rfl rfl rfl)) ?_
           refine GP_all [32] (by kernel_rfl) (by decide) ?_
           refine (And.intro ?_ trivial)
           ·
            refine Xg (l1 := [_, _, _, _, _]) (L' := (_ :: _ :: _ :: _ :: _ :: _ :: _ :: _ :: _ :: _)) rfl rfl rfl rfl (Zq rfl rfl rfl (Zf 5 rfl) (by first | exact of_decide_eq_true rfl | omega | (simp [cOp, cWk, cIv, cHr, cLt, cWt, cIt, cFl, cTn, cCl, cPo, cSt, cDt, cDs, Sl.v, zIns, insV]; done) | (simp [cOp, cWk, cIv, cHr, cLt, cWt, cIt, cFl, cTn, cCl, cPo, cSt, cDt, cDs, Sl.v, zIns, insV]; omega) | (simp [cOp, cWk, cIv, cHr, cLt, cWt, cIt, cFl, cTn, cCl, cPo, cSt, cDt, cDs, Sl.v, zIns, insV] at *; omega)) i_101 rfl rfl) rfl (by kernel_rfl) ?_
            refine Zx 33 rfl rfl rfl rfl (by kernel_rfl) (by kernel_rfl) (by kernel_rfl) (by decide) (fun _ _ => (Ze rfl rfl)) ?_
            refine Zx 34 rfl rfl rfl rfl (by kernel_rfl) (by kernel_rfl) (by kernel_rfl) (by decide) (fun _ _ => (Zb (fo := 3) rfl Try.underlying103 rfl i_100 rfl rfl rfl)) ?_
            refine GP_all [35] (by kernel_rfl) (by decide) ?_
            refine (And.intro ?_ trivial)
            ·
             refine Xg (l1 := [_, _, _, _, _]) (L' := (_ :: _ :: _ :: _ :: _ :: _ :: _ :: _ :: _ :: _)) rfl rfl rfl rfl (Zq rfl rfl rfl (Zf 5 rfl) (by first | exact of_decide_eq_true rfl | omega | (simp [cOp, cWk, cIv, cHr, cLt, cWt, cIt, cFl, cTn, cCl, cPo, cSt, cDt, cDs, Sl.v, zIns, insV]; done) | (simp [cOp, cWk, cIv, cHr, cLt, cWt, cIt, cFl, cTn, cCl, cPo, cSt, cDt, cDs, Sl.v, zIns, insV]; omega) | (simp [cOp, cWk, cIv, cHr, cLt, cWt, cIt, cFl, cTn, cCl, cPo, cSt, cDt, cDs, Sl.v, zIns, insV] at *; omega)) i_100 rfl rfl) rfl (by kernel_rfl) ?_
             refine GP_done (by kernel_rfl) ?_
             exact Xy (L1 := [_, _, _, _, _]) (by exact (And.intro rfl (And.intro rfl (And.intro rfl (And.intro rfl (And.intro rfl trivial)))))) [4, 4, 4, 4, 4] (by exact ⟨_, _, rfl, List.perm_append_comm (l₁ := [_, _, _, _])⟩) (jn15 ⟨(w1, w2, w3), by rw [← Ye Cl.v0 i1C hc, ← Ye Cl.g bC hc, ← Ye Cl.s shC hc]; exact ⟨hw1, hw2, hw3⟩⟩)
       ·
        refine GPop_new rfl rfl rfl rfl (Zn (s := 1) (cs := [_]) rfl Try.underlying100 i_109 rfl rfl rfl rfl rfl rfl rfl rfl rfl) [5, 3] (fun _ => ⟨_, rfl⟩) (fun b121 => ?_)
        refine GP_all [18] (by kernel_rfl) (by decide) ?_
        refine (And.intro ?_ trivial)
        ·
         refine Yq (l1 := [_, _, _, _, _, _, _]) (sl := v2) (nn := i) (m := 1) (news := (bC c.g)) (bt := 1) rfl rfl rfl rfl Try.underlying101 Try.underlying101 (by first | exact .inl rfl | exact .inr ⟨_, rfl⟩) i_4 rfl rfl rfl rfl rfl rfl h2 rfl (Yp (Zf 3 rfl) rfl rfl (by simp [bC, Value.oneCell'])) (by omega) (by omega) [5, 3] (fun _ => ⟨_, rfl⟩) ?_
         intro w2 hw2 _
         show GP _ _ _ _ _ _ _ _ (_ :: _ :: _ :: _ :: _ :: _ :: _ :: _ :: _ :: _) _
         refine GP_all [26] (by kernel_rfl) (by decide) ?_
         refine (And.intro ?_ trivial)
         ·
          refine Yq (l1 := [_, _, _, _, _, _, _, _]) (sl := v3) (nn := i) (m := 1) (news := (shC c.s)) (bt := 24) rfl rfl rfl rfl Try.underlying100 Try.underlying100 (by first | exact .inl rfl | exact .inr ⟨_, rfl⟩) i_109 rfl rfl rfl rfl rfl rfl h3 rfl (Yp (Zf 1 rfl) rfl rfl (by simp [shC, Value.oneCell'])) (by omega) (by omega) [5, 3] (fun _ => ⟨_, rfl⟩) ?_
          intro w3 hw3 _
          show GP _ _ _ _ _ _ _ _ (_ :: _ :: _ :: _ :: _ :: _ :: _ :: _ :: _ :: _) _
          refine Zx 27 rfl rfl rfl rfl (by kernel_rfl) (by kernel_rfl) (by kernel_rfl) (by decide) (fun _ _ => (Ze rfl rfl)) ?_
          refine Zx 28 rfl rfl rfl rfl (by kernel_rfl) (by kernel_rfl) (by kernel_rfl) (by decide) (fun _ _ => (Zb (fo := 2) rfl Try.underlying103 rfl i_99 rfl rfl rfl)) ?_
          refine GP_all [29] (by kernel_rfl) (by decide) ?_
          refine (And.intro ?_ trivial)
          ·
           refine Xg (l1 := [_, _, _, _, _]) (L' := (_ :: _ :: _ :: _ :: _ :: _ :: _ :: _ :: _ :: _)) rfl rfl rfl rfl (Zq rfl rfl rfl (Zf 5 rfl) (by first | exact of_decide_eq_true rfl | omega | (simp [cOp, cWk, cIv, cHr, cLt, cWt, cIt, cFl, cTn, cCl, cPo, cSt, cDt, cDs, Sl.v, zIns, insV]; done) | (simp [cOp, cWk, cIv, cHr, cLt, cWt, cIt, cFl, cTn, cCl, cPo, cSt, cDt, cDs, Sl.v, zIns, insV]; omega) | (simp [cOp, cWk, cIv, cHr, cLt, cWt, cIt, cFl, cTn, cCl, cPo, cSt, cDt, cDs, Sl.v, zIns, insV] at *; omega)) i_99 rfl rfl) rfl (by kernel_rfl) ?_
           refine Zx 30 rfl rfl rfl rfl (by kernel_rfl) (by kernel_rfl) (by kernel_rfl) (by decide) (fun _ _ => (Ze rfl rfl)) ?_
           refine Zx 31 rfl rfl rfl rfl (by kernel_rfl) (by kernel_rfl) (by kernel_rfl) (by decide) (fun _ _ => (Zb (fo := 4) rfl Try.underlying103 rfl i_101 rfl rfl rfl)) ?_
           refine GP_all [32] (by kernel_rfl) (by decide) ?_
           refine (And.intro ?_ trivial)
           ·
            refine Xg (l1 := [_, _, _, _, _]) (L' := (_ :: _ :: _ :: _ :: _ :: _ :: _ :: _ :: _ :: _)) rfl rfl rfl rfl (Zq rfl rfl rfl (Zf 5 rfl) (by first | exact of_decide_eq_true rfl | omega | (simp [cOp, cWk, cIv, cHr, cLt, cWt, cIt, cFl, cTn, cCl, cPo, cSt, cDt, cDs, Sl.v, zIns, insV]; done) | (simp [cOp, cWk, cIv, cHr, cLt, cWt, cIt, cFl, cTn, cCl, cPo, cSt, cDt, cDs, Sl.v, zIns, insV]; omega) | (simp [cOp, cWk, cIv, cHr, cLt, cWt, cIt, cFl, cTn, cCl, cPo, cSt, cDt, cDs, Sl.v, zIns, insV] at *; omega)) i_101 rfl rfl) rfl (by kernel_rfl) ?_
            refine Zx 33 rfl rfl rfl rfl (by kernel_rfl) (by kernel_rfl) (by kernel_rfl) (by decide) (fun _ _ => (Ze rfl rfl)) ?_
            refine Zx 34 rfl rfl rfl rfl (by kernel_rfl) (by kernel_rfl) (by kernel_rfl) (by decide) (fun _ _ => (Zb (fo := 3) rfl Try.underlying103 rfl i_100 rfl rfl rfl)) ?_
            refine GP_all [35] (by kernel_rfl) (by decide) ?_
            refine (And.intro ?_ trivial)
            ·
             refine Xg (l1 := [_, _, _, _, _]) (L' := (_ :: _ :: _ :: _ :: _ :: _ :: _ :: _ :: _ :: _)) rfl rfl rfl rfl (Zq rfl rfl rfl (Zf 5 rfl) (by first | exact of_decide_eq_true rfl | omega | (simp [cOp, cWk, cIv, cHr, cLt, cWt, cIt, cFl, cTn, cCl, cPo, cSt, cDt, cDs, Sl.v, zIns, insV]; done) | (simp [cOp, cWk, cIv, cHr, cLt, cWt, cIt, cFl, cTn, cCl, cPo, cSt, cDt, cDs, Sl.v, zIns, insV]; omega) | (simp [cOp, cWk, cIv, cHr, cLt, cWt, cIt, cFl, cTn, cCl, cPo, cSt, cDt, cDs, Sl.v, zIns, insV] at *; omega)) i_100 rfl rfl) rfl (by kernel_rfl) ?_
             refine GP_done (by kernel_rfl) ?_
             exact Xy (L1 := [_, _, _, _, _]) (by exact (And.intro rfl (And.intro rfl (And.intro rfl (And.intro rfl (And.intro rfl trivial)))))) [4, 4, 4, 4, 4] (by exact ⟨_, _, rfl, List.perm_append_comm (l₁ := [_, _, _, _])⟩) (jn15 ⟨(w1, w2, w3), by rw [← Ye Cl.v0 i1C hc, ← Ye Cl.g bC hc, ← Ye Cl.s shC hc]; exact ⟨hw1, hw2, hw3⟩⟩)
      ·
       refine GPop_new rfl rfl rfl rfl (Zn (s := 1) (cs := [_]) rfl Try.underlying100 i_109 rfl rfl rfl rfl rfl rfl rfl rfl rfl) [5, 3] (fun _ => ⟨_, rfl⟩) (fun b121 => ?_)
       refine GP_all [10] (by kernel_rfl) (by decide) ?_
       refine (And.intro ?_ trivial)
       ·
        refine Yq (l1 := [_, _, _, _, _, _]) (sl := v1) (nn := i) (m := 1) (news := (i1C c.v0)) (bt := 8) rfl rfl rfl rfl Try.underlying99 Try.underlying99 (by first | exact .inl rfl | exact .inr ⟨_, rfl⟩) i_3 rfl rfl rfl rfl rfl rfl h1 rfl (Yp (Zf 2 rfl) rfl rfl (by simp [i1C, Value.oneCell'])) (by omega) (by omega) [5, 3] (fun _ => ⟨_, rfl⟩) ?_
        intro w1 hw1 _
        show GP _ _ _ _ _ _ _ _ (_ :: _ :: _ :: _ :: _ :: _ :: _ :: _ :: _ :: _) _
        refine GP_all [18] (by kernel_rfl) (by decide) ?_
        refine (And.intro ?_ trivial)
        ·
         refine Yq (l1 := [_, _, _, _, _, _, _]) (sl := v2) (nn := i) (m := 1) (news := (bC c.g)) (bt := 1) rfl rfl rfl rfl Try.underlying101 Try.underlying101 (by first | exact .inl rfl | exact .inr ⟨_, rfl⟩) i_4 rfl rfl rfl rfl rfl rfl h2 rfl (Yp (Zf 3 rfl) rfl rfl (by simp [bC, Value.oneCell'])) (by omega) (by omega) [5, 3] (fun _ => ⟨_, rfl⟩) ?_
         intro w2 hw2 _
         show GP _ _ _ _ _ _ _ _ (_ :: _ :: _ :: _ :: _ :: _ :: _ :: _ :: _ :: _) _
         refine GP_all [26] (by kernel_rfl) (by decide) ?_
         refine (And.intro ?_ trivial)
         ·
          refine Yq (l1 := [_, _, _, _, _, _, _, _]) (sl := v3) (nn := i) (m := 1) (news := (shC c.s)) (bt := 24) rfl rfl rfl rfl Try.underlying100 Try.underlying100 (by first | exact .inl rfl | exact .inr ⟨_, rfl⟩) i_109 rfl rfl rfl rfl rfl rfl h3 rfl (Yp (Zf 1 rfl) rfl rfl (by simp [shC, Value.oneCell'])) (by omega) (by omega) [5, 3] (fun _ => ⟨_, rfl⟩) ?_
          intro w3 hw3 _
          show GP _ _ _ _ _ _ _ _ (_ :: _ :: _ :: _ :: _ :: _ :: _ :: _ :: _ :: _) _
          refine Zx 27 rfl rfl rfl rfl (by kernel_rfl) (by kernel_rfl) (by kernel_rfl) (by decide) (fun _ _ => (Ze rfl rfl)) ?_
          refine Zx 28 rfl rfl rfl rfl (by kernel_rfl) (by kernel_rfl) (by kernel_rfl) (by decide) (fun _ _ => (Zb (fo := 2) rfl Try.underlying103 rfl i_99 rfl rfl rfl)) ?_
          refine GP_all [29] (by kernel_rfl) (by decide) ?_
          refine (And.intro ?_ trivial)
          ·
           refine Xg (l1 := [_, _, _, _, _]) (L' := (_ :: _ :: _ :: _ :: _ :: _ :: _ :: _ :: _ :: _)) rfl rfl rfl rfl (Zq rfl rfl rfl (Zf 5 rfl) (by first | exact of_decide_eq_true rfl | omega | (simp [cOp, cWk, cIv, cHr, cLt, cWt, cIt, cFl, cTn, cCl, cPo, cSt, cDt, cDs, Sl.v, zIns, insV]; done) | (simp [cOp, cWk, cIv, cHr, cLt, cWt, cIt, cFl, cTn, cCl, cPo, cSt, cDt, cDs, Sl.v, zIns, insV]; omega) | (simp [cOp, cWk, cIv, cHr, cLt, cWt, cIt, cFl, cTn, cCl, cPo, cSt, cDt, cDs, Sl.v, zIns, insV] at *; omega)) i_99 rfl rfl) rfl (by kernel_rfl) ?_
           refine Zx 30 rfl rfl rfl rfl (by kernel_rfl) (by kernel_rfl) (by kernel_rfl) (by decide) (fun _ _ => (Ze rfl rfl)) ?_
           refine Zx 31 rfl rfl rfl rfl (by kernel_rfl) (by kernel_rfl) (by kernel_rfl) (by decide) (fun _ _ => (Zb (fo := 4) rfl Try.underlying103 rfl i_101 rfl rfl rfl)) ?_
           refine GP_all [32] (by kernel_rfl) (by decide) ?_
           refine (And.intro ?_ trivial)
           ·
            refine Xg (l1 := [_, _, _, _, _]) (L' := (_ :: _ :: _ :: _ :: _ :: _ :: _ :: _ :: _ :: _)) rfl rfl rfl rfl (Zq rfl rfl rfl (Zf 5 rfl) (by first | exact of_decide_eq_true rfl | omega | (simp [cOp, cWk, cIv, cHr, cLt, cWt, cIt, cFl, cTn, cCl, cPo, cSt, cDt, cDs, Sl.v, zIns, insV]; done) | (simp [cOp, cWk, cIv, cHr, cLt, cWt, cIt, cFl, cTn, cCl, cPo, cSt, cDt, cDs, Sl.v, zIns, insV]; omega) | (simp [cOp, cWk, cIv, cHr, cLt, cWt, cIt, cFl, cTn, cCl, cPo, cSt, cDt, cDs, Sl.v, zIns, insV] at *; omega)) i_101 rfl rfl) rfl (by kernel_rfl) ?_
            refine Zx 33 rfl rfl rfl rfl (by kernel_rfl) (by kernel_rfl) (by kernel_rfl) (by decide) (fun _ _ => (Ze rfl rfl)) ?_
            refine Zx 34 rfl rfl rfl rfl (by kernel_rfl) (by kernel_rfl) (by kernel_rfl) (by decide) (fun _ _ => (Zb (fo := 3) rfl Try.underlying103 rfl i_100 rfl rfl rfl)) ?_
            refine GP_all [35] (by kernel_rfl) (by decide) ?_
            refine (And.intro ?_ trivial)
            ·
             refine Xg (l1 := [_, _, _, _, _]) (L' := (_ :: _ :: _ :: _ :: _ :: _ :: _ :: _ :: _ :: _)) rfl rfl rfl rfl (Zq rfl rfl rfl (Zf 5 rfl) (by first | exact of_decide_eq_true rfl | omega | (simp [cOp, cWk, cIv, cHr, cLt, cWt, cIt, cFl, cTn, cCl, cPo, cSt, cDt, cDs, Sl.v, zIns, insV]; done) | (simp [cOp, cWk, cIv, cHr, cLt, cWt, cIt, cFl, cTn, cCl, cPo, cSt, cDt, cDs, Sl.v, zIns, insV]; omega) | (simp [cOp, cWk, cIv, cHr, cLt, cWt, cIt, cFl, cTn, cCl, cPo, cSt, cDt, cDs, Sl.v, zIns, insV] at *; omega)) i_100 rfl rfl) rfl (by kernel_rfl) ?_
             refine GP_done (by kernel_rfl) ?_
             exact Xy (L1 := [_, _, _, _, _]) (by exact (And.intro rfl (And.intro rfl (And.intro rfl (And.intro rfl (And.intro rfl trivial)))))) [4, 4, 4, 4, 4] (by exact ⟨_, _, rfl, List.perm_append_comm (l₁ := [_, _, _, _])⟩) (jn15 ⟨(w1, w2, w3), by rw [← Ye Cl.v0 i1C hc, ← Ye Cl.g bC hc, ← Ye Cl.s shC hc]; exact ⟨hw1, hw2, hw3⟩⟩)
     ·
      refine GPop_new rfl rfl rfl rfl (Zn (s := 1) (cs := [_]) rfl Try.underlying100 i_109 rfl rfl rfl rfl rfl rfl rfl rfl rfl) [4, 2] (fun _ => ⟨_, rfl⟩) (fun b121 => ?_)
      refine GP_all [9] (by kernel_rfl) (by decide) ?_
      refine (And.intro ?_ trivial)
      ·
       refine GPop_new rfl rfl rfl rfl (Zn (s := 1) (cs := [_]) rfl Try.underlying99 i_3 rfl rfl rfl rfl rfl rfl rfl rfl rfl) [5, 3] (fun _ => ⟨_, rfl⟩) (fun b105 => ?_)
       refine GP_all [10] (by kernel_rfl) (by decide) ?_
       refine (And.intro ?_ trivial)
       ·
        refine Yq (l1 := [_, _, _, _, _, _]) (sl := v1) (nn := i) (m := 1) (news := (i1C c.v0)) (bt := 8) rfl rfl rfl rfl Try.underlying99 Try.underlying99 (by first | exact .inl rfl | exact .inr ⟨_, rfl⟩) i_3 rfl rfl rfl rfl rfl rfl h1 rfl (Yp (Zf 1 rfl) rfl rfl (by simp [i1C, Value.oneCell'])) (by omega) (by omega) [5, 3] (fun _ => ⟨_, rfl⟩) ?_
        intro w1 hw1 _
        show GP _ _ _ _ _ _ _ _ (_ :: _ :: _ :: _ :: _ :: _ :: _ :: _ :: _ :: _) _
        refine GP_all [18] (by kernel_rfl) (by decide) ?_
        refine (And.intro ?_ trivial)
        ·
         refine Yq (l1 := [_, _, _, _, _, _, _]) (sl := v2) (nn := i) (m := 1) (news := (bC c.g)) (bt := 1) rfl rfl rfl rfl Try.underlying101 Try.underlying101 (by first | exact .inl rfl | exact .inr ⟨_, rfl⟩) i_4 rfl rfl rfl rfl rfl rfl h2 rfl (Yp (Zf 3 rfl) rfl rfl (by simp [bC, Value.oneCell'])) (by omega) (by omega) [5, 3] (fun _ => ⟨_, rfl⟩) ?_
         intro w2 hw2 _
         show GP _ _ _ _ _ _ _ _ (_ :: _ :: _ :: _ :: _ :: _ :: _ :: _ :: _ :: _) _
         refine GP_all [26] (by kernel_rfl) (by decide) ?_
         refine (And.intro ?_ trivial)
         ·
          refine Yq (l1 := [_, _, _, _, _, _, _, _]) (sl := v3) (nn := i) (m := 1) (news := (shC c.s)) (bt := 24) rfl rfl rfl rfl Try.underlying100 Try.underlying100 (by first | exact .inl rfl | exact .inr ⟨_, rfl⟩) i_109 rfl rfl rfl rfl rfl rfl h3 rfl (Yp (Zf 2 rfl) rfl rfl (by simp [shC, Value.oneCell'])) (by omega) (by omega) [5, 3] (fun _ => ⟨_, rfl⟩) ?_
          intro w3 hw3 _
          show GP _ _ _ _ _ _ _ _ (_ :: _ :: _ :: _ :: _ :: _ :: _ :: _ :: _ :: _) _
          refine Zx 27 rfl rfl rfl rfl (by kernel_rfl) (by kernel_rfl) (by kernel_rfl) (by decide) (fun _ _ => (Ze rfl rfl)) ?_
          refine Zx 28 rfl rfl rfl rfl (by kernel_rfl) (by kernel_rfl) (by kernel_rfl) (by decide) (fun _ _ => (Zb (fo := 2) rfl Try.underlying103 rfl i_99 rfl rfl rfl)) ?_
          refine GP_all [29] (by kernel_rfl) (by decide) ?_
          refine (And.intro ?_ trivial)
          ·
           refine Xg (l1 := [_, _, _, _, _]) (L' := (_ :: _ :: _ :: _ :: _ :: _ :: _ :: _ :: _ :: _)) rfl rfl rfl rfl (Zq rfl rfl rfl (Zf 5 rfl) (by first | exact of_decide_eq_true rfl | omega | (simp [cOp, cWk, cIv, cHr, cLt, cWt, cIt, cFl, cTn, cCl, cPo, cSt, cDt, cDs, Sl.v, zIns, insV]; done) | (simp [cOp, cWk, cIv, cHr, cLt, cWt, cIt, cFl, cTn, cCl, cPo, cSt, cDt, cDs, Sl.v, zIns, insV]; omega) | (simp [cOp, cWk, cIv, cHr, cLt, cWt, cIt, cFl, cTn, cCl, cPo, cSt, cDt, cDs, Sl.v, zIns, insV] at *; omega)) i_99 rfl rfl) rfl (by kernel_rfl) ?_
           refine Zx 30 rfl rfl rfl rfl (by kernel_rfl) (by kernel_rfl) (by kernel_rfl) (by decide) (fun _ _ => (Ze rfl rfl)) ?_
           refine Zx 31 rfl rfl rfl rfl (by kernel_rfl) (by kernel_rfl) (by kernel_rfl) (by decide) (fun _ _ => (Zb (fo := 4) rfl Try.underlying103 rfl i_101 rfl rfl rfl)) ?_
           refine GP_all [32] (by kernel_rfl) (by decide) ?_
           refine (And.intro ?_ trivial)
           ·
            refine Xg (l1 := [_, _, _, _, _]) (L' := (_ :: _ :: _ :: _ :: _ :: _ :: _ :: _ :: _ :: _)) rfl rfl rfl rfl (Zq rfl rfl rfl (Zf 5 rfl) (by first | exact of_decide_eq_true rfl | omega | (simp [cOp, cWk, cIv, cHr, cLt, cWt, cIt, cFl, cTn, cCl, cPo, cSt, cDt, cDs, Sl.v, zIns, insV]; done) | (simp [cOp, cWk, cIv, cHr, cLt, cWt, cIt, cFl, cTn, cCl, cPo, cSt, cDt, cDs, Sl.v, zIns, insV]; omega) | (simp [cOp, cWk, cIv, cHr, cLt, cWt, cIt, cFl, cTn, cCl, cPo, cSt, cDt, cDs, Sl.v, zIns, insV] at *; omega)) i_101 rfl rfl) rfl (by kernel_rfl) ?_
            refine Zx 33 rfl rfl rfl rfl (by kernel_rfl) (by kernel_rfl) (by kernel_rfl) (by decide) (fun _ _ => (Ze rfl rfl)) ?_
            refine Zx 34 rfl rfl rfl rfl (by kernel_rfl) (by kernel_rfl) (by kernel_rfl) (by decide) (fun _ _ => (Zb (fo := 3) rfl Try.underlying103 rfl i_100 rfl rfl rfl)) ?_
            refine GP_all [35] (by kernel_rfl) (by decide) ?_
            refine (And.intro ?_ trivial)
            ·
             refine Xg (l1 := [_, _, _, _, _]) (L' := (_ :: _ :: _ :: _ :: _ :: _ :: _ :: _ :: _ :: _)) rfl rfl rfl rfl (Zq rfl rfl rfl (Zf 5 rfl) (by first | exact of_decide_eq_true rfl | omega | (simp [cOp, cWk, cIv, cHr, cLt, cWt, cIt, cFl, cTn, cCl, cPo, cSt, cDt, cDs, Sl.v, zIns, insV]; done) | (simp [cOp, cWk, cIv, cHr, cLt, cWt, cIt, cFl, cTn, cCl, cPo, cSt, cDt, cDs, Sl.v, zIns, insV]; omega) | (simp [cOp, cWk, cIv, cHr, cLt, cWt, cIt, cFl, cTn, cCl, cPo, cSt, cDt, cDs, Sl.v, zIns, insV] at *; omega)) i_100 rfl rfl) rfl (by kernel_rfl) ?_
             refine GP_done (by kernel_rfl) ?_
             exact Xy (L1 := [_, _, _, _, _]) (by exact (And.intro rfl (And.intro rfl (And.intro rfl (And.intro rfl (And.intro rfl trivial)))))) [4, 4, 4, 4, 4] (by exact ⟨_, _, rfl, List.perm_append_comm (l₁ := [_, _, _, _])⟩) (jn15 ⟨(w1, w2, w3), by rw [← Ye Cl.v0 i1C hc, ← Ye Cl.g bC hc, ← Ye Cl.s shC hc]; exact ⟨hw1, hw2, hw3⟩⟩)
    ·
     refine GPop_new rfl rfl rfl rfl (Zn (s := 1) (cs := [_]) rfl Try.underlying100 i_109 rfl rfl rfl rfl rfl rfl rfl rfl rfl) [3, 1] (fun _ => ⟨_, rfl⟩) (fun b121 => ?_)
     refine GP_all [9, 17] (by kernel_rfl) (by decide) ?_
     refine (And.intro ?_ (And.intro ?_ trivial))
     ·
      refine GPop_new rfl rfl rfl rfl (Zn (s := 1) (cs := [_]) rfl Try.underlying99 i_3 rfl rfl rfl rfl rfl rfl rfl rfl rfl) [4, 2] (fun _ => ⟨_, rfl⟩) (fun b105 => ?_)
      refine GP_all [10, 17] (by kernel_rfl) (by decide) ?_
      refine (And.intro ?_ (And.intro ?_ trivial))
      ·
       refine Yq (l1 := [_, _, _, _, _]) (sl := v1) (nn := i) (m := 1) (news := (i1C c.v0)) (bt := 8) rfl rfl rfl rfl Try.underlying99 Try.underlying99 (by first | exact .inl rfl | exact .inr ⟨_, rfl⟩) i_3 rfl rfl rfl rfl rfl rfl h1 rfl (Yp (Zf 1 rfl) rfl rfl (by simp [i1C, Value.oneCell'])) (by omega) (by omega) [4, 2] (fun _ => ⟨_, rfl⟩) ?_
       intro w1 hw1 _
       show GP _ _ _ _ _ _ _ _ (_ :: _ :: _ :: _ :: _ :: _ :: _ :: _ :: _) _
       refine GP_all [17] (by kernel_rfl) (by decide) ?_
       refine (And.intro ?_ trivial)
       ·
        refine GPop_new rfl rfl rfl rfl (Zn (s := 1) (cs := [_]) rfl Try.underlying101 i_4 rfl rfl rfl rfl rfl rfl rfl rfl rfl) [5, 3] (fun _ => ⟨_, rfl⟩) (fun b113 => ?_)
        refine GP_all [18] (by kernel_rfl) (by decide) ?_
        refine (And.intro ?_ trivial)
        ·
         refine Yq (l1 := [_, _, _, _, _, _, _]) (sl := v2) (nn := i) (m := 1) (news := (bC c.g)) (bt := 1) rfl rfl rfl rfl Try.underlying101 Try.underlying101 (by first | exact .inl rfl | exact .inr ⟨_, rfl⟩) i_4 rfl rfl rfl rfl rfl rfl h2 rfl (Yp (Zf 1 rfl) rfl rfl (by simp [bC, Value.oneCell'])) (by omega) (by omega) [5, 3] (fun _ => ⟨_, rfl⟩) ?_
         intro w2 hw2 _
         show GP _ _ _ _ _ _ _ _ (_ :: _ :: _ :: _ :: _ :: _ :: _ :: _ :: _ :: _) _
         refine GP_all [26] (by kernel_rfl) (by decide) ?_
         refine (And.intro ?_ trivial)
         ·
          refine Yq (l1 := [_, _, _, _, _, _, _, _]) (sl := v3) (nn := i) (m := 1) (news := (shC c.s)) (bt := 24) rfl rfl rfl rfl Try.underlying100 Try.underlying100 (by first | exact .inl rfl | exact .inr ⟨_, rfl⟩) i_109 rfl rfl rfl rfl rfl rfl h3 rfl (Yp (Zf 3 rfl) rfl rfl (by simp [shC, Value.oneCell'])) (by omega) (by omega) [5, 3] (fun _ => ⟨_, rfl⟩) ?_
          intro w3 hw3 _
          show GP _ _ _ _ _ _ _ _ (_ :: _ :: _ :: _ :: _ :: _ :: _ :: _ :: _ :: _) _
          refine Zx 27 rfl rfl rfl rfl (by kernel_rfl) (by kernel_rfl) (by kernel_rfl) (by decide) (fun _ _ => (Ze rfl rfl)) ?_
          refine Zx 28 rfl rfl rfl rfl (by kernel_rfl) (by kernel_rfl) (by kernel_rfl) (by decide) (fun _ _ => (Zb (fo := 2) rfl Try.underlying103 rfl i_99 rfl rfl rfl)) ?_
          refine GP_all [29] (by kernel_rfl) (by decide) ?_
          refine (And.intro ?_ trivial)
          ·
           refine Xg (l1 := [_, _, _, _, _]) (L' := (_ :: _ :: _ :: _ :: _ :: _ :: _ :: _ :: _ :: _)) rfl rfl rfl rfl (Zq rfl rfl rfl (Zf 5 rfl) (by first | exact of_decide_eq_true rfl | omega | (simp [cOp, cWk, cIv, cHr, cLt, cWt, cIt, cFl, cTn, cCl, cPo, cSt, cDt, cDs, Sl.v, zIns, insV]; done) | (simp [cOp, cWk, cIv, cHr, cLt, cWt, cIt, cFl, cTn, cCl, cPo, cSt, cDt, cDs, Sl.v, zIns, insV]; omega) | (simp [cOp, cWk, cIv, cHr, cLt, cWt, cIt, cFl, cTn, cCl, cPo, cSt, cDt, cDs, Sl.v, zIns, insV] at *; omega)) i_99 rfl rfl) rfl (by kernel_rfl) ?_
           refine Zx 30 rfl rfl rfl rfl (by kernel_rfl) (by kernel_rfl) (by kernel_rfl) (by decide) (fun _ _ => (Ze rfl rfl)) ?_
           refine Zx 31 rfl rfl rfl rfl (by kernel_rfl) (by kernel_rfl) (by kernel_rfl) (by decide) (fun _ _ => (Zb (fo := 4) rfl Try.underlying103 rfl i_101 rfl rfl rfl)) ?_
           refine GP_all [32] (by kernel_rfl) (by decide) ?_
           refine (And.intro ?_ trivial)
           ·
            refine Xg (l1 := [_, _, _, _, _]) (L' := (_ :: _ :: _ :: _ :: _ :: _ :: _ :: _ :: _ :: _)) rfl rfl rfl rfl (Zq rfl rfl rfl (Zf 5 rfl) (by first | exact of_decide_eq_true rfl | omega | (simp [cOp, cWk, cIv, cHr, cLt, cWt, cIt, cFl, cTn, cCl, cPo, cSt, cDt, cDs, Sl.v, zIns, insV]; done) | (simp [cOp, cWk, cIv, cHr, cLt, cWt, cIt, cFl, cTn, cCl, cPo, cSt, cDt, cDs, Sl.v, zIns, insV]; omega) | (simp [cOp, cWk, cIv, cHr, cLt, cWt, cIt, cFl, cTn, cCl, cPo, cSt, cDt, cDs, Sl.v, zIns, insV] at *; omega)) i_101 rfl rfl) rfl (by kernel_rfl) ?_
            refine Zx 33 rfl rfl rfl rfl (by kernel_rfl) (by kernel_rfl) (by kernel_rfl) (by decide) (fun _ _ => (Ze rfl rfl)) ?_
            refine Zx 34 rfl rfl rfl rfl (by kernel_rfl) (by kernel_rfl) (by kernel_rfl) (by decide) (fun _ _ => (Zb (fo := 3) rfl Try.underlying103 rfl i_100 rfl rfl rfl)) ?_
            refine GP_all [35] (by kernel_rfl) (by decide) ?_
            refine (And.intro ?_ trivial)
            ·
             refine Xg (l1 := [_, _, _, _, _]) (L' := (_ :: _ :: _ :: _ :: _ :: _ :: _ :: _ :: _ :: _)) rfl rfl rfl rfl (Zq rfl rfl rfl (Zf 5 rfl) (by first | exact of_decide_eq_true rfl | omega | (simp [cOp, cWk, cIv, cHr, cLt, cWt, cIt, cFl, cTn, cCl, cPo, cSt, cDt, cDs, Sl.v, zIns, insV]; done) | (simp [cOp, cWk, cIv, cHr, cLt, cWt, cIt, cFl, cTn, cCl, cPo, cSt, cDt, cDs, Sl.v, zIns, insV]; omega) | (simp [cOp, cWk, cIv, cHr, cLt, cWt, cIt, cFl, cTn, cCl, cPo, cSt, cDt, cDs, Sl.v, zIns, insV] at *; omega)) i_100 rfl rfl) rfl (by kernel_rfl) ?_
             refine GP_done (by kernel_rfl) ?_
             exact Xy (L1 := [_, _, _, _, _]) (by exact (And.intro rfl (And.intro rfl (And.intro rfl (And.intro rfl (And.intro rfl trivial)))))) [4, 4, 4, 4, 4] (by exact ⟨_, _, rfl, List.perm_append_comm (l₁ := [_, _, _, _])⟩) (jn15 ⟨(w1, w2, w3), by rw [← Ye Cl.v0 i1C hc, ← Ye Cl.g bC hc, ← Ye Cl.s shC hc]; exact ⟨hw1, hw2, hw3⟩⟩)
      ·
       refine GPop_new rfl rfl rfl rfl (Zn (s := 1) (cs := [_]) rfl Try.underlying101 i_4 rfl rfl rfl rfl rfl rfl rfl rfl rfl) [5, 3] (fun _ => ⟨_, rfl⟩) (fun b113 => ?_)
       refine GP_all [10] (by kernel_rfl) (by decide) ?_
       refine (And.intro ?_ trivial)
       ·
        refine Yq (l1 := [_, _, _, _, _, _]) (sl := v1) (nn := i) (m := 1) (news := (i1C c.v0)) (bt := 8) rfl rfl rfl rfl Try.underlying99 Try.underlying99 (by first | exact .inl rfl | exact .inr ⟨_, rfl⟩) i_3 rfl rfl rfl rfl rfl rfl h1 rfl (Yp (Zf 2 rfl) rfl rfl (by simp [i1C, Value.oneCell'])) (by omega) (by omega) [5, 3] (fun _ => ⟨_, rfl⟩) ?_
        intro w1 hw1 _
        show GP _ _ _ _ _ _ _ _ (_ :: _ :: _ :: _ :: _ :: _ :: _ :: _ :: _ :: _) _
        refine GP_all [18] (by kernel_rfl) (by decide) ?_
        refine (And.intro ?_ trivial)
        ·
         refine Yq (l1 := [_, _, _, _, _, _, _]) (sl := v2) (nn := i) (m := 1) (news := (bC c.g)) (bt := 1) rfl rfl rfl rfl Try.underlying101 Try.underlying101 (by first | exact .inl rfl | exact .inr ⟨_, rfl⟩) i_4 rfl rfl rfl rfl rfl rfl h2 rfl (Yp (Zf 1 rfl) rfl rfl (by simp [bC, Value.oneCell'])) (by omega) (by omega) [5, 3] (fun _ => ⟨_, rfl⟩) ?_
         intro w2 hw2 _
         show GP _ _ _ _ _ _ _ _ (_ :: _ :: _ :: _ :: _ :: _ :: _ :: _ :: _ :: _) _
         refine GP_all [26] (by kernel_rfl) (by decide) ?_
         refine (And.intro ?_ trivial)
         ·
          refine Yq (l1 := [_, _, _, _, _, _, _, _]) (sl := v3) (nn := i) (m := 1) (news := (shC c.s)) (bt := 24) rfl rfl rfl rfl Try.underlying100 Try.underlying100 (by first | exact .inl rfl | exact .inr ⟨_, rfl⟩) i_109 rfl rfl rfl rfl rfl rfl h3 rfl (Yp (Zf 3 rfl) rfl rfl (by simp [shC, Value.oneCell'])) (by omega) (by omega) [5, 3] (fun _ => ⟨_, rfl⟩) ?_
          intro w3 hw3 _
          show GP _ _ _ _ _ _ _ _ (_ :: _ :: _ :: _ :: _ :: _ :: _ :: _ :: _ :: _) _
          refine Zx 27 rfl rfl rfl rfl (by kernel_rfl) (by kernel_rfl) (by kernel_rfl) (by decide) (fun _ _ => (Ze rfl rfl)) ?_
          refine Zx 28 rfl rfl rfl rfl (by kernel_rfl) (by kernel_rfl) (by kernel_rfl) (by decide) (fun _ _ => (Zb (fo := 2) rfl Try.underlying103 rfl i_99 rfl rfl rfl)) ?_
          refine GP_all [29] (by kernel_rfl) (by decide) ?_
          refine (And.intro ?_ trivial)
          ·
           refine Xg (l1 := [_, _, _, _, _]) (L' := (_ :: _ :: _ :: _ :: _ :: _ :: _ :: _ :: _ :: _)) rfl rfl rfl rfl (Zq rfl rfl rfl (Zf 5 rfl) (by first | exact of_decide_eq_true rfl | omega | (simp [cOp, cWk, cIv, cHr, cLt, cWt, cIt, cFl, cTn, cCl, cPo, cSt, cDt, cDs, Sl.v, zIns, insV]; done) | (simp [cOp, cWk, cIv, cHr, cLt, cWt, cIt, cFl, cTn, cCl, cPo, cSt, cDt, cDs, Sl.v, zIns, insV]; omega) | (simp [cOp, cWk, cIv, cHr, cLt, cWt, cIt, cFl, cTn, cCl, cPo, cSt, cDt, cDs, Sl.v, zIns, insV] at *; omega)) i_99 rfl rfl) rfl (by kernel_rfl) ?_
           refine Zx 30 rfl rfl rfl rfl (by kernel_rfl) (by kernel_rfl) (by kernel_rfl) (by decide) (fun _ _ => (Ze rfl rfl)) ?_
           refine Zx 31 rfl rfl rfl rfl (by kernel_rfl) (by kernel_rfl) (by kernel_rfl) (by decide) (fun _ _ => (Zb (fo := 4) rfl Try.underlying103 rfl i_101 rfl rfl rfl)) ?_
           refine GP_all [32] (by kernel_rfl) (by decide) ?_
           refine (And.intro ?_ trivial)
           ·
            refine Xg (l1 := [_, _, _, _, _]) (L' := (_ :: _ :: _ :: _ :: _ :: _ :: _ :: _ :: _ :: _)) rfl rfl rfl rfl (Zq rfl rfl rfl (Zf 5 rfl) (by first | exact of_decide_eq_true rfl | omega | (simp [cOp, cWk, cIv, cHr, cLt, cWt, cIt, cFl, cTn, cCl, cPo, cSt, cDt, cDs, Sl.v, zIns, insV]; done) | (simp [cOp, cWk, cIv, cHr, cLt, cWt, cIt, cFl, cTn, cCl, cPo, cSt, cDt, cDs, Sl.v, zIns, insV]; omega) | (simp [cOp, cWk, cIv, cHr, cLt, cWt, cIt, cFl, cTn, cCl, cPo, cSt, cDt, cDs, Sl.v, zIns, insV] at *; omega)) i_101 rfl rfl) rfl (by kernel_rfl) ?_
            refine Zx 33 rfl rfl rfl rfl (by kernel_rfl) (by kernel_rfl) (by kernel_rfl) (by decide) (fun _ _ => (Ze rfl rfl)) ?_
            refine Zx 34 rfl rfl rfl rfl (by kernel_rfl) (by kernel_rfl) (by kernel_rfl) (by decide) (fun _ _ => (Zb (fo := 3) rfl Try.underlying103 rfl i_100 rfl rfl rfl)) ?_
            refine GP_all [35] (by kernel_rfl) (by decide) ?_
            refine (And.intro ?_ trivial)
            ·
             refine Xg (l1 := [_, _, _, _, _]) (L' := (_ :: _ :: _ :: _ :: _ :: _ :: _ :: _ :: _ :: _)) rfl rfl rfl rfl (Zq rfl rfl rfl (Zf 5 rfl) (by first | exact of_decide_eq_true rfl | omega | (simp [cOp, cWk, cIv, cHr, cLt, cWt, cIt, cFl, cTn, cCl, cPo, cSt, cDt, cDs, Sl.v, zIns, insV]; done) | (simp [cOp, cWk, cIv, cHr, cLt, cWt, cIt, cFl, cTn, cCl, cPo, cSt, cDt, cDs, Sl.v, zIns, insV]; omega) | (simp [cOp, cWk, cIv, cHr, cLt, cWt, cIt, cFl, cTn, cCl, cPo, cSt, cDt, cDs, Sl.v, zIns, insV] at *; omega)) i_100 rfl rfl) rfl (by kernel_rfl) ?_
             refine GP_done (by kernel_rfl) ?_
             exact Xy (L1 := [_, _, _, _, _]) (by exact (And.intro rfl (And.intro rfl (And.intro rfl (And.intro rfl (And.intro rfl trivial)))))) [4, 4, 4, 4, 4] (by exact ⟨_, _, rfl, List.perm_append_comm (l₁ := [_, _, _, _])⟩) (jn15 ⟨(w1, w2, w3), by rw [← Ye Cl.v0 i1C hc, ← Ye Cl.g bC hc, ← Ye Cl.s shC hc]; exact ⟨hw1, hw2, hw3⟩⟩)
     ·
      refine GPop_new rfl rfl rfl rfl (Zn (s := 1) (cs := [_]) rfl Try.underlying101 i_4 rfl rfl rfl rfl rfl rfl rfl rfl rfl) [4, 2] (fun _ => ⟨_, rfl⟩) (fun b113 => ?_)
      refine GP_all [9] (by kernel_rfl) (by decide) ?_
      refine (And.intro ?_ trivial)
      ·
       refine GPop_new rfl rfl rfl rfl (Zn (s := 1) (cs := [_]) rfl Try.underlying99 i_3 rfl rfl rfl rfl rfl rfl rfl rfl rfl) [5, 3] (fun _ => ⟨_, rfl⟩) (fun b105 => ?_)
       refine GP_all [10] (by kernel_rfl) (by decide) ?_
       refine (And.intro ?_ trivial)
       ·
        refine Yq (l1 := [_, _, _, _, _, _]) (sl := v1) (nn := i) (m := 1) (news := (i1C c.v0)) (bt := 8) rfl rfl rfl rfl Try.underlying99 Try.underlying99 (by first | exact .inl rfl | exact .inr ⟨_, rfl⟩) i_3 rfl rfl rfl rfl rfl rfl h1 rfl (Yp (Zf 1 rfl) rfl rfl (by simp [i1C, Value.oneCell'])) (by omega) (by omega) [5, 3] (fun _ => ⟨_, rfl⟩) ?_
        intro w1 hw1 _
        show GP _ _ _ _ _ _ _ _ (_ :: _ :: _ :: _ :: _ :: _ :: _ :: _ :: _ :: _) _
        refine GP_all [18] (by kernel_rfl) (by decide) ?_
        refine (And.intro ?_ trivial)
        ·
         refine Yq (l1 := [_, _, _, _, _, _, _]) (sl := v2) (nn := i) (m := 1) (news := (bC c.g)) (bt := 1) rfl rfl rfl rfl Try.underlying101 Try.underlying101 (by first | exact .inl rfl | exact .inr ⟨_, rfl⟩) i_4 rfl rfl rfl rfl rfl rfl h2 rfl (Yp (Zf 2 rfl) rfl rfl (by simp [bC, Value.oneCell'])) (by omega) (by omega) [5, 3] (fun _ => ⟨_, rfl⟩) ?_
         intro w2 hw2 _
         show GP _ _ _ _ _ _ _ _ (_ :: _ :: _ :: _ :: _ :: _ :: _ :: _ :: _ :: _) _
         refine GP_all [26] (by kernel_rfl) (by decide) ?_
         refine (And.intro ?_ trivial)
         ·
          refine Yq (l1 := [_, _, _, _, _, _, _, _]) (sl := v3) (nn := i) (m := 1) (news := (shC c.s)) (bt := 24) rfl rfl rfl rfl Try.underlying100 Try.underlying100 (by first | exact .inl rfl | exact .inr ⟨_, rfl⟩) i_109 rfl rfl rfl rfl rfl rfl h3 rfl (Yp (Zf 3 rfl) rfl rfl (by simp [shC, Value.oneCell'])) (by omega) (by omega) [5, 3] (fun _ => ⟨_, rfl⟩) ?_
          intro w3 hw3 _
          show GP _ _ _ _ _ _ _ _ (_ :: _ :: _ :: _ :: _ :: _ :: _ :: _ :: _ :: _) _
          refine Zx 27 rfl rfl rfl rfl (by kernel_rfl) (by kernel_rfl) (by kernel_rfl) (by decide) (fun _ _ => (Ze rfl rfl)) ?_
          refine Zx 28 rfl rfl rfl rfl (by kernel_rfl) (by kernel_rfl) (by kernel_rfl) (by decide) (fun _ _ => (Zb (fo := 2) rfl Try.underlying103 rfl i_99 rfl rfl rfl)) ?_
          refine GP_all [29] (by kernel_rfl) (by decide) ?_
          refine (And.intro ?_ trivial)
          ·
           refine Xg (l1 := [_, _, _, _, _]) (L' := (_ :: _ :: _ :: _ :: _ :: _ :: _ :: _ :: _ :: _)) rfl rfl rfl rfl (Zq rfl rfl rfl (Zf 5 rfl) (by first | exact of_decide_eq_true rfl | omega | (simp [cOp, cWk, cIv, cHr, cLt, cWt, cIt, cFl, cTn, cCl, cPo, cSt, cDt, cDs, Sl.v, zIns, insV]; done) | (simp [cOp, cWk, cIv, cHr, cLt, cWt, cIt, cFl, cTn, cCl, cPo, cSt, cDt, cDs, Sl.v, zIns, insV]; omega) | (simp [cOp, cWk, cIv, cHr, cLt, cWt, cIt, cFl, cTn, cCl, cPo, cSt, cDt, cDs, Sl.v, zIns, insV] at *; omega)) i_99 rfl rfl) rfl (by kernel_rfl) ?_
           refine Zx 30 rfl rfl rfl rfl (by kernel_rfl) (by kernel_rfl) (by kernel_rfl) (by decide) (fun _ _ => (Ze rfl rfl)) ?_
           refine Zx 31 rfl rfl rfl rfl (by kernel_rfl) (by kernel_rfl) (by kernel_rfl) (by decide) (fun _ _ => (Zb (fo := 4) rfl Try.underlying103 rfl i_101 rfl rfl rfl)) ?_
           refine GP_all [32] (by kernel_rfl) (by decide) ?_
           refine (And.intro ?_ trivial)
           ·
            refine Xg (l1 := [_, _, _, _, _]) (L' := (_ :: _ :: _ :: _ :: _ :: _ :: _ :: _ :: _ :: _)) rfl rfl rfl rfl (Zq rfl rfl rfl (Zf 5 rfl) (by first | exact of_decide_eq_true rfl | omega | (simp [cOp, cWk, cIv, cHr, cLt, cWt, cIt, cFl, cTn, cCl, cPo, cSt, cDt, cDs, Sl.v, zIns, insV]; done) | (simp [cOp, cWk, cIv, cHr, cLt, cWt, cIt, cFl, cTn, cCl, cPo, cSt, cDt, cDs, Sl.v, zIns, insV]; omega) | (simp [cOp, cWk, cIv, cHr, cLt, cWt, cIt, cFl, cTn, cCl, cPo, cSt, cDt, cDs, Sl.v, zIns, insV] at *; omega)) i_101 rfl rfl) rfl (by kernel_rfl) ?_
            refine Zx 33 rfl rfl rfl rfl (by kernel_rfl) (by kernel_rfl) (by kernel_rfl) (by decide) (fun _ _ => (Ze rfl rfl)) ?_
            refine Zx 34 rfl rfl rfl rfl (by kernel_rfl) (by kernel_rfl) (by kernel_rfl) (by decide) (fun _ _ => (Zb (fo := 3) rfl Try.underlying103 rfl i_100 rfl rfl rfl)) ?_
            refine GP_all [35] (by kernel_rfl) (by decide) ?_
            refine (And.intro ?_ trivial)
            ·
             refine Xg (l1 := [_, _, _, _, _]) (L' := (_ :: _ :: _ :: _ :: _ :: _ :: _ :: _ :: _ :: _)) rfl rfl rfl rfl (Zq rfl rfl rfl (Zf 5 rfl) (by first | exact of_decide_eq_true rfl | omega | (simp [cOp, cWk, cIv, cHr, cLt, cWt, cIt, cFl, cTn, cCl, cPo, cSt, cDt, cDs, Sl.v, zIns, insV]; done) | (simp [cOp, cWk, cIv, cHr, cLt, cWt, cIt, cFl, cTn, cCl, cPo, cSt, cDt, cDs, Sl.v, zIns, insV]; omega) | (simp [cOp, cWk, cIv, cHr, cLt, cWt, cIt, cFl, cTn, cCl, cPo, cSt, cDt, cDs, Sl.v, zIns, insV] at *; omega)) i_100 rfl rfl) rfl (by kernel_rfl) ?_
             refine GP_done (by kernel_rfl) ?_
             exact Xy (L1 := [_, _, _, _, _]) (by exact (And.intro rfl (And.intro rfl (And.intro rfl (And.intro rfl (And.intro rfl trivial)))))) [4, 4, 4, 4, 4] (by exact ⟨_, _, rfl, List.perm_append_comm (l₁ := [_, _, _, _])⟩) (jn15 ⟨(w1, w2, w3), by rw [← Ye Cl.v0 i1C hc, ← Ye Cl.g bC hc, ← Ye Cl.s shC hc]; exact ⟨hw1, hw2, hw3⟩⟩)
  refine Yx rfl ?_
  refine G_endT (p1 := [_, _, _, _, _]) (T := _) Try.func104 rfl Zo [0, 0, 0, 0, 0] ⟨_, _, rfl, List.perm_append_comm (l₁ := [])⟩ ?_
  dsimp only [packed]
  obtain rfl : i = s.l.length := by omega
  rw [List.take_length] at h1 h2 h3
  exact ⟨poOf a0 a1 v1 v2 v3 3 4 109 s.l, l3, e3, _, poOf_ok hsl h1 h2 h3 hoks, poOf_k hM, by rw [poOf_v]; exact rdgPP rfl r0 r1 r2, rfl, by rw [poOf_c]; rfl⟩

end
end Go.Proofs.Ytjnaeoelnmhjfaa

set_option linter.unusedSimpArgs false
set_option linter.unusedVariables false
namespace Go.Proofs.Ytjnaeoelnmhjfaa
open Go Go.RowKit

section
theorem i_32 : Try.prog.info? 32 = some Try.t32 := by kernel_rfl
theorem p_32 : placesOf Try.prog (Try.prog.fieldsOf 32) = some [(0, 1), (1, 1), (2, 1), (3, 1), (4, 1), (5, 1), (6, 1), (7, 1), (8, 1), (9, 1), (10, 1), (11, 1), (12, 1), (13, 1), (14, 1)] := by kernel_rfl
theorem p_80 : placesOf Try.prog (Try.prog.fieldsOf 80) = some [(0, 2), (2, 1), (3, 1)] := by kernel_rfl

set_option maxRecDepth 100000 in
set_option maxHeartbeats 2000000 in
theorem cr_listPo (b br : Nat) (l : List UInt8) (e : Nat) (hl : l.length ≤ 140737488350000) (he : e ≤ 1000) (bx k : Nat) (cs : Array Value) (T : TypeId) (hk : cs[k]? = some (.slice none 0 0)) :
    Ct Try.prog 103 [.pointer (some ⟨b, 0, none⟩), .pointer (some ⟨bx, k, none⟩), .func (.func 104) #[.pointer (some ⟨b, 0, none⟩)] #[]] [(some b, .cells #[.pointer none, .slice none 0 0, .pointer (some ⟨br, 0, none⟩), .bool false] 80 (0, 0))] [(some br, .cells #[.string (bs l), .int .i64 ((e : Nat) : Int)] 169 (0, 0)), (some bx, .cells (cs) T (0, 0))] fun v post => ∃ (s : Ins Po) (l1 : List UInt8) (e1 : Nat) (M : List HBk), InsOk 5 cPo s ∧ s.l.length ≤ 1000 ∧ Rdg (encL encPP) (GL GPP) l e (s.l.map vPo) l1 e1 ∧ (∀ m ∈ s.l, OkPo m) ∧ (∀ z ∈ insK s :: s.l.flatMap kPo, z ∈ M) ∧ v = .tuple #[] ∧ post = (some br, .cells #[.string (bs l1), .int .i64 ((e1 : Nat) : Int)] 169 (0, 0)) :: (some bx, .cells (cs.setIfInBounds k (insV s)) T (0, 0)) :: M := by
 obtain ⟨n, l0, e0, h0⟩ : ∃ a_ l_ e_, rdInt 1000 l e = (a_, l_, e_) := ⟨_, _, _, rfl⟩
 obtain ⟨hn, hl0, he0⟩ := rd_n he h0
 have hks := at_lt hk
 have hcs : cs.setIfInBounds k (slNil.v 0) = cs := set_self hk
 refine Yv Try.func103 rfl rfl (fun w0 => ?_)
 show G _ _ [(0, _), (1, _), (2, _)] _ _
 refine Zi ?_
 refine Zi ?_
 refine Zd (l := [0, 1, 2, 3, 4]) rfl ?_
 refine Za rfl rfl rfl rfl (Zc rfl rfl) ?_
 refine Za rfl rfl rfl rfl (Ze rfl rfl) ?_
 refine Za rfl rfl rfl rfl (Zb (fo := 2) rfl Try.underlying80 rfl i_74 rfl rfl rfl) ?_
 refine Za rfl rfl rfl rfl (Zj rfl rfl (Zf 0 rfl) rfl Try.underlying74 rfl) ?_
 refine Za rfl rfl rfl rfl (V_peqlN rfl Try.underlying74 rfl rfl) ?_
 refine Zg ?_
 refine G_else rfl ?_
 refine Zu ?_
 refine Zi ?_
 refine G_addNone (.cells #[] 103 (0, 0)) ?_
 refine Zd (l := [0, 1, 2, 3, 4, 5]) rfl ?_
 refine Za rfl rfl rfl rfl (Zc rfl rfl) ?_
 refine Za rfl rfl rfl rfl (Ze rfl rfl) ?_
 refine Za rfl rfl rfl rfl (Zb (fo := 2) rfl Try.underlying80 rfl i_74 rfl rfl rfl) ?_
 refine Za rfl rfl rfl rfl (Zj rfl rfl (Zf 0 rfl) rfl Try.underlying74 rfl) ?_
 refine Yh (L2 := [_, _]) rfl rfl rfl rfl rfl rfl Try.call84 ((rd_int br l e 1000 (by omega) (by omega) (by omega)).weaken (fun v post h => by rewrite [h0] at h; exact h)) [1] [] rfl rfl ?_
 rintro v post ⟨rfl, rfl⟩
 show G _ _ _ [_, _, _] _
 refine Za rfl rfl rfl rfl (Zc rfl rfl) ?_
 refine Zg ?_
 refine Zp ?_
 refine Xy (L1 := [_, _, _]) ?he10 [0, 1, 0] ?hl10 (Xc (X := Nat × Sl × List Po × List UInt8 × Nat × List HBk) (fun x_ => match x_ with | ⟨i, u, ms, l1, e1, M⟩ => i ≤ n ∧ ms.length = i ∧ Own 5 u (ms.flatMap cPo) i ∧ RdgL encPP GPP n l0 e0 i (ms.map vPo) l1 e1 ∧ (∀ m ∈ ms, OkPo m) ∧ ∀ z ∈ ms.flatMap kPo, z ∈ M) (fun x_ => match x_ with | ⟨i, u, ms, l1, e1, M⟩ => n - i) (fun x_ => match x_ with | ⟨i, u, ms, l1, e1, M⟩ => [(0, .pointer (some ⟨b, 0, none⟩)), (1, .pointer (some ⟨bx, k, none⟩)), (2, .func (.func 104) #[.pointer (some ⟨b, 0, none⟩)] #[]), (58, .int .i64 (n : Int)), (59, .int .i64 (i : Int))]) (fun x_ => match x_ with | ⟨i, u, ms, l1, e1, M⟩ => ((some br, .cells #[.string (bs l1), .int .i64 ((e1 : Nat) : Int)] 169 (0, 0)) :: (some bx, .cells (cs.setIfInBounds k (u.v i)) T (0, 0)) :: (u.ob, .cells u.cs 103 u.fz) :: M)) ?round10 (0, slNil, [], l0, e0, []) ?h010)
 case he10 => exact (And.intro rfl (And.intro rfl (And.intro rfl (And.intro rfl (And.intro rfl trivial)))))
 case hl10 => exact ⟨_, _, by show tk _ _ = some ([_, (some bx, .cells (cs.setIfInBounds k (slNil.v 0)) T (0, 0)), _], _); rw [hcs]; rfl, .refl _⟩
 case h010 => exact ⟨Nat.zero_le _, rfl, own_nil 5, .zero he0, by simp, by simp⟩
 case round10 =>
  intro x_ hJ ih
  try dsimp only at hJ ih
  obtain ⟨i, u, ms, l1, e1, M⟩ := x_
  try dsimp only at hJ ih
  obtain ⟨hi, hml, hu, hx, hoks, hM⟩ := hJ
  show G _ _ [(0, .pointer (some ⟨b, 0, none⟩)), (1, .pointer (some ⟨bx, k, none⟩)), (2, .func (.func 104) #[.pointer (some ⟨b, 0, none⟩)] #[]), (58, .int .i64 (n : Int)), (59, .int .i64 (i : Int))] ((some br, .cells #[.string (bs l1), .int .i64 ((e1 : Nat) : Int)] 169 (0, 0)) :: (some bx, .cells (cs.setIfInBounds k (u.v i)) T (0, 0)) :: (u.ob, .cells u.cs 103 u.fz) :: M) _
  have hl1 := hx.len
  have he1 := hx.err
  refine Zi ?_
  refine Zd (l := [0]) rfl ?_
  refine Za rfl rfl rfl rfl (Xh rfl rfl rfl) ?_
  refine Zg ?_
  refine Zi ?_
  refine Yl rfl (fun hc1 => ?_) (fun hc1 => ?_)
  ·
   refine Zu ?_
   refine Zi ?_
   refine Zp ?_
   refine Zi ?_
   refine Zi ?_
   refine Zd (l := [0, 1, 2, 3, 4, 5]) rfl ?_
   refine Za rfl rfl rfl rfl (Zc rfl rfl) ?_
   refine Za rfl rfl rfl rfl (Ze rfl rfl) ?_
   refine Za rfl rfl rfl rfl (Zb (fo := 2) rfl Try.underlying80 rfl i_74 rfl rfl rfl) ?_
   refine Za rfl rfl rfl rfl (Zj rfl rfl (Zf 0 rfl) rfl Try.underlying74 rfl) ?_
   refine Yh (L2 := (_ :: _ :: _ :: _)) rfl rfl rfl rfl rfl rfl Try.call86 (rd_err _ _ _) [] [1] rfl rfl ?_
   rintro v post ⟨rfl, rfl⟩
   show G _ _ _ (_ :: _ :: _ :: _) _
   refine Za rfl rfl rfl rfl (V_neq rfl rfl rfl) ?_
   refine Zg ?_
   refine Yl rfl (fun hc2 => ?_) (fun hc2 => ?_)
   ·
    refine G_retT (p1 := [_, _, _]) (T := _) Try.func103 rfl Zo [0, 0, 0] ⟨_, _, rfl, List.perm_append_comm (l₁ := [])⟩ ?_
    dsimp only [packed]
    first
      | exact ⟨insOf u 103 ms, l1, e1, _, Xd (by rw [hml]; exact hu) (by omega), by show ms.length ≤ _; omega, rdg_Lbad he h0 hx (by omega) _, hoks, sub_hd hM, rfl, by (try simp only [Xp, hml]); first | done | rfl⟩
      | (obtain rfl : i = n := by omega
         exact ⟨insOf u 103 ms, l1, e1, _, Xd (by rw [hml]; exact hu) (by omega), by show ms.length ≤ _; omega, rdg_L he h0 hx, hoks, sub_hd hM, rfl, by (try simp only [Xp, hml]); first | done | rfl⟩)
   refine Zu ?_
   refine Zi ?_
   refine Zd (l := [0]) rfl ?_
   refine Yr rfl rfl rfl rfl (Xb rfl i_103 rfl) (fun b8 => ?_)
   refine Zg ?_
   refine Zi ?_
   refine Zd (l := [0, 1]) rfl ?_
   refine Za rfl rfl rfl rfl (Zc rfl rfl) ?_
   refine G_callB (L2 := (_ :: _ :: _)) rfl rfl rfl rfl rfl rfl Try.call104 rfl (cr_pool b br l1 e1 (by omega) (by omega) _ _) [1, 0] [0] rfl rfl ?_
   rintro v post ⟨m, l2, e2, M0, hmo, hM0, hm, rfl, rfl⟩
   refine G_perm (perm_in [_, _] [_, _] _ _) ?_
   show G _ _ _ (_ :: _ :: _ :: _ :: _) _
   refine Zg ?_
   refine Ya (Lq := [_]) (isq := [1]) (m := 9) Ym rfl rfl ?_
   refine Zh 0 rfl rfl rfl rfl (by kernel_rfl) (fun _ _ => Zc rfl rfl) ?_
   refine Zh 1 rfl rfl rfl rfl (by kernel_rfl) (fun _ _ => Zc rfl rfl) ?_
   refine Zh 2 rfl rfl rfl rfl (by kernel_rfl) (fun _ _ => Ze rfl rfl) ?_
   refine Zh 4 rfl rfl rfl rfl (by kernel_rfl) (fun _ _ => V_loadW (s := 5) rfl rfl (Zf 1 rfl) Try.underlying103 rfl i_103 rfl (by rfl)) ?_
   refine GH_all [3, 5] (by kernel_rfl) (by decide) ?_
   refine (And.intro ?_ (And.intro ?_ trivial))
   ·
    refine Xn rfl rfl rfl rfl (Zj rfl rfl (Zf 3 rfl) (Zr (set_at (u.v i) hks)) Try.underlying27 rfl) ?_
    refine GH_all [5] (by kernel_rfl) (by decide) ?_
    refine (And.intro ?_ trivial)
    ·
     refine Yz rfl rfl rfl rfl (Zn (s := 5) (cs := [_, _, _, _, _]) rfl Try.underlying27 i_103 rfl rfl rfl rfl rfl rfl rfl rfl rfl) [2] (fun _ => ⟨_, rfl⟩) (fun b74 => ?_)
     refine GH_all [6] (by kernel_rfl) (by decide) ?_
     refine (And.intro ?_ trivial)
     ·
      refine Xf (l1 := [_, _, _, _]) (s := u) (nn := i) (m := 1) (news := (cPo m)) (bt := 96) rfl rfl rfl rfl Try.underlying27 Try.underlying27 (by first | exact .inl rfl | exact .inr ⟨_, rfl⟩) i_103 rfl rfl rfl rfl rfl rfl hu rfl (Yp (Zf 1 rfl) rfl rfl (by simp [cPo, Value.oneCell'])) (by omega) (by omega) [2] (fun _ => ⟨_, rfl⟩) ?_
      intro u1 hu1 _
      show GH _ _ _ _ _ _ _ (_ :: _ :: _ :: _ :: _ :: _) _
      refine Zh 7 rfl rfl rfl rfl (by kernel_rfl) (fun _ _ => Ze rfl rfl) ?_
      refine GH_all [8] (by kernel_rfl) (by decide) ?_
      refine (And.intro ?_ trivial)
      ·
       refine Xi (l1 := [_, _, _]) (L' := (_ :: _ :: _ :: _ :: _ :: _)) rfl rfl rfl rfl (Zq rfl rfl rfl (Zf 3 rfl) (by first | exact of_decide_eq_true rfl | omega | (simp [cOp, cWk, cIv, cHr, cLt, cWt, cIt, cFl, cTn, cCl, cPo, cSt, cDt, cDs, Sl.v, zIns, insV]; done) | (simp [cOp, cWk, cIv, cHr, cLt, cWt, cIt, cFl, cTn, cCl, cPo, cSt, cDt, cDs, Sl.v, zIns, insV]; omega) | (simp [cOp, cWk, cIv, cHr, cLt, cWt, cIt, cFl, cTn, cCl, cPo, cSt, cDt, cDs, Sl.v, zIns, insV] at *; omega)) i_27 rfl rfl) rfl [2] rfl ?_
       refine Zw (by kernel_rfl) ?_
       refine Zs ?_
       refine Zd (l := [0, 1]) rfl ?_
       refine Za rfl rfl rfl rfl ((Yu rfl rfl rfl).int (Zv (by omega))) ?_
       refine Za rfl rfl rfl rfl (Zc rfl rfl) ?_
       refine Zg ?_
       rw [set_set]
       refine Xy (L1 := [_, _, _]) ?_ [1, 2, 2] ?bhl10 (ih (i + 1, u1, ms ++ [m], l2, e2, ?M1) ?_ ?_)
       case bhl10 => (dsimp only; refine ⟨(_ :: _ :: _), [], rfl, ?_⟩; exact perm_all _)
       · (refine (And.intro ?_ (And.intro ?_ (And.intro ?_ (And.intro ?_ (And.intro ?_ trivial))))) <;> first | rfl | exact Zm (by omega) | exact Zm (by simp))
       · exact ⟨by omega, by simp [hml], by rw [List.flatMap_append, List.flatMap_singleton]; exact hu1, by rw [List.map_append]; exact hx.next hm (by omega), oks_nx hoks hmo, sub_next hM hM0 (fun z hz => by simp [hz]) (fun z hz => by simp [hz])⟩
       · (first | omega | (dsimp only; omega))
   ·
    refine Yz rfl rfl rfl rfl (Zn (s := 5) (cs := [_, _, _, _, _]) rfl Try.underlying27 i_103 rfl rfl rfl rfl rfl rfl rfl rfl rfl) [2] (fun _ => ⟨_, rfl⟩) (fun b74 => ?_)
    refine GH_all [3] (by kernel_rfl) (by decide) ?_
    refine (And.intro ?_ trivial)
    ·
     refine Xn rfl rfl rfl rfl (Zj rfl rfl (Zf 4 rfl) (Zr (set_at (u.v i) hks)) Try.underlying27 rfl) ?_
     refine GH_all [6] (by kernel_rfl) (by decide) ?_
     refine (And.intro ?_ trivial)
     ·
      refine Xf (l1 := [_, _, _, _]) (s := u) (nn := i) (m := 1) (news := (cPo m)) (bt := 96) rfl rfl rfl rfl Try.underlying27 Try.underlying27 (by first | exact .inl rfl | exact .inr ⟨_, rfl⟩) i_103 rfl rfl rfl rfl rfl rfl hu rfl (Yp (Zf 1 rfl) rfl rfl (by simp [cPo, Value.oneCell'])) (by omega) (by omega) [2] (fun _ => ⟨_, rfl⟩) ?_
      intro u1 hu1 _
      show GH _ _ _ _ _ _ _ (_ :: _ :: _ :: _ :: _ :: _) _
      refine Zh 7 rfl rfl rfl rfl (by kernel_rfl) (fun _ _ => Ze rfl rfl) ?_
      refine GH_all [8] (by kernel_rfl) (by decide) ?_
      refine (And.intro ?_ trivial)
      ·
       refine Xi (l1 := [_, _, _]) (L' := (_ :: _ :: _ :: _ :: _ :: _)) rfl rfl rfl rfl (Zq rfl rfl rfl (Zf 3 rfl) (by first | exact of_decide_eq_true rfl | omega | (simp [cOp, cWk, cIv, cHr, cLt, cWt, cIt, cFl, cTn, cCl, cPo, cSt, cDt, cDs, Sl.v, zIns, insV]; done) | (simp [cOp, cWk, cIv, cHr, cLt, cWt, cIt, cFl, cTn, cCl, cPo, cSt, cDt, cDs, Sl.v, zIns, insV]; omega) | (simp [cOp, cWk, cIv, cHr, cLt, cWt, cIt, cFl, cTn, cCl, cPo, cSt, cDt, cDs, Sl.v, zIns, insV] at *; omega)) i_27 rfl rfl) rfl [2] rfl ?_
       refine Zw (by kernel_rfl) ?_
       refine Zs ?_
       refine Zd (l := [0, 1]) rfl ?_
       refine Za rfl rfl rfl rfl ((Yu rfl rfl rfl).int (Zv (by omega))) ?_
       refine Za rfl rfl rfl rfl (Zc rfl rfl) ?_
       refine Zg ?_
       rw [set_set]
       refine Xy (L1 := [_, _, _]) ?_ [1, 2, 2] ?bhl10 (ih (i + 1, u1, ms ++ [m], l2, e2, ?M2) ?_ ?_)
       case bhl10 => (dsimp only; refine ⟨(_ :: _ :: _), [], rfl, ?_⟩; exact perm_all _)
       · (refine (And.intro ?_ (And.intro ?_ (And.intro ?_ (And.intro ?_ (And.intro ?_ trivial))))) <;> first | rfl | exact Zm (by omega) | exact Zm (by simp))
       · exact ⟨by omega, by simp [hml], by rw [List.flatMap_append, List.flatMap_singleton]; exact hu1, by rw [List.map_append]; exact hx.next hm (by omega), oks_nx hoks hmo, sub_next hM hM0 (fun z hz => by simp [hz]) (fun z hz => by simp [hz])⟩
       · (first | omega | (dsimp only; omega))
  refine Yx rfl ?_
  refine G_endT (p1 := [_, _, _]) (T := _) Try.func103 rfl Zo [0, 0, 0] ⟨_, _, rfl, List.perm_append_comm (l₁ := [])⟩ ?_
  dsimp only [packed]
  first
    | exact ⟨insOf u 103 ms, l1, e1, _, Xd (by rw [hml]; exact hu) (by omega), by show ms.length ≤ _; omega, rdg_Lbad he h0 hx (by omega) _, hoks, sub_hd hM, rfl, by (try simp only [Xp, hml]); first | done | rfl⟩
    | (obtain rfl : i = n := by omega
       exact ⟨insOf u 103 ms, l1, e1, _, Xd (by rw [hml]; exact hu) (by omega), by show ms.length ≤ _; omega, rdg_L he h0 hx, hoks, sub_hd hM, rfl, by (try simp only [Xp, hml]); first | done | rfl⟩)


def zSt : St := (⟨0, false, 0, 0, 0, 0, 0, zIns Op, zIns Op, zIns Wk, zIns Iv, zIns Po, zIns Hr, zIns Lt, zIns Wt⟩ : St)
def zPS : PS := ⟨0, false, 0, 0, 0, 0, 0, [], [], [], [], [], [], [], []⟩
theorem cSt_sz (x : St) : (cSt x).toArray.size = 15 := rfl
structure MkSt (x : St) : Prop where
  li : InsOk 18 cOp x.li
  en : InsOk 18 cOp x.en
  wo : InsOk 7 cWk x.wo
  iv : InsOk 5 cIv x.iv
  po : InsOk 5 cPo x.po
  hi : InsOk 17 cHr x.hi
  le : InsOk 6 cLt x.le
  wa : InsOk 2 cWt x.wa
  po2 : ∀ y ∈ x.po.l, OkPo y
theorem okSt_of {x : St} (h : MkSt x) (g : GPS (vSt x)) : OkSt x :=
  ⟨g.2.1, h.li, g.2.2.1, h.en, g.2.2.2.1, h.wo, g.2.2.2.2.1, h.iv, (fun _ _ => trivial), h.po, h.po2, h.hi, (fun _ _ => trivial), h.le, g.2.2.2.2.2, h.wa, (fun _ _ => trivial)⟩
theorem zSt_ok : MkSt zSt := ⟨zIns_ok _ _, zIns_ok _ _, zIns_ok _ _, zIns_ok _ _, zIns_ok _ _, zIns_ok _ _, zIns_ok _ _, zIns_ok _ _, by intro y hy; cases hy⟩
theorem zSt_k : ∀ z ∈ kSt zSt, z ∈ ([(none, .cells #[] 0 (0, 0))] : List HBk) := by
  intro z hz
  simp [kSt, zSt, insK, zIns] at hz
  simp [hz]
theorem st_sub {x : St} {Mp : List HBk} (hM : ∀ z ∈ insK x.po :: x.po.l.flatMap kPo, z ∈ Mp) : ∀ z ∈ kSt x, z ∈ insK x.li :: insK x.en :: insK x.wo :: insK x.iv :: insK x.hi :: insK x.le :: insK x.wa :: Mp := by
  intro z hz
  unfold kSt at hz
  have h1 := hM z
  simp only [List.mem_cons] at hz h1 ⊢
  grind
/-- What is told of the bytes l: the state p, and 0; or that there is none. -/
def DecP (l : List UInt8) (p : PS) (c : Int) : Prop := (c = 0 ∧ GPS p ∧ encPS p = l ∧ ∀ w, GPS w → encPS w = l → w = p) ∨ (c = 3 ∧ p = zPS ∧ ∀ w, GPS w → encPS w ≠ l)
theorem decP_of {l l1 : List UInt8} {e1 : Nat} {p : PS} (h : Rdg encPS GPS l 0 p l1 e1) : (rdEnd l1 e1 = 0 → DecP l p 0) ∧ (rdEnd l1 e1 ≠ 0 → DecP l zPS 3) := by
  obtain ⟨h1, h2⟩ := h.whole
  refine ⟨fun h0 => .inl ⟨rfl, (h1 h0).1, (h1 h0).2, fun w hw hl => (h2 w hw hl).2.symm⟩, fun h0 => .inr ⟨rfl, rfl, fun w hw hl => h0 (h2 w hw hl).1⟩⟩
set_option maxRecDepth 100000 in
set_option maxHeartbeats 4000000 in
theorem cr_state (b br : Nat) (l : List UInt8) (e : Nat) (hl : l.length ≤ 140737488350000) (he : e ≤ 1000) (bx : Nat) (T : TypeId) :
    Ct Try.prog 34 [.pointer (some ⟨b, 0, none⟩), .pointer (some ⟨bx, 0, none⟩)] [(some b, .cells #[.pointer none, .slice none 0 0, .pointer (some ⟨br, 0, none⟩), .bool false] 80 (0, 0))] [(some br, .cells #[.string (bs l), .int .i64 ((e : Nat) : Int)] 169 (0, 0)), (some bx, .cells ((cSt zSt).toArray) T (0, 0))] fun v post => ∃ (m : St) (l1 : List UInt8) (e1 : Nat) (M : List HBk), MkSt m ∧ (∀ z ∈ kSt m, z ∈ M) ∧ Rdg encPS GPS l e (vSt m) l1 e1 ∧ v = .tuple #[] ∧ post = (some br, .cells #[.string (bs l1), .int .i64 ((e1 : Nat) : Int)] 169 (0, 0)) :: (some bx, .cells ((cSt m).toArray) T (0, 0)) :: M := by
 unfold zSt
 refine Yv Try.func34 rfl rfl (fun w0 => ?_)
 show G _ _ [(0, _), (1, _)] _ _
 refine Zi ?_
 refine Zd (l := [0, 1, 2, 3, 4]) rfl ?_
 refine Za rfl rfl rfl rfl (Zc rfl rfl) ?_
 refine Za rfl rfl rfl rfl (Zc rfl rfl) ?_
 refine Za rfl rfl rfl rfl (Ze rfl rfl) ?_
 refine Za rfl rfl rfl rfl (Zb (fo := 0) rfl Try.underlying32 rfl i_23 rfl rfl rfl) ?_
 refine Yh (L2 := []) rfl rfl rfl rfl rfl rfl Try.call94 (cr_num b br l e (by omega) (by omega) bx 0 (cSt (⟨0, false, 0, 0, 0, 0, 0, zIns Op, zIns Op, zIns Wk, zIns Iv, zIns Po, zIns Hr, zIns Lt, zIns Wt⟩ : St)).toArray T (by rw [cSt_sz]; omega)) [0, 0] [0] rfl rfl ?_
 rintro v post ⟨a0, l1, e1, r0, rfl, rfl⟩
 show G _ _ _ [_, _] _
 rw [show ((cSt (⟨0, false, 0, 0, 0, 0, 0, zIns Op, zIns Op, zIns Wk, zIns Iv, zIns Po, zIns Hr, zIns Lt, zIns Wt⟩ : St)).toArray).setIfInBounds 0 (.int .u64 (a0 : Int)) = (cSt (⟨a0, false, 0, 0, 0, 0, 0, zIns Op, zIns Op, zIns Wk, zIns Iv, zIns Po, zIns Hr, zIns Lt, zIns Wt⟩ : St)).toArray from rfl]
 have hl1_ := r0.len
 have he1_ := r0.err
 refine Zg ?_
 refine Zi ?_
 refine Zd (l := [0, 1, 2, 3, 4]) rfl ?_
 refine Za rfl rfl rfl rfl (Zc rfl rfl) ?_
 refine Za rfl rfl rfl rfl (Zc rfl rfl) ?_
 refine Za rfl rfl rfl rfl (Ze rfl rfl) ?_
 refine Za rfl rfl rfl rfl (Zb (fo := 1) rfl Try.underlying32 rfl i_4 rfl rfl rfl) ?_
 refine Yh (L2 := []) rfl rfl rfl rfl rfl rfl Try.call95 (cr_flag b br l1 e1 (by omega) (by omega) bx 1 (cSt (⟨a0, false, 0, 0, 0, 0, 0, zIns Op, zIns Op, zIns Wk, zIns Iv, zIns Po, zIns Hr, zIns Lt, zIns Wt⟩ : St)).toArray T (by rw [cSt_sz]; omega)) [0, 0] [0] rfl rfl ?_
 rintro v post ⟨a1, l2, e2, r1, rfl, rfl⟩
 show G _ _ _ [_, _] _
 rw [show ((cSt (⟨a0, false, 0, 0, 0, 0, 0, zIns Op, zIns Op, zIns Wk, zIns Iv, zIns Po, zIns Hr, zIns Lt, zIns Wt⟩ : St)).toArray).setIfInBounds 1 (.bool a1) = (cSt (⟨a0, a1, 0, 0, 0, 0, 0, zIns Op, zIns Op, zIns Wk, zIns Iv, zIns Po, zIns Hr, zIns Lt, zIns Wt⟩ : St)).toArray from rfl]
 have hl2_ := r1.len
 have he2_ := r1.err
 refine Zg ?_
 refine Zi ?_
 refine Ya (Lq := []) (isq := []) (m := 18) Ym rfl rfl ?_
 refine Zh 0 rfl rfl rfl rfl (by kernel_rfl) (fun _ _ => Zc rfl rfl) ?_
 refine Zh 1 rfl rfl rfl rfl (by kernel_rfl) (fun _ _ => Zc rfl rfl) ?_
 refine Zh 2 rfl rfl rfl rfl (by kernel_rfl) (fun _ _ => Ze rfl rfl) ?_
 refine Zh 3 rfl rfl rfl rfl (by kernel_rfl) (fun _ _ => Zb (fo := 2) rfl Try.underlying32 rfl i_3 rfl rfl rfl) ?_
 refine Zh 4 rfl rfl rfl rfl (by kernel_rfl) (fun _ _ => Zc rfl rfl) ?_
 refine Zh 5 rfl rfl rfl rfl (by kernel_rfl) (fun _ _ => Ze rfl rfl) ?_
 refine Zh 6 rfl rfl rfl rfl (by kernel_rfl) (fun _ _ => Zb (fo := 3) rfl Try.underlying32 rfl i_3 rfl rfl rfl) ?_
 refine Zh 7 rfl rfl rfl rfl (by kernel_rfl) (fun _ _ => Zc rfl rfl) ?_
 refine Zh 8 rfl rfl rfl rfl (by kernel_rfl) (fun _ _ => Ze rfl rfl) ?_
 refine Zh 9 rfl rfl rfl rfl (by kernel_rfl) (fun _ _ => Zb (fo := 4) rfl Try.underlying32 rfl i_3 rfl rfl rfl) ?_
 refine Zh 10 rfl rfl rfl rfl (by kernel_rfl) (fun _ _ => Zc rfl rfl) ?_
 refine Zh 11 rfl rfl rfl rfl (by kernel_rfl) (fun _ _ => Ze rfl rfl) ?_
 refine Zh 12 rfl rfl rfl rfl (by kernel_rfl) (fun _ _ => Zb (fo := 5) rfl Try.underlying32 rfl i_3 rfl rfl rfl) ?_
 refine Zh 13 rfl rfl rfl rfl (by kernel_rfl) (fun _ _ => Zc rfl rfl) ?_
 refine Zh 14 rfl rfl rfl rfl (by kernel_rfl) (fun _ _ => Ze rfl rfl) ?_
 refine Zh 15 rfl rfl rfl rfl (by kernel_rfl) (fun _ _ => Zb (fo := 6) rfl Try.underlying32 rfl i_3 rfl rfl rfl) ?_
 refine GH_all [16] (by kernel_rfl) (by decide) ?_
 refine (And.intro ?_ trivial)
 ·
  refine Yz rfl rfl rfl rfl (Zn (s := 1) (cs := [_, _, _, _, _]) rfl Try.underlying241 i_176 rfl rfl rfl rfl rfl rfl rfl rfl rfl) [] (fun _ => ⟨_, rfl⟩) (fun b30 => ?_)
  refine GH_all [17] (by kernel_rfl) (by decide) ?_
  refine (And.intro ?_ trivial)
  ·
   refine Zz (L2 := [_]) rfl rfl rfl rfl rfl rfl Try.call96 (cr_intsL b br l2 e2 (by omega) (by omega) _ _ bx (cSt (⟨a0, a1, 0, 0, 0, 0, 0, zIns Op, zIns Op, zIns Wk, zIns Iv, zIns Po, zIns Hr, zIns Lt, zIns Wt⟩ : St)).toArray T [2, 3, 4, 5, 6] (by simp) (by intro y hy; simp only [cSt_sz]; simp only [List.mem_cons, List.not_mem_nil, or_false] at hy; omega)) [1, 1] [1, 0] rfl rfl [] (by rintro v post ⟨xs2, l3, e3, hxs, r2, rfl, rfl⟩; exact ⟨_, rfl⟩) ?_
   rintro v post ⟨xs2, l3, e3, hxs, r2, rfl, rfl⟩
   show GH _ _ _ _ _ _ _ [_, _, _] _
   obtain ⟨a2, a3, a4, a5, a6, rfl⟩ := len_5 hxs
   rw [show putAll (fun z : Int => Value.int .i64 z) (cSt (⟨a0, a1, 0, 0, 0, 0, 0, zIns Op, zIns Op, zIns Wk, zIns Iv, zIns Po, zIns Hr, zIns Lt, zIns Wt⟩ : St)).toArray [2, 3, 4, 5, 6] [a2, a3, a4, a5, a6] = (cSt (⟨a0, a1, a2, a3, a4, a5, a6, zIns Op, zIns Op, zIns Wk, zIns Iv, zIns Po, zIns Hr, zIns Lt, zIns Wt⟩ : St)).toArray by unfold cSt; simp only [putAll_cons, putAll_nil, List.set_cons_succ, List.set_cons_zero]]
   have hl3_ := r2.len
   have he3_ := r2.err
   refine Zw (by kernel_rfl) ?_
   refine Zi ?_
   refine Zd (l := [0, 1, 2, 3, 4, 5, 6]) rfl ?_
   refine Za rfl rfl rfl rfl (Zc rfl rfl) ?_
   refine Za rfl rfl rfl rfl (Zc rfl rfl) ?_
   refine Za rfl rfl rfl rfl (Ze rfl rfl) ?_
   refine Za rfl rfl rfl rfl (Zb (fo := 7) rfl Try.underlying32 rfl i_24 rfl rfl rfl) ?_
   refine Za rfl rfl rfl rfl (Zc rfl rfl) ?_
   refine Za rfl rfl rfl rfl (V_func rfl rfl rfl) ?_
   refine Yh (L2 := [_]) rfl rfl rfl rfl rfl rfl Try.call97 (cr_listOp b br l3 e3 (by omega) (by omega) bx 7 (cSt (⟨a0, a1, a2, a3, a4, a5, a6, zIns Op, zIns Op, zIns Wk, zIns Iv, zIns Po, zIns Hr, zIns Lt, zIns Wt⟩ : St)).toArray T rfl) [0, 0] [0] rfl rfl ?_
   rintro v post ⟨sli, l4, e4, hsli, hlli, r3, rfl, rfl⟩
   show G _ _ _ [_, _, _, _] _
   rw [show ((cSt (⟨a0, a1, a2, a3, a4, a5, a6, zIns Op, zIns Op, zIns Wk, zIns Iv, zIns Po, zIns Hr, zIns Lt, zIns Wt⟩ : St)).toArray).setIfInBounds 7 (insV sli) = (cSt (⟨a0, a1, a2, a3, a4, a5, a6, sli, zIns Op, zIns Wk, zIns Iv, zIns Po, zIns Hr, zIns Lt, zIns Wt⟩ : St)).toArray from rfl]
   have hl4_ := r3.len
   have he4_ := r3.err
   refine Zg ?_
   refine Zi ?_
   refine Zd (l := [0, 1, 2, 3, 4, 5, 6]) rfl ?_
   refine Za rfl rfl rfl rfl (Zc rfl rfl) ?_
   refine Za rfl rfl rfl rfl (Zc rfl rfl) ?_
   refine Za rfl rfl rfl rfl (Ze rfl rfl) ?_
   refine Za rfl rfl rfl rfl (Zb (fo := 8) rfl Try.underlying32 rfl i_24 rfl rfl rfl) ?_
   refine Za rfl rfl rfl rfl (Zc rfl rfl) ?_
   refine Za rfl rfl rfl rfl (V_func rfl rfl rfl) ?_
   refine Yh (L2 := [_, _]) rfl rfl rfl rfl rfl rfl Try.call97 (cr_listOp b br l4 e4 (by omega) (by omega) bx 8 (cSt (⟨a0, a1, a2, a3, a4, a5, a6, sli, zIns Op, zIns Wk, zIns Iv, zIns Po, zIns Hr, zIns Lt, zIns Wt⟩ : St)).toArray T rfl) [0, 0] [0] rfl rfl ?_
   rintro v post ⟨sen, l5, e5, hsen, hlen, r4, rfl, rfl⟩
   show G _ _ _ [_, _, _, _, _] _
   rw [show ((cSt (⟨a0, a1, a2, a3, a4, a5, a6, sli, zIns Op, zIns Wk, zIns Iv, zIns Po, zIns Hr, zIns Lt, zIns Wt⟩ : St)).toArray).setIfInBounds 8 (insV sen) = (cSt (⟨a0, a1, a2, a3, a4, a5, a6, sli, sen, zIns Wk, zIns Iv, zIns Po, zIns Hr, zIns Lt, zIns Wt⟩ : St)).toArray from rfl]
   have hl5_ := r4.len
   have he5_ := r4.err
   refine Zg ?_
   refine Zi ?_
   refine Zd (l := [0, 1, 2, 3, 4, 5, 6]) rfl ?_
   refine Za rfl rfl rfl rfl (Zc rfl rfl) ?_
   refine Za rfl rfl rfl rfl (Zc rfl rfl) ?_
   refine Za rfl rfl rfl rfl (Ze rfl rfl) ?_
   refine Za rfl rfl rfl rfl (Zb (fo := 9) rfl Try.underlying32 rfl i_25 rfl rfl rfl) ?_
   refine Za rfl rfl rfl rfl (Zc rfl rfl) ?_
   refine Za rfl rfl rfl rfl (V_func rfl rfl rfl) ?_
   refine Yh (L2 := [_, _, _]) rfl rfl rfl rfl rfl rfl Try.call99 (cr_listWk b br l5 e5 (by omega) (by omega) bx 9 (cSt (⟨a0, a1, a2, a3, a4, a5, a6, sli, sen, zIns Wk, zIns Iv, zIns Po, zIns Hr, zIns Lt, zIns Wt⟩ : St)).toArray T rfl) [0, 0] [0] rfl rfl ?_
   rintro v post ⟨swo, l6, e6, hswo, hlwo, r5, rfl, rfl⟩
   show G _ _ _ [_, _, _, _, _, _] _
   rw [show ((cSt (⟨a0, a1, a2, a3, a4, a5, a6, sli, sen, zIns Wk, zIns Iv, zIns Po, zIns Hr, zIns Lt, zIns Wt⟩ : St)).toArray).setIfInBounds 9 (insV swo) = (cSt (⟨a0, a1, a2, a3, a4, a5, a6, sli, sen, swo, zIns Iv, zIns Po, zIns Hr, zIns Lt, zIns Wt⟩ : St)).toArray from rfl]
   have hl6_ := r5.len
   have he6_ := r5.err
   refine Zg ?_
   refine Zi ?_
   refine Zd (l := [0, 1, 2, 3, 4, 5, 6]) rfl ?_
   refine Za rfl rfl rfl rfl (Zc rfl rfl) ?_
   refine Za rfl rfl rfl rfl (Zc rfl rfl) ?_
   refine Za rfl rfl rfl rfl (Ze rfl rfl) ?_
   refine Za rfl rfl rfl rfl (Zb (fo := 10) rfl Try.underlying32 rfl i_26 rfl rfl rfl) ?_
   refine Za rfl rfl rfl rfl (Zc rfl rfl) ?_
   refine Za rfl rfl rfl rfl (V_func rfl rfl rfl) ?_
   refine Yh (L2 := [_, _, _, _]) rfl rfl rfl rfl rfl rfl Try.call101 (cr_listIv b br l6 e6 (by omega) (by omega) bx 10 (cSt (⟨a0, a1, a2, a3, a4, a5, a6, sli, sen, swo, zIns Iv, zIns Po, zIns Hr, zIns Lt, zIns Wt⟩ : St)).toArray T rfl) [0, 0] [0] rfl rfl ?_
   rintro v post ⟨siv, l7, e7, hsiv, hliv, r6, rfl, rfl⟩
   show G _ _ _ [_, _, _, _, _, _, _] _
   rw [show ((cSt (⟨a0, a1, a2, a3, a4, a5, a6, sli, sen, swo, zIns Iv, zIns Po, zIns Hr, zIns Lt, zIns Wt⟩ : St)).toArray).setIfInBounds 10 (insV siv) = (cSt (⟨a0, a1, a2, a3, a4, a5, a6, sli, sen, swo, siv, zIns Po, zIns Hr, zIns Lt, zIns Wt⟩ : St)).toArray from rfl]
   have hl7_ := r6.len
   have he7_ := r6.err
   refine Zg ?_
   refine Zi ?_
   refine Zd (l := [0, 1, 2, 3, 4, 5, 6]) rfl ?_
   refine Za rfl rfl rfl rfl (Zc rfl rfl) ?_
   refine Za rfl rfl rfl rfl (Zc rfl rfl) ?_
   refine Za rfl rfl rfl rfl (Ze rfl rfl) ?_
   refine Za rfl rfl rfl rfl (Zb (fo := 11) rfl Try.underlying32 rfl i_27 rfl rfl rfl) ?_
   refine Za rfl rfl rfl rfl (Zc rfl rfl) ?_
   refine Za rfl rfl rfl rfl (V_func rfl rfl rfl) ?_
   refine Yh (L2 := [_, _, _, _, _]) rfl rfl rfl rfl rfl rfl Try.call103 (cr_listPo b br l7 e7 (by omega) (by omega) bx 11 (cSt (⟨a0, a1, a2, a3, a4, a5, a6, sli, sen, swo, siv, zIns Po, zIns Hr, zIns Lt, zIns Wt⟩ : St)).toArray T rfl) [0, 0] [0] rfl rfl ?_
   rintro v post ⟨spo, l8, e8, Mp, hspo, hlpo, r7, hoks, hM, rfl, rfl⟩
   refine G_perm (perm_in0 [_, _] [_, _, _, _, _] _) ?_
   show G _ _ _ (_ :: _ :: _ :: _ :: _ :: _ :: _ :: _) _
   rw [show ((cSt (⟨a0, a1, a2, a3, a4, a5, a6, sli, sen, swo, siv, zIns Po, zIns Hr, zIns Lt, zIns Wt⟩ : St)).toArray).setIfInBounds 11 (insV spo) = (cSt (⟨a0, a1, a2, a3, a4, a5, a6, sli, sen, swo, siv, spo, zIns Hr, zIns Lt, zIns Wt⟩ : St)).toArray from rfl]
   have hl8_ := r7.len
   have he8_ := r7.err
   refine Zg ?_
   refine Zi ?_
   refine Zd (l := [0, 1, 2, 3, 4, 5, 6]) rfl ?_
   refine Za rfl rfl rfl rfl (Zc rfl rfl) ?_
   refine Za rfl rfl rfl rfl (Zc rfl rfl) ?_
   refine Za rfl rfl rfl rfl (Ze rfl rfl) ?_
   refine Za rfl rfl rfl rfl (Zb (fo := 12) rfl Try.underlying32 rfl i_28 rfl rfl rfl) ?_
   refine Za rfl rfl rfl rfl (Zc rfl rfl) ?_
   refine Za rfl rfl rfl rfl (V_func rfl rfl rfl) ?_
   refine Yh (L2 := (_ :: _ :: _ :: _ :: _ :: _)) rfl rfl rfl rfl rfl rfl Try.call105 (cr_listHr b br l8 e8 (by omega) (by omega) bx 12 (cSt (⟨a0, a1, a2, a3, a4, a5, a6, sli, sen, swo, siv, spo, zIns Hr, zIns Lt, zIns Wt⟩ : St)).toArray T rfl) [0, 0] [0] rfl rfl ?_
   rintro v post ⟨shi, l9, e9, hshi, hlhi, r8, rfl, rfl⟩
   show G _ _ _ (_ :: _ :: _ :: _ :: _ :: _ :: _ :: _ :: _) _
   rw [show ((cSt (⟨a0, a1, a2, a3, a4, a5, a6, sli, sen, swo, siv, spo, zIns Hr, zIns Lt, zIns Wt⟩ : St)).toArray).setIfInBounds 12 (insV shi) = (cSt (⟨a0, a1, a2, a3, a4, a5, a6, sli, sen, swo, siv, spo, shi, zIns Lt, zIns Wt⟩ : St)).toArray from rfl]
   have hl9_ := r8.len
   have he9_ := r8.err
   refine Zg ?_
   refine Zi ?_
   refine Zd (l := [0, 1, 2, 3, 4, 5, 6]) rfl ?_
   refine Za rfl rfl rfl rfl (Zc rfl rfl) ?_
   refine Za rfl rfl rfl rfl (Zc rfl rfl) ?_
   refine Za rfl rfl rfl rfl (Ze rfl rfl) ?_
   refine Za rfl rfl rfl rfl (Zb (fo := 13) rfl Try.underlying32 rfl i_29 rfl rfl rfl) ?_
   refine Za rfl rfl rfl rfl (Zc rfl rfl) ?_
   refine Za rfl rfl rfl rfl (V_func rfl rfl rfl) ?_
   refine Yh (L2 := (_ :: _ :: _ :: _ :: _ :: _ :: _)) rfl rfl rfl rfl rfl rfl Try.call107 (cr_listLt b br l9 e9 (by omega) (by omega) bx 13 (cSt (⟨a0, a1, a2, a3, a4, a5, a6, sli, sen, swo, siv, spo, shi, zIns Lt, zIns Wt⟩ : St)).toArray T rfl) [0, 0] [0] rfl rfl ?_
   rintro v post ⟨sle, l10, e10, hsle, hlle, r9, rfl, rfl⟩
   show G _ _ _ (_ :: _ :: _ :: _ :: _ :: _ :: _ :: _ :: _ :: _) _
   rw [show ((cSt (⟨a0, a1, a2, a3, a4, a5, a6, sli, sen, swo, siv, spo, shi, zIns Lt, zIns Wt⟩ : St)).toArray).setIfInBounds 13 (insV sle) = (cSt (⟨a0, a1, a2, a3, a4, a5, a6, sli, sen, swo, siv, spo, shi, sle, zIns Wt⟩ : St)).toArray from rfl]
   have hl10_ := r9.len
   have he10_ := r9.err
   refine Zg ?_
   refine Zd (l := [0, 1, 2, 3, 4, 5, 6]) rfl ?_
   refine Za rfl rfl rfl rfl (Zc rfl rfl) ?_
   refine Za rfl rfl rfl rfl (Zc rfl rfl) ?_
   refine Za rfl rfl rfl rfl (Ze rfl rfl) ?_
   refine Za rfl rfl rfl rfl (Zb (fo := 14) rfl Try.underlying32 rfl i_30 rfl rfl rfl) ?_
   refine Za rfl rfl rfl rfl (Zc rfl rfl) ?_
   refine Za rfl rfl rfl rfl (V_func rfl rfl rfl) ?_
   refine Yh (L2 := (_ :: _ :: _ :: _ :: _ :: _ :: _ :: _)) rfl rfl rfl rfl rfl rfl Try.call109 (cr_listWt b br l10 e10 (by omega) (by omega) bx 14 (cSt (⟨a0, a1, a2, a3, a4, a5, a6, sli, sen, swo, siv, spo, shi, sle, zIns Wt⟩ : St)).toArray T rfl) [0, 0] [0] rfl rfl ?_
   rintro v post ⟨swa, l11, e11, hswa, hlwa, r10, rfl, rfl⟩
   show G _ _ _ (_ :: _ :: _ :: _ :: _ :: _ :: _ :: _ :: _ :: _ :: _) _
   rw [show ((cSt (⟨a0, a1, a2, a3, a4, a5, a6, sli, sen, swo, siv, spo, shi, sle, zIns Wt⟩ : St)).toArray).setIfInBounds 14 (insV swa) = (cSt (⟨a0, a1, a2, a3, a4, a5, a6, sli, sen, swo, siv, spo, shi, sle, swa⟩ : St)).toArray from rfl]
   have hl11_ := r10.len
   have he11_ := r10.err
   refine Zg ?_
   refine G_endT (p1 := [_, _, _, _, _, _, _, _, _]) (T := _) Try.func34 rfl Zo [0, 0, 6, 5, 4, 3, 2, 1, 0] ⟨_, _, rfl, List.perm_append_comm (l₁ := [_])⟩ ?_
   dsimp only [packed]
   exact ⟨(⟨a0, a1, a2, a3, a4, a5, a6, sli, sen, swo, siv, spo, shi, sle, swa⟩ : St), l11, e11, _, ⟨hsli, hsen, hswo, hsiv, hspo, hshi, hsle, hswa, hoks⟩, st_sub hM, rdgPS r0 r1 r2 r3 r4 r5 r6 r7 r8 r9 r10, rfl, rfl⟩

set_option maxRecDepth 100000 in
set_option maxHeartbeats 4000000 in
theorem du_decode (l : List UInt8) (hl : l.length ≤ 140737488350000) :
    Ct Try.prog 9 [.string (bs l)] [] [] fun v post => ∃ (x : St) (c : Int) (M : List HBk), MkSt x ∧ (∀ z ∈ kSt x, z ∈ M) ∧ DecP l (vSt x) c ∧ v = .tuple #[.agg (cSt x).toArray, .int .i64 c] ∧ post = M := by
 refine Yv Try.func9 rfl rfl (fun w0 => ?_)
 show G _ _ [(0, _)] _ _
 refine Zi ?_
 refine Zd (l := [0, 1]) rfl ?_
 refine Yr rfl rfl rfl rfl (Xb rfl i_32 rfl) (fun b2 => ?_)
 refine Za rfl rfl rfl rfl (Zk rfl rfl) ?_
 refine Zg ?_
 refine Zi ?_
 refine Zd (l := [0, 1, 2, 3, 4]) rfl ?_
 refine Za rfl rfl rfl rfl (Zc rfl rfl) ?_
 refine Yh (L2 := [_]) rfl rfl rfl rfl rfl rfl Try.call33 (rd_new _) [] [] rfl rfl ?_
 rintro v post ⟨br, rfl, rfl⟩
 show G _ _ _ [_, _] _
 refine Za rfl rfl rfl rfl (V_buildS (cs := [_, _, _, _]) rfl Try.underlying80 i_80 rfl p_80 rfl rfl rfl) ?_
 refine Yr rfl rfl rfl rfl (Xb rfl i_80 rfl) (fun b4 => ?_)
 refine Xl (l1 := []) (L' := [_, _, _]) rfl rfl rfl rfl (Xk (s := 4) rfl rfl rfl (Zf 0 rfl) (by rfl) i_80 rfl (by rfl) (by simp [Value.oneCell', cOp, cWk, cIv, cHr, cLt, cWt, cIt, cFl, cTn, cCl, cPo, cSt, cDt, cDs, Sl.v, zIns, insV])) rfl ?_
 refine Zg ?_
 refine Zi ?_
 refine Zd (l := [0]) rfl ?_
 refine Yr rfl rfl rfl rfl (Xb rfl i_32 rfl) (fun b5 => ?_)
 refine Zg ?_
 refine Zi ?_
 refine Zd (l := [0]) rfl ?_
 refine Yh (L2 := [_, _]) rfl rfl rfl rfl rfl rfl Try.call34 (cr_state b4 br l 0 hl (by omega) b5 _) [2, 0] [0] rfl rfl ?_
 rintro v post ⟨x, l1, e1, M, hx, hM, hr, rfl, rfl⟩
 refine G_perm (perm_in0 [_, _] [_, _] _) ?_
 show G _ _ _ (_ :: _ :: _ :: _ :: _) _
 obtain ⟨hd0, hd1⟩ := decP_of hr
 refine Zg ?_
 refine Zi ?_
 refine Zi ?_
 refine Zd (l := [0, 1, 2, 3]) rfl ?_
 refine Za rfl rfl rfl rfl (Zb (fo := 2) rfl Try.underlying80 rfl i_74 rfl rfl rfl) ?_
 refine Za rfl rfl rfl rfl (Zj rfl rfl (Zf 2 rfl) rfl Try.underlying74 rfl) ?_
 refine Yh (L2 := (_ :: _ :: _ :: _ :: _)) rfl rfl rfl rfl rfl rfl Try.call35 (rd_end _ _ _) [] [0] rfl rfl ?_
 rintro v post ⟨rfl, rfl⟩
 show G _ _ _ (_ :: _ :: _ :: _ :: _) _
 refine Za rfl rfl rfl rfl (V_neq rfl rfl rfl) ?_
 refine Zg ?_
 refine Yl rfl (fun hc1 => ?_) (fun hc1 => ?_)
 ·
  refine Zi ?_
  refine G_addNone (.cells #[] 0 (0, 0)) ?_
  refine Zd (l := [0, 1, 2]) rfl ?_
  refine Za rfl rfl rfl rfl (V_buildS (cs := [_, _, _, _, _, _, _, _, _, _, _, _, _, _, _]) rfl Try.underlying32 i_32 rfl p_32 rfl rfl rfl) ?_
  refine Xl (l1 := [_, _, _, _]) (L' := (_ :: _ :: _ :: _ :: _ :: _)) rfl rfl rfl rfl (Xk (s := 15) rfl rfl rfl (Zf 4 rfl) (by rfl) i_32 rfl (by rfl) (by simp [Value.oneCell', cOp, cWk, cIv, cHr, cLt, cWt, cIt, cFl, cTn, cCl, cPo, cSt, cDt, cDs, Sl.v, zIns, insV])) rfl ?_
  refine Za rfl rfl rfl rfl (Zk rfl rfl) ?_
  refine Zg ?_
  refine G_retT (p1 := [_]) (T := []) Try.func9 rfl (Zy (RV_cell (s := 15) rfl (Zf 4 rfl) Try.underlying32 rfl i_32 rfl (by rfl)) (Zy (Yy rfl) Zo)) [0] ⟨_, _, rfl, .refl _⟩ ?_
  dsimp only [packed]
  first
    | exact ⟨zSt, 3, _, zSt_ok, zSt_k, hd1 (by omega), rfl, rfl⟩
    | exact ⟨x, 0, _, hx, hM, hd0 (by omega), rfl, rfl⟩
 refine Zu ?_
 refine Zi ?_
 refine Zd (l := [0, 1, 2]) rfl ?_
 refine Za rfl rfl rfl rfl (V_loadW (s := 15) rfl rfl (Zf 1 rfl) Try.underlying32 rfl i_32 rfl (by rfl)) ?_
 refine Xl (l1 := [_, _, _]) (L' := (_ :: _ :: _ :: _ :: _)) rfl rfl rfl rfl (Xk (s := 15) rfl rfl rfl (Zf 3 rfl) (by rfl) i_32 rfl (by rfl) (by simp [Value.oneCell', cOp, cWk, cIv, cHr, cLt, cWt, cIt, cFl, cTn, cCl, cPo, cSt, cDt, cDs, Sl.v, zIns, insV])) rfl ?_
 refine Za rfl rfl rfl rfl (Zk rfl rfl) ?_
 refine Zg ?_
 refine G_retT (p1 := []) (T := _) Try.func9 rfl (Zy (RV_cell (s := 15) rfl (Zf 3 rfl) Try.underlying32 rfl i_32 rfl (by rfl)) (Zy (Yy rfl) Zo)) [] ⟨_, _, rfl, List.perm_append_comm (l₁ := [_, _, _, _])⟩ ?_
 dsimp only [packed]
 first
   | exact ⟨zSt, 3, _, zSt_ok, zSt_k, hd1 (by omega), rfl, rfl⟩
   | exact ⟨x, 0, _, hx, hM, hd0 (by omega), rfl, rfl⟩

end
end Go.Proofs.Ytjnaeoelnmhjfaa

set_option linter.unusedSimpArgs false
set_option linter.unusedVariables false
namespace Go.Proofs.Ytjnaeoelnmhjfaa
open Go Go.RowKit

section
def nSt : St := (⟨0, false, 0, 1, 0, 0, 0, zIns Op, zIns Op, zIns Wk, zIns Iv, zIns Po, zIns Hr, zIns Lt, zIns Wt⟩ : St)
theorem nSt_ok : MkSt nSt := ⟨zIns_ok _ _, zIns_ok _ _, zIns_ok _ _, zIns_ok _ _, zIns_ok _ _, zIns_ok _ _, zIns_ok _ _, zIns_ok _ _, by intro y hy; cases hy⟩
theorem nSt_k : ∀ z ∈ kSt nSt, z ∈ ([(none, .cells #[] 0 (0, 0))] : List HBk) := by
  intro z hz
  simp [kSt, nSt, insK, zIns] at hz
  simp [hz]
theorem nSt_good : GPS (vSt nSt) := ⟨by rfl, by simp [OkPS, vSt, nSt, zIns]⟩
theorem c0 : chainI 0 = [0] := chain_small 0 (by omega)
theorem c1 : chainI 1 = [1] := chain_small 1 (by omega)
theorem e0 : encI 0 = [0] := by rw [encI_of (by omega) (by omega)]; exact c0
theorem e1 : encI 1 = [1] := by rw [encI_of (by omega) (by omega)]; exact c1
theorem eL {α : Type} (f : α → List UInt8) : encL f [] = [0] := by unfold encL; exact (by rw [show (([] : List α).length : Int) = 0 from rfl, c0]; rfl)
theorem enc_nSt : encPS (vSt nSt) = [0, 0, 0, 1, 0, 0, 0, 0, 0, 0, 0, 0, 0, 0, 0] := by
  simp [encPS, vSt, nSt, zIns, encU, encB, encIs, c0, e0, e1, eL]
theorem enc_ok {x : St} (h : GPS (vSt x)) : dumpE x = .tuple #[.string (bs (encPS (vSt x))), .int .i64 0] := by rw [dumpE_v, dumpP_ok h.1]
theorem du_enc (x : St) (hx : MkSt x) (hg : GPS (vSt x)) (hl : (encPS (vSt x)).length ≤ 140737488350000) : Ct Try.prog 14 [.agg (cSt x).toArray] (kSt x) [] (fun v post => v = .tuple #[.string (bs (encPS (vSt x))), .int .i64 0] ∧ post = []) :=
  (du_encode x (okSt_of hx hg) (by rw [encSt_v]; exact hl)).weaken (fun v post h => by rw [enc_ok hg] at h; exact h)

set_option maxRecDepth 100000 in
set_option maxHeartbeats 1000000 in
theorem dl_num (n : Int) :
    Ct Try.prog 12 [.int .i64 n] [] [] fun v post => v = .int .i64 n ∧ post = [] := by
 refine Yv Try.func12 rfl rfl (fun w0 => ?_)
 show G _ _ [(0, _)] _ _
 refine Zi ?_
 refine Zd (l := [0]) rfl ?_
 refine Za rfl rfl rfl rfl (Zk rfl rfl) ?_
 refine Zg ?_
 refine Zi ?_
 refine Zd (l := [0, 1]) rfl ?_
 refine Za rfl rfl rfl rfl (Zc rfl rfl) ?_
 refine Za rfl rfl rfl rfl (Zk rfl rfl) ?_
 refine Zg ?_
 refine Xa (post := []) Try.func12 rfl (Zy (Yy rfl) Zo) [] rfl ?_
 dsimp only [packed]
 exact ⟨rfl, rfl⟩

set_option maxRecDepth 100000 in
set_option maxHeartbeats 1000000 in
theorem st_new  :
    Ct Try.prog 32 [] [] [] fun v post => v = .agg (cSt nSt).toArray ∧ post = [] := by
 refine Yv Try.func32 rfl rfl (fun w0 => ?_)
 show G _ _ [] _ _
 refine Zi ?_
 refine Zd (l := [0]) rfl ?_
 refine Yr rfl rfl rfl rfl (Xb rfl i_32 rfl) (fun b0 => ?_)
 refine Zg ?_
 refine Zi ?_
 refine Zd (l := [0, 1]) rfl ?_
 refine Za rfl rfl rfl rfl (V_buildS (cs := [_, _, _, _, _, _, _, _, _, _, _, _, _, _, _]) rfl Try.underlying32 i_32 rfl p_32 rfl rfl rfl) ?_
 refine Xl (l1 := []) (L' := [_]) rfl rfl rfl rfl (Xk (s := 15) rfl rfl rfl (Zf 0 rfl) (by rfl) i_32 rfl (by rfl) (by simp [Value.oneCell', cOp, cWk, cIv, cHr, cLt, cWt, cIt, cFl, cTn, cCl, cPo, cSt, cDt, cDs, Sl.v, zIns, insV])) rfl ?_
 refine Zg ?_
 refine Xa (post := []) Try.func32 rfl (Zy (RV_cell (s := 15) rfl (Zf 0 rfl) Try.underlying32 rfl i_32 rfl (by rfl)) Zo) [] rfl ?_
 dsimp only [packed]
 exact ⟨rfl, rfl⟩

set_option maxRecDepth 100000 in
set_option maxHeartbeats 1000000 in
theorem dl_live  :
    Ct Try.prog 8 [] [] [] fun v post => v = .bool true ∧ post = [] := by
 refine Yv Try.func8 rfl rfl (fun w0 => ?_)
 show G _ _ [] _ _
 refine Zi ?_
 refine Zd (l := [0]) rfl ?_
 refine Za rfl rfl rfl rfl (Zk rfl rfl) ?_
 refine Zg ?_
 refine Zi ?_
 refine G_addNone (.cells #[] 0 (0, 0)) ?_
 refine Zd (l := [0, 1, 2, 3, 4, 5, 6]) rfl ?_
 refine Yh (L2 := [_]) rfl rfl rfl rfl rfl rfl Try.call32 (st_new) [] [] rfl rfl ?_
 rintro v post ⟨rfl, rfl⟩
 show G _ _ _ [_] _
 refine Yn (L2 := [_]) rfl rfl rfl rfl rfl rfl Try.call14 ((du_enc nSt nSt_ok nSt_good (by rw [enc_nSt]; decide)).weaken (fun v post h => by rewrite [enc_nSt] at h; exact h)) [] rfl (fun z hz => List.mem_append_right _ (nSt_k z hz)) ?_
 rintro v post ⟨rfl, rfl⟩
 show G _ _ _ [_] _
 refine Za rfl rfl rfl rfl (Zc rfl rfl) ?_
 refine Za rfl rfl rfl rfl (Xe rfl rfl rfl) ?_
 refine Za rfl rfl rfl rfl (Xe rfl rfl rfl) ?_
 refine Za rfl rfl rfl rfl (Zk rfl rfl) ?_
 refine Za rfl rfl rfl rfl (Zk rfl rfl) ?_
 refine Zg ?_
 refine Zi ?_
 refine Zd (l := [0, 1, 2, 3, 4, 5, 6, 7, 8, 9, 10, 11, 12, 13, 14, 15]) rfl ?_
 refine Za rfl rfl rfl rfl (Zc rfl rfl) ?_
 refine Za rfl rfl rfl rfl (V_slen rfl rfl Try.underlying9 rfl) ?_
 refine Za rfl rfl rfl rfl (V_eql rfl rfl rfl) ?_
 refine Za rfl rfl rfl rfl (Zc rfl rfl) ?_
 refine Xr 11 rfl (fun hc1 => ?_) (fun hc1 => ?_)
 rotate_left
 · (first | contradiction | (exact absurd rfl hc1) | (exfalso; omega) | (simp at hc1; done) | (exact absurd hc1 (by decide)) | (exact absurd (by decide) hc1))
 refine Za rfl rfl rfl rfl (Zc rfl rfl) ?_
 refine Yr rfl rfl rfl rfl (N_make (l := 8) (m := 8) rfl Try.underlying73 i_5 rfl rfl rfl rfl rfl rfl rfl (by first | decide | omega) (by first | decide | omega | (show 1 * _ ≤ _; omega)) (by first | decide | omega)) (fun b13 => ?_)
 refine Za rfl rfl rfl rfl (V_bytesS (l := [0, 0, 0, 0, 0, 0, 0, 0]) rfl rfl Try.underlying73 Try.underlying5 Try.underlying9 (Zf 0 rfl) (by first | omega | (simp [cOp, cWk, cIv, cHr, cLt, cWt, cIt, cFl, cTn, cCl, cPo, cSt, cDt, cDs, Sl.v, zIns, insV]; done) | (simp [cOp, cWk, cIv, cHr, cLt, cWt, cIt, cFl, cTn, cCl, cPo, cSt, cDt, cDs, Sl.v, zIns, insV]; omega) | (simp [cOp, cWk, cIv, cHr, cLt, cWt, cIt, cFl, cTn, cCl, cPo, cSt, cDt, cDs, Sl.v, zIns, insV] at *; omega)) rfl) ?_
 refine Za rfl rfl rfl rfl (V_sadd rfl rfl rfl (by first | omega | (simp [cOp, cWk, cIv, cHr, cLt, cWt, cIt, cFl, cTn, cCl, cPo, cSt, cDt, cDs, Sl.v, zIns, insV]; done) | (simp [cOp, cWk, cIv, cHr, cLt, cWt, cIt, cFl, cTn, cCl, cPo, cSt, cDt, cDs, Sl.v, zIns, insV]; omega) | (simp [cOp, cWk, cIv, cHr, cLt, cWt, cIt, cFl, cTn, cCl, cPo, cSt, cDt, cDs, Sl.v, zIns, insV] at *; omega))) ?_
 refine Za rfl rfl rfl rfl (V_seql rfl rfl rfl) ?_
 refine Za rfl rfl rfl rfl (Yk rfl rfl rfl) ?_
 refine Za rfl rfl rfl rfl (Zc rfl rfl) ?_
 refine Xr 18 rfl (fun hc2 => ?_) (fun hc2 => ?_)
 rotate_left
 · (first | contradiction | (exact absurd rfl hc2) | (exfalso; omega) | (simp at hc2; done) | (exact absurd hc2 (by decide)) | (exact absurd (by decide) hc2))
 refine Za rfl rfl rfl rfl (Zc rfl rfl) ?_
 refine Yh (L2 := [_, _]) rfl rfl rfl rfl rfl rfl Try.call12 (dl_num _) [] [] rfl rfl ?_
 rintro v post ⟨rfl, rfl⟩
 show G _ _ _ [_, _] _
 refine Za rfl rfl rfl rfl (V_eql rfl rfl rfl) ?_
 refine Za rfl rfl rfl rfl (Yk rfl rfl rfl) ?_
 refine Za rfl rfl rfl rfl (Zk rfl rfl) ?_
 refine Zg ?_
 refine Xa (post := []) Try.func8 rfl (Zy (Yy rfl) Zo) [] rfl ?_
 dsimp only [packed]
 exact ⟨rfl, rfl⟩

end
end Go.Proofs.Ytjnaeoelnmhjfaa

set_option linter.unusedSimpArgs false
set_option linter.unusedVariables false
namespace Go.Proofs.Ytjnaeoelnmhjfaa
open Go Go.RowKit

section
end
end Go.Proofs.Ytjnaeoelnmhjfaa

set_option linter.unusedSimpArgs false
set_option linter.unusedVariables false
namespace Go.Proofs.Ytjnaeoelnmhjfaa
open Go Go.RowKit

section
theorem i_207 : Try.prog.info? 207 = some Try.t207 := by kernel_rfl
theorem i_210 : Try.prog.info? 210 = some Try.t210 := by kernel_rfl
theorem i_212 : Try.prog.info? 212 = some Try.t212 := by kernel_rfl
theorem i_217 : Try.prog.info? 217 = some Try.t217 := by kernel_rfl
def vDt (x : Dt) : PT := ⟨x.v0, x.v1, x.v2, x.g, x.s.l.map vFl⟩

end
end Go.Proofs.Ytjnaeoelnmhjfaa

set_option linter.unusedSimpArgs false
set_option linter.unusedVariables false
namespace Go.Proofs.Ytjnaeoelnmhjfaa
open Go Go.RowKit

section
theorem i_104 : Try.prog.info? 104 = some Try.t104 := by kernel_rfl
theorem i_106 : Try.prog.info? 106 = some Try.t106 := by kernel_rfl
theorem i_111 : Try.prog.info? 111 = some Try.t111 := by kernel_rfl
/-- A need, as the document has it. -/
structure Dp where
  n : List UInt8
  u : Int
  sv : Ins Int
  sh : Ins Ds
def cDp (x : Dp) : List Value := [.string (bs x.n), .int .i64 x.u, .slice x.sv.p x.sv.l.length x.sv.cap, .slice x.sh.p x.sh.l.length x.sh.cap]
theorem cDp_len (x : Dp) : (cDp x).length = 4 := rfl
def mkPC (a : Int) (s : Ds) : PC := ⟨a, s.g, s.s.l.map vDt⟩
def EvenDp (x : Dp) : Prop := x.sv.l.length = x.sh.l.length
instance (x : Dp) : Decidable (EvenDp x) := by unfold EvenDp; infer_instance
def vDp (x : Dp) : PP := ⟨x.n, x.u, decide (EvenDp x), if EvenDp x then List.zipWith mkPC x.sv.l x.sh.l else []⟩
def OkDp (x : Dp) : Prop := InsOk 1 i1C x.sv ∧ InsOk 3 cDs x.sh ∧ ∀ s ∈ x.sh.l, OkDs s
def kDp (x : Dp) : List HBk := insK x.sv :: insK x.sh :: x.sh.l.flatMap kDs
end
end Go.Proofs.Ytjnaeoelnmhjfaa

set_option linter.unusedSimpArgs false
set_option linter.unusedVariables false
namespace Go.Proofs.Ytjnaeoelnmhjfaa
open Go Go.RowKit

section
theorem i_38 : Try.prog.info? 38 = some Try.t38 := by kernel_rfl
/-- All that there is, as the document has it. -/
structure Dst where
  v0 : Nat
  g : Bool
  v2 : Int
  v3 : Int
  v4 : Int
  v5 : Int
  v6 : Int
  li : Ins Op
  en : Ins Op
  wo : Ins Wk
  iv : Ins Iv
  po : Ins Dp
  hi : Ins Hr
  le : Ins Lt
  wa : Ins Wt
def cDst (x : Dst) : List Value := [.int .u64 (x.v0 : Int), .bool x.g, .int .i64 x.v2, .int .i64 x.v3, .int .i64 x.v4, .int .i64 x.v5, .int .i64 x.v6, .slice x.li.p x.li.l.length x.li.cap, .slice x.en.p x.en.l.length x.en.cap, .slice x.wo.p x.wo.l.length x.wo.cap, .slice x.iv.p x.iv.l.length x.iv.cap, .slice x.po.p x.po.l.length x.po.cap, .slice x.hi.p x.hi.l.length x.hi.cap, .slice x.le.p x.le.l.length x.le.cap, .slice x.wa.p x.wa.l.length x.wa.cap]
def vDst (x : Dst) : PS := ⟨x.v0, x.g, x.v2, x.v3, x.v4, x.v5, x.v6, x.li.l, x.en.l, x.wo.l, x.iv.l, x.po.l.map vDp, x.hi.l, x.le.l, x.wa.l⟩
def kDst (x : Dst) : List HBk := insK x.li :: insK x.en :: insK x.wo :: insK x.iv :: insK x.po :: insK x.hi :: insK x.le :: insK x.wa :: x.po.l.flatMap kDp
structure MkDst (x : Dst) : Prop where
  li : InsOk 18 cOp x.li
  en : InsOk 18 cOp x.en
  wo : InsOk 7 cWk x.wo
  iv : InsOk 5 cIv x.iv
  po : InsOk 4 cDp x.po
  hi : InsOk 17 cHr x.hi
  le : InsOk 6 cLt x.le
  wa : InsOk 2 cWt x.wa
  po2 : ∀ y ∈ x.po.l, OkDp y
end
end Go.Proofs.Ytjnaeoelnmhjfaa

set_option linter.unusedSimpArgs false
set_option linter.unusedVariables false
namespace Go.Proofs.Ytjnaeoelnmhjfaa
open Go Go.RowKit

section
theorem i_36 : Try.prog.info? 36 = some Try.t36 := by kernel_rfl
theorem map_next {α β γ : Type} {f : α → γ} {g : β → γ} {l : List β} {ms : List α} {i : Nat} {y : β} {m : α} (h : ms.map f = (l.take i).map g) (hy : l[i]? = some y) (hm : f m = g y) : (ms ++ [m]).map f = (l.take (i + 1)).map g := by
  obtain ⟨hi, rfl⟩ := List.getElem?_eq_some_iff.1 hy
  rw [List.take_succ_eq_append_getElem hi, List.map_append, List.map_append, h, List.map_singleton, List.map_singleton, hm]
theorem len_of_map {α β γ : Type} {f : α → γ} {g : β → γ} {l : List β} {ms : List α} (h : ms.map f = l.map g) : ms.length = l.length := by simpa using congrArg List.length h
/-- What is made, or was there. -/
theorem sub_or {α : Type} {K : α → List HBk} {ms : List α} {m : α} {M M1 B : List HBk} (hM : ∀ z ∈ ms.flatMap K, z ∈ M ∨ z ∈ B) (h1 : ∀ z ∈ M, z ∈ M1) (h2 : ∀ z ∈ K m, z ∈ M1 ∨ z ∈ B) : ∀ z ∈ (ms ++ [m]).flatMap K, z ∈ M1 ∨ z ∈ B := by
  intro z hz
  rw [List.flatMap_append, List.flatMap_singleton] at hz
  rcases List.mem_append.1 hz with hz | hz
  · exact (hM z hz).imp (h1 z) id
  · exact h2 z hz
theorem sub_or_hd {l M B : List HBk} {a : HBk} (h : ∀ z ∈ l, z ∈ M ∨ z ∈ B) : ∀ z ∈ a :: l, z ∈ a :: M ∨ z ∈ B := by
  intro z hz
  rcases List.mem_cons.1 hz with rfl | hz
  · exact .inl List.mem_cons_self
  · exact (h z hz).imp (List.mem_cons_of_mem _) id

def mkCl (a : Int) (g : Bool) (s : Ins Tn) : PC := ⟨a, g, s.l.map vTn⟩
theorem cls_v {x : Po} : (clsOf x).map vCl = List.zipWith (fun a (p : Bool × Ins Tn) => mkCl a p.1 p.2) x.sv.l (x.gv.l.zip x.sh.l) := by
  unfold clsOf; rw [List.map_zipWith]; rfl
end
end Go.Proofs.Ytjnaeoelnmhjfaa

set_option linter.unusedSimpArgs false
set_option linter.unusedVariables false
namespace Go.Proofs.Ytjnaeoelnmhjfaa
open Go Go.RowKit

section
theorem st_t {t p R F : List UInt8} (h : t ++ (p ++ R) = F) : (t ++ p) ++ R = F := by rw [List.append_assoc]; exact h
theorem st_l {t p R F : List UInt8} {n : Nat} (h : t ++ (p ++ R) = F) (hF : F.length ≤ n) : t.length + p.length ≤ n := by
  rw [← h] at hF; simp only [List.length_append] at hF; omega
theorem st_w {v b B W : Bool} (h : (v || (b || B)) = W) : ((v || b) || B) = W := by rw [Bool.or_assoc]; exact h
theorem drop_at_ {α : Type} {l : List α} {i : Nat} {y : α} (h : l[i]? = some y) : l.drop i = y :: l.drop (i + 1) := by
  obtain ⟨hi, rfl⟩ := List.getElem?_eq_some_iff.1 h
  exact List.drop_eq_getElem_cons hi
theorem drop_map {α β : Type} (f : α → β) {l : List α} {i : Nat} {y : α} (h : l[i]? = some y) : (l.map f).drop i = f y :: (l.map f).drop (i + 1) := drop_at_ (by rw [List.getElem?_map, h]; rfl)
theorem drop_end {α : Type} {e : α → List UInt8} {l : List α} {t R F : List UInt8} {n : Nat} (hn : l.length ≤ n) (h : t ++ ((l.drop n).flatMap e ++ R) = F) : t ++ R = F := by
  rw [List.drop_eq_nil_of_le hn] at h; exact h
theorem drop_endB {α : Type} {e : α → Bool} {l : List α} {v B W : Bool} {n : Nat} (hn : l.length ≤ n) (h : (v || ((l.drop n).any e || B)) = W) : (v || B) = W := by
  rw [List.drop_eq_nil_of_le hn] at h; exact h
theorem ten_open {y : Dt} {D : List PT} {t R F : List UInt8} (h : t ++ ((vDt y :: D).flatMap encPT ++ R) = F) : t ++ (encIs [y.v0, y.v1, y.v2] ++ (encB y.g ++ (chainI (y.s.l.length : Int) ++ ((y.s.l.map vFl).flatMap encPF ++ (D.flatMap encPT ++ R))))) = F := by
  rw [← h]; simp [encPT, vDt, encL]
theorem ten_openB {y : Dt} {D : List PT} {v B W : Bool} (h : (v || ((vDt y :: D).any badPT || B)) = W) : (v || ([y.v0, y.v1, y.v2].any badI || (decide (1000 < (y.s.l.length : Int)) || ((y.s.l.map vFl).any badPF || (D.any badPT || B))))) = W := by
  rw [← h]; simp only [List.any_cons, badPT, vDt, badL, List.length_map, Bool.or_assoc]
theorem fl_open {y : Fl} {D : List PF} {t R F : List UInt8} (h : t ++ ((vFl y :: D).flatMap encPF ++ R) = F) : t ++ (encIs [y.v0, y.v1, y.v2] ++ (chainI (y.s.l.length : Int) ++ (y.s.l.flatMap encIt ++ (D.flatMap encPF ++ R)))) = F := by
  rw [← h]; simp [encPF, vFl, encL]
theorem fl_openB {y : Fl} {D : List PF} {v B W : Bool} (h : (v || ((vFl y :: D).any badPF || B)) = W) : (v || ([y.v0, y.v1, y.v2].any badI || (decide (1000 < (y.s.l.length : Int)) || (y.s.l.any badIt || (D.any badPF || B))))) = W := by
  rw [← h]; simp only [List.any_cons, badPF, vFl, badL, Bool.or_assoc]
theorem it_open {y : It} {D : List It} {t R F : List UInt8} (h : t ++ ((y :: D).flatMap encIt ++ R) = F) : t ++ (encIs [y.v0, y.v1] ++ (D.flatMap encIt ++ R)) = F := by
  rw [← h]; simp [encIt]
theorem it_openB {y : It} {D : List It} {v B W : Bool} (h : (v || ((y :: D).any badIt || B)) = W) : (v || ([y.v0, y.v1].any badI || (D.any badIt || B))) = W := by
  rw [← h]; simp only [List.any_cons, badIt, Bool.or_assoc]
theorem bgL {α : Type} {e : α → List UInt8} {tx : List UInt8} {l : List α} {n : Nat} (hn : l.length = n) : tx ++ (chainI (n : Int) ++ (l.flatMap e ++ [])) = tx ++ encL e l := by subst hn; simp [encL]
theorem bgW {α : Type} {e : α → Bool} {w : Bool} {l : List α} {n : Nat} (hn : l.length = n) : (w || (decide (1000 < (n : Int)) || (l.any e || false))) = (w || badL e l) := by subst hn; simp [badL]

set_option maxRecDepth 100000 in
set_option maxHeartbeats 4000000 in
theorem rw_tenants (b : Nat) (tx : List UInt8) (w : Bool) (s : Ins Dt) (hs : InsOk 6 cDt s) (hok : ∀ y ∈ s.l, OkDt y) (hl : tx.length + (encL encPT (s.l.map vDt)).length ≤ 140737488350000) :
    Ct Try.prog 120 [.pointer (some ⟨b, 0, none⟩), .slice s.p s.l.length s.cap] (insK s :: s.l.flatMap kDt) [(some b, .cells #[.string (bs (tx)), .bool w] 125 (0, 0))] fun v post => v = .tuple #[] ∧ post = [(some b, .cells #[.string (bs (tx ++ encL encPT (s.l.map vDt))), .bool (w || badL badPT (s.l.map vDt))] 125 (0, 0))] := by
 have hl1 := hs.le
 have hl2 := hs.max
 have hln := hs.n
 obtain ⟨F, hF⟩ : ∃ F, tx ++ encL encPT (s.l.map vDt) = F := ⟨_, rfl⟩
 obtain ⟨W, hW⟩ : ∃ W, (w || badL badPT (s.l.map vDt)) = W := ⟨_, rfl⟩
 have hFl : F.length ≤ 140737488350000 := by rw [← hF, List.length_append]; exact hl
 have hw := (bgL (e := encPT) (tx := tx) (l := (s.l.map vDt)) (n := s.l.length) (by simp)).trans hF
 have gw := (bgW (e := badPT) (w := w) (l := (s.l.map vDt)) (n := s.l.length) (by simp)).trans hW
 refine Yv Try.func120 rfl rfl (fun w0 => ?_)
 show G _ _ [(0, _), (1, _)] _ _
 refine Zi ?_
 refine Zd (l := [0, 1, 2, 3]) rfl ?_
 refine Za rfl rfl rfl rfl (Zc rfl rfl) ?_
 refine Za rfl rfl rfl rfl (Zc rfl rfl) ?_
 refine Za rfl rfl rfl rfl (Yf rfl rfl Try.underlying107 rfl) ?_
 refine Yn (L2 := []) rfl rfl rfl rfl rfl rfl Try.call61 (rw_count b _ _ s.l.length hs.n (st_l hw hFl)) [0] rfl Yd ?_
 rintro v post ⟨rfl, rfl⟩
 show G _ _ _ [_] _
 replace hw := st_t hw
 replace gw := st_w gw
 refine Zg ?_
 refine Zi ?_
 refine Zd (l := [0]) rfl ?_
 refine Za rfl rfl rfl rfl (Zk rfl rfl) ?_
 refine Zg ?_
 refine Zp ?_
 refine Yc ?he2 [0] ?hl2 (Xc (X := Nat × List UInt8 × Bool) (fun x_ => match x_ with | ⟨i, t, v⟩ => i ≤ s.l.length ∧ t ++ (((s.l.map vDt).drop i).flatMap encPT ++ []) = F ∧ (v || (((s.l.map vDt).drop i).any badPT || false)) = W) (fun x_ => match x_ with | ⟨i, t, v⟩ => s.l.length - i) (fun x_ => match x_ with | ⟨i, t, v⟩ => [(0, .pointer (some ⟨b, 0, none⟩)), (1, .slice s.p s.l.length s.cap), (4, .int .i64 (i : Int))]) (fun x_ => match x_ with | ⟨i, t, v⟩ => [(some b, .cells #[.string (bs (t)), .bool v] 125 (0, 0))]) ?round2 (0, tx ++ chainI (s.l.length : Int), (w || decide (1000 < (s.l.length : Int)))) ?h02)
 case he2 => exact (And.intro rfl (And.intro rfl (And.intro rfl trivial)))
 case hl2 => exact ⟨_, rfl⟩
 case h02 => exact ⟨Nat.zero_le _, hw, gw⟩
 case round2 =>
  intro x_ hJ ih
  try dsimp only at hJ ih
  obtain ⟨i, t, v⟩ := x_
  try dsimp only at hJ ih
  obtain ⟨hi, hw, gw⟩ := hJ
  show G _ _ [(0, .pointer (some ⟨b, 0, none⟩)), (1, .slice s.p s.l.length s.cap), (4, .int .i64 (i : Int))] [(some b, .cells #[.string (bs (t)), .bool v] 125 (0, 0))] _
  refine Zi ?_
  refine Zi ?_
  refine Zd (l := [0, 1, 2, 3]) rfl ?_
  refine Za rfl rfl rfl rfl (Zc rfl rfl) ?_
  refine Za rfl rfl rfl rfl (Zc rfl rfl) ?_
  refine Za rfl rfl rfl rfl (Yf rfl rfl Try.underlying107 rfl) ?_
  refine Za rfl rfl rfl rfl (Xh rfl rfl rfl) ?_
  refine Zg ?_
  refine Yl rfl (fun hc1 => ?_) (fun hc1 => ?_)
  ·
   refine Zu ?_
   refine Zi ?_
   refine Zp ?_
   refine Zi ?_
   obtain ⟨y, hy⟩ := Xv (show i < s.l.length by omega)
   obtain ⟨cy, py, qy, ssy⟩ := hs.isS (i := i) (by omega)
   rw [py]
   have hyo := hok y (List.mem_of_getElem? hy)
   rw [drop_map vDt hy] at hw gw
   replace hw := ten_open hw
   replace gw := ten_openB gw
   have hy1 := hyo.1.le
   have hy2 := hyo.1.max
   have hy3 := hyo.1.n
   refine Ya (Lq := []) (isq := []) (m := 18) Ym rfl rfl ?_
   refine Zh 0 rfl rfl rfl rfl (by kernel_rfl) (fun _ _ => Zc rfl rfl) ?_
   refine Zh 1 rfl rfl rfl rfl (by kernel_rfl) (fun _ _ => Zc rfl rfl) ?_
   refine Zh 2 rfl rfl rfl rfl (by kernel_rfl) (fun _ _ => Zc rfl rfl) ?_
   refine Zh 3 rfl rfl rfl rfl (by kernel_rfl) (fun _ _ => Zl (s := 6) rfl Try.underlying107 i_212 rfl rfl rfl rfl (by omega)) ?_
   refine Zh 4 rfl rfl rfl rfl (by kernel_rfl) (fun _ _ => Zb (fo := _) rfl Try.underlying212 rfl i_3 rfl rfl rfl) ?_
   refine Zh 5 rfl rfl rfl rfl (by kernel_rfl) (fun _ _ => Zj rfl rfl (by rw [← Yg qy]; exact List.mem_append_left _ (Zf 0 rfl)) (Zr (Ys ssy cDt_len hy 0 (by omega) rfl)) Try.underlying3 rfl) ?_
   refine Zh 6 rfl rfl rfl rfl (by kernel_rfl) (fun _ _ => Zc rfl rfl) ?_
   refine Zh 7 rfl rfl rfl rfl (by kernel_rfl) (fun _ _ => Zc rfl rfl) ?_
   refine Zh 8 rfl rfl rfl rfl (by kernel_rfl) (fun _ _ => Zl (s := 6) rfl Try.underlying107 i_212 rfl rfl rfl rfl (by omega)) ?_
   refine Zh 9 rfl rfl rfl rfl (by kernel_rfl) (fun _ _ => Zb (fo := _ + 1) rfl Try.underlying212 rfl i_3 rfl rfl rfl) ?_
   refine Zh 10 rfl rfl rfl rfl (by kernel_rfl) (fun _ _ => Zj rfl rfl (by rw [← Yg qy]; exact List.mem_append_left _ (Zf 0 rfl)) (Zr (Ys ssy cDt_len hy 1 (by omega) rfl)) Try.underlying3 rfl) ?_
   refine Zh 11 rfl rfl rfl rfl (by kernel_rfl) (fun _ _ => Zc rfl rfl) ?_
   refine Zh 12 rfl rfl rfl rfl (by kernel_rfl) (fun _ _ => Zc rfl rfl) ?_
   refine Zh 13 rfl rfl rfl rfl (by kernel_rfl) (fun _ _ => Zl (s := 6) rfl Try.underlying107 i_212 rfl rfl rfl rfl (by omega)) ?_
   refine Zh 14 rfl rfl rfl rfl (by kernel_rfl) (fun _ _ => Zb (fo := _ + 2) rfl Try.underlying212 rfl i_3 rfl rfl rfl) ?_
   refine Zh 15 rfl rfl rfl rfl (by kernel_rfl) (fun _ _ => Zj rfl rfl (by rw [← Yg qy]; exact List.mem_append_left _ (Zf 0 rfl)) (Zr (Ys ssy cDt_len hy 2 (by omega) rfl)) Try.underlying3 rfl) ?_
   refine GH_all [16] (by kernel_rfl) (by decide) ?_
   refine (And.intro ?_ trivial)
   ·
    refine Yz rfl rfl rfl rfl (Zn (s := 1) (cs := [_, _, _]) rfl Try.underlying99 i_3 rfl rfl rfl rfl rfl rfl rfl rfl rfl) [] (fun _ => ⟨_, rfl⟩) (fun b34 => ?_)
    refine GH_all [17] (by kernel_rfl) (by decide) ?_
    refine (And.intro ?_ trivial)
    ·
     refine Xq (L2 := [_]) rfl rfl rfl rfl rfl rfl Try.call59 (rw_intsL b _ _ _ _ [y.v0, y.v1, y.v2] (by simp) (st_l hw hFl)) [1] rfl (Yb (List.mem_append_right _ (Zf 0 rfl)) Yd) [] (by rintro v post ⟨rfl, rfl⟩; exact ⟨_, rfl⟩) ?_
     rintro v post ⟨rfl, rfl⟩
     show GH _ _ _ _ _ _ _ [_, _] _
     replace hw := st_t hw
     replace gw := st_w gw
     refine Zw (by kernel_rfl) ?_
     refine Zi ?_
     refine Zd (l := [0, 1, 2, 3, 4, 5, 6, 7]) rfl ?_
     refine Za rfl rfl rfl rfl (Zc rfl rfl) ?_
     refine Za rfl rfl rfl rfl (Zc rfl rfl) ?_
     refine Za rfl rfl rfl rfl (Zc rfl rfl) ?_
     refine Za rfl rfl rfl rfl (Zl (s := 6) rfl Try.underlying107 i_212 rfl rfl rfl rfl (by omega)) ?_
     refine Za rfl rfl rfl rfl (Zb (fo := _ + 3) rfl Try.underlying212 rfl i_210 rfl rfl rfl) ?_
     refine Za rfl rfl rfl rfl (Zb (fo := _ + 2) rfl Try.underlying210 rfl i_4 rfl rfl rfl) ?_
     refine Za rfl rfl rfl rfl (Zj rfl rfl (by rw [← Yg qy]; exact List.mem_append_left _ (Zf 0 rfl)) (Zr (Ys ssy cDt_len hy 5 (by omega) rfl)) Try.underlying4 rfl) ?_
     refine Yn (L2 := [_]) rfl rfl rfl rfl rfl rfl Try.call58 (rw_flag b _ _ y.g (st_l hw hFl)) [0] rfl Yd ?_
     rintro v post ⟨rfl, rfl⟩
     show G _ _ _ [_, _] _
     replace hw := st_t hw
     refine Zg ?_
     refine Zi ?_
     refine Zd (l := [0, 1, 2, 3, 4, 5, 6, 7, 8]) rfl ?_
     refine Za rfl rfl rfl rfl (Zc rfl rfl) ?_
     refine Za rfl rfl rfl rfl (Zc rfl rfl) ?_
     refine Za rfl rfl rfl rfl (Zc rfl rfl) ?_
     refine Za rfl rfl rfl rfl (Zl (s := 6) rfl Try.underlying107 i_212 rfl rfl rfl rfl (by omega)) ?_
     refine Za rfl rfl rfl rfl (Zb (fo := _ + 3) rfl Try.underlying212 rfl i_210 rfl rfl rfl) ?_
     refine Za rfl rfl rfl rfl (Zb (fo := _ + 1) rfl Try.underlying210 rfl i_207 rfl rfl rfl) ?_
     refine Za rfl rfl rfl rfl (Zj rfl rfl (by rw [← Yg qy]; exact List.mem_append_left _ (Zf 0 rfl)) (Zr (Ys ssy cDt_len hy 4 (by omega) rfl)) Try.underlying207 rfl) ?_
     refine Za rfl rfl rfl rfl (Yf rfl rfl Try.underlying207 rfl) ?_
     refine Yn (L2 := [_]) rfl rfl rfl rfl rfl rfl Try.call61 (rw_count b _ _ y.s.l.length hyo.1.n (st_l hw hFl)) [0] rfl Yd ?_
     rintro v post ⟨rfl, rfl⟩
     show G _ _ _ [_, _] _
     replace hw := st_t hw
     replace gw := st_w gw
     refine Zg ?_
     refine Zi ?_
     refine Zd (l := [0]) rfl ?_
     refine Za rfl rfl rfl rfl (Zk rfl rfl) ?_
     refine Zg ?_
     refine Zp ?_
     refine Yc ?he8 [0] ?hl8 (Xc (X := Nat × List UInt8 × Bool) (fun y_ => match y_ with | ⟨k, t2, v2⟩ => k ≤ y.s.l.length ∧ t2 ++ (((y.s.l.map vFl).drop k).flatMap encPF ++ (((s.l.map vDt).drop (i + 1)).flatMap encPT ++ [])) = F ∧ (v2 || (((y.s.l.map vFl).drop k).any badPF || (((s.l.map vDt).drop (i + 1)).any badPT || false))) = W) (fun y_ => match y_ with | ⟨k, t2, v2⟩ => y.s.l.length - k) (fun y_ => match y_ with | ⟨k, t2, v2⟩ => [(0, .pointer (some ⟨b, 0, none⟩)), (1, .slice (some ⟨cy, s.off, none⟩) s.l.length s.cap), (4, .int .i64 (i : Int)), (5, .int .i64 (k : Int))]) (fun y_ => match y_ with | ⟨k, t2, v2⟩ => [(some b, .cells #[.string (bs (t2)), .bool v2] 125 (0, 0))]) ?round8 (0, t ++ encIs [y.v0, y.v1, y.v2] ++ encB y.g ++ chainI (y.s.l.length : Int), ((v || [y.v0, y.v1, y.v2].any badI) || decide (1000 < (y.s.l.length : Int)))) ?h08)
     case he8 => exact (And.intro rfl (And.intro rfl (And.intro rfl (And.intro rfl trivial))))
     case hl8 => exact ⟨_, rfl⟩
     case h08 => exact ⟨Nat.zero_le _, hw, gw⟩
     case round8 =>
      intro y_ hJ ih2
      try dsimp only at hJ ih2
      obtain ⟨k, t2, v2⟩ := y_
      try dsimp only at hJ ih2
      obtain ⟨hk, hw, gw⟩ := hJ
      show G _ _ [(0, .pointer (some ⟨b, 0, none⟩)), (1, .slice (some ⟨cy, s.off, none⟩) s.l.length s.cap), (4, .int .i64 (i : Int)), (5, .int .i64 (k : Int))] [(some b, .cells #[.string (bs (t2)), .bool v2] 125 (0, 0))] _
      refine Zi ?_
      refine Zi ?_
      refine Zd (l := [0, 1, 2, 3, 4, 5, 6, 7, 8]) rfl ?_
      refine Za rfl rfl rfl rfl (Zc rfl rfl) ?_
      refine Za rfl rfl rfl rfl (Zc rfl rfl) ?_
      refine Za rfl rfl rfl rfl (Zc rfl rfl) ?_
      refine Za rfl rfl rfl rfl (Zl (s := 6) rfl Try.underlying107 i_212 rfl rfl rfl rfl (by omega)) ?_
      refine Za rfl rfl rfl rfl (Zb (fo := _ + 3) rfl Try.underlying212 rfl i_210 rfl rfl rfl) ?_
      refine Za rfl rfl rfl rfl (Zb (fo := _ + 1) rfl Try.underlying210 rfl i_207 rfl rfl rfl) ?_
      refine Za rfl rfl rfl rfl (Zj rfl rfl (by rw [← Yg qy]; exact List.mem_append_left _ (Zf 0 rfl)) (Zr (Ys ssy cDt_len hy 4 (by omega) rfl)) Try.underlying207 rfl) ?_
      refine Za rfl rfl rfl rfl (Yf rfl rfl Try.underlying207 rfl) ?_
      refine Za rfl rfl rfl rfl (Xh rfl rfl rfl) ?_
      refine Zg ?_
      refine Yl rfl (fun hc2 => ?_) (fun hc2 => ?_)
      ·
       refine Zu ?_
       refine Zi ?_
       refine Zp ?_
       refine Zi ?_
       obtain ⟨f, hf⟩ := Xv (show k < y.s.l.length by omega)
       obtain ⟨cf, pf, qf, ssf⟩ := hyo.1.isS (i := k) (by omega)
       have hfo := hyo.2 f (List.mem_of_getElem? hf)
       rw [drop_map vFl hf] at hw gw
       replace hw := fl_open hw
       replace gw := fl_openB gw
       have hf1 := hfo.1.le
       have hf2 := hfo.1.max
       have hf3 := hfo.1.n
       refine Zd (l := [0, 1, 2, 3, 4, 5, 6, 7, 8, 9, 10]) rfl ?_
       refine Za rfl rfl rfl rfl (Zc rfl rfl) ?_
       refine Za rfl rfl rfl rfl (Zc rfl rfl) ?_
       refine Za rfl rfl rfl rfl (Zl (s := 6) rfl Try.underlying107 i_212 rfl rfl rfl rfl (by omega)) ?_
       refine Za rfl rfl rfl rfl (Zb (fo := _ + 3) rfl Try.underlying212 rfl i_210 rfl rfl rfl) ?_
       refine Za rfl rfl rfl rfl (Zb (fo := _ + 1) rfl Try.underlying210 rfl i_207 rfl rfl rfl) ?_
       refine Za rfl rfl rfl rfl (Zj rfl rfl (by rw [← Yg qy]; exact List.mem_append_left _ (Zf 0 rfl)) (Zr (Ys ssy cDt_len hy 4 (by omega) rfl)) Try.underlying207 rfl) ?_
       rw [pf]
       refine Za rfl rfl rfl rfl (Zc rfl rfl) ?_
       refine Za rfl rfl rfl rfl (Zl (s := 4) rfl Try.underlying207 i_217 rfl rfl rfl rfl (by omega)) ?_
       refine Za rfl rfl rfl rfl (Xm (s := 4) (vs := (cFl f).toArray) rfl rfl (by rw [← Yg qf]; exact List.mem_append_left _ (List.mem_cons_of_mem _ (List.mem_flatMap.2 ⟨y, List.mem_of_getElem? hy, List.mem_cons_self⟩))) Try.underlying217 rfl i_217 rfl (ssf.elem cFl_len hf) (by rfl)) ?_
       refine Yr rfl rfl rfl rfl (Xb rfl i_217 rfl) (fun b6 => ?_)
       refine Xl (l1 := []) (L' := [_, _]) rfl rfl rfl rfl (Xk (s := 4) rfl rfl rfl (Zf 0 rfl) (by rfl) i_217 rfl (by rfl) (by simp [Value.oneCell', cOp, cWk, cIv, cHr, cLt, cWt, cIt, cFl, cTn, cCl, cPo, cSt, cDt, cDs, Sl.v, zIns, insV, cDp, cDst])) rfl ?_
       refine Zg ?_
       refine Zi ?_
       refine Zd (l := [0, 1, 2, 3, 4, 5, 6, 7, 8]) rfl ?_
       refine Za rfl rfl rfl rfl (Zc rfl rfl) ?_
       refine Za rfl rfl rfl rfl (Zb (fo := 0) rfl Try.underlying217 rfl i_3 rfl rfl rfl) ?_
       refine Za rfl rfl rfl rfl (Zj rfl rfl (List.mem_append_right _ (Zf 0 rfl)) rfl Try.underlying3 rfl) ?_
       refine Za rfl rfl rfl rfl (Zb (fo := 1) rfl Try.underlying217 rfl i_3 rfl rfl rfl) ?_
       refine Za rfl rfl rfl rfl (Zj rfl rfl (List.mem_append_right _ (Zf 0 rfl)) rfl Try.underlying3 rfl) ?_
       refine Za rfl rfl rfl rfl (Zb (fo := 2) rfl Try.underlying217 rfl i_3 rfl rfl rfl) ?_
       refine Za rfl rfl rfl rfl (Zj rfl rfl (List.mem_append_right _ (Zf 0 rfl)) rfl Try.underlying3 rfl) ?_
       refine Yr rfl rfl rfl rfl (Zn (s := 1) (cs := [_, _, _]) rfl Try.underlying99 i_3 rfl rfl rfl rfl rfl rfl rfl rfl rfl) (fun b80 => ?_)
       refine Yn (L2 := [_, _]) rfl rfl rfl rfl rfl rfl Try.call59 (rw_intsL b _ _ _ _ [f.v0, f.v1, f.v2] (by simp) (st_l hw hFl)) [2] rfl (Yb (List.mem_append_right _ (Zf 0 rfl)) Yd) ?_
       rintro v post ⟨rfl, rfl⟩
       show G _ _ _ [_, _, _] _
       replace hw := st_t hw
       replace gw := st_w gw
       refine Zg ?_
       refine Zi ?_
       refine Zd (l := [0, 1, 2, 3, 4]) rfl ?_
       refine Za rfl rfl rfl rfl (Zc rfl rfl) ?_
       refine Za rfl rfl rfl rfl (Zb (fo := 3) rfl Try.underlying217 rfl i_215 rfl rfl rfl) ?_
       refine Za rfl rfl rfl rfl (Zj rfl rfl (List.mem_append_right _ (Zf 2 rfl)) rfl Try.underlying215 rfl) ?_
       refine Za rfl rfl rfl rfl (Yf rfl rfl Try.underlying215 rfl) ?_
       refine Yn (L2 := [_, _]) rfl rfl rfl rfl rfl rfl Try.call61 (rw_count b _ _ f.s.l.length hfo.1.n (st_l hw hFl)) [0] rfl Yd ?_
       rintro v post ⟨rfl, rfl⟩
       show G _ _ _ [_, _, _] _
       replace hw := st_t hw
       replace gw := st_w gw
       refine Zg ?_
       refine Zi ?_
       refine Zd (l := [0]) rfl ?_
       refine Za rfl rfl rfl rfl (Zk rfl rfl) ?_
       refine Zg ?_
       refine Zp ?_
       refine Yc ?he14 [0, 1] ?hl14 (Xc (X := Nat × List UInt8 × Bool) (fun z_ => match z_ with | ⟨j, t3, v3⟩ => j ≤ f.s.l.length ∧ t3 ++ ((f.s.l.drop j).flatMap encIt ++ (((y.s.l.map vFl).drop (k + 1)).flatMap encPF ++ (((s.l.map vDt).drop (i + 1)).flatMap encPT ++ []))) = F ∧ (v3 || ((f.s.l.drop j).any badIt || (((y.s.l.map vFl).drop (k + 1)).any badPF || (((s.l.map vDt).drop (i + 1)).any badPT || false)))) = W) (fun z_ => match z_ with | ⟨j, t3, v3⟩ => f.s.l.length - j) (fun z_ => match z_ with | ⟨j, t3, v3⟩ => [(0, .pointer (some ⟨b, 0, none⟩)), (1, .slice (some ⟨cy, s.off, none⟩) s.l.length s.cap), (4, .int .i64 (i : Int)), (5, .int .i64 (k : Int)), (6, .pointer (some ⟨b6, 0, none⟩)), (7, .int .i64 (j : Int))]) (fun z_ => match z_ with | ⟨j, t3, v3⟩ => [(some b, .cells #[.string (bs (t3)), .bool v3] 125 (0, 0)), (some b6, .cells (cFl f).toArray 217 (0, 0))]) ?round14 (0, t2 ++ encIs [f.v0, f.v1, f.v2] ++ chainI (f.s.l.length : Int), ((v2 || [f.v0, f.v1, f.v2].any badI) || decide (1000 < (f.s.l.length : Int)))) ?h014)
       case he14 => exact (And.intro rfl (And.intro rfl (And.intro rfl (And.intro rfl (And.intro rfl (And.intro rfl trivial))))))
       case hl14 => exact ⟨_, rfl⟩
       case h014 => exact ⟨Nat.zero_le _, hw, gw⟩
       case round14 =>
        intro z_ hJ ih3
        try dsimp only at hJ ih3
        obtain ⟨j, t3, v3⟩ := z_
        try dsimp only at hJ ih3
        obtain ⟨hj, hw, gw⟩ := hJ
        show G _ _ [(0, .pointer (some ⟨b, 0, none⟩)), (1, .slice (some ⟨cy, s.off, none⟩) s.l.length s.cap), (4, .int .i64 (i : Int)), (5, .int .i64 (k : Int)), (6, .pointer (some ⟨b6, 0, none⟩)), (7, .int .i64 (j : Int))] [(some b, .cells #[.string (bs (t3)), .bool v3] 125 (0, 0)), (some b6, .cells (cFl f).toArray 217 (0, 0))] _
        refine Zi ?_
        refine Zi ?_
        refine Zd (l := [0, 1, 2, 3, 4]) rfl ?_
        refine Za rfl rfl rfl rfl (Zc rfl rfl) ?_
        refine Za rfl rfl rfl rfl (Zb (fo := 3) rfl Try.underlying217 rfl i_215 rfl rfl rfl) ?_
        refine Za rfl rfl rfl rfl (Zj rfl rfl (List.mem_append_right _ (Zf 1 rfl)) rfl Try.underlying215 rfl) ?_
        refine Za rfl rfl rfl rfl (Yf rfl rfl Try.underlying215 rfl) ?_
        refine Za rfl rfl rfl rfl (Xh rfl rfl rfl) ?_
        refine Zg ?_
        refine Yl rfl (fun hc3 => ?_) (fun hc3 => ?_)
        ·
         refine Zu ?_
         refine Zi ?_
         refine Zp ?_
         obtain ⟨g, hg⟩ := Xv (show j < f.s.l.length by omega)
         obtain ⟨cg, pg, qg, ssg⟩ := hfo.1.isS (i := j) (by omega)
         rw [drop_at_ hg] at hw gw
         replace hw := it_open hw
         replace gw := it_openB gw
         refine Ya (Lq := [_]) (isq := [1]) (m := 15) Ym rfl rfl ?_
         refine Zh 0 rfl rfl rfl rfl (by kernel_rfl) (fun _ _ => Zc rfl rfl) ?_
         refine Zh 1 rfl rfl rfl rfl (by kernel_rfl) (fun _ _ => Zb (fo := 3) rfl Try.underlying217 rfl i_215 rfl rfl rfl) ?_
         refine Zh 2 rfl rfl rfl rfl (by kernel_rfl) (fun _ _ => Zj rfl rfl (List.mem_append_right _ (Zf 0 rfl)) rfl Try.underlying215 rfl) ?_
         rw [pg]
         refine Zh 3 rfl rfl rfl rfl (by kernel_rfl) (fun _ _ => Zc rfl rfl) ?_
         refine Zh 4 rfl rfl rfl rfl (by kernel_rfl) (fun _ _ => Zl (s := 2) rfl Try.underlying215 i_262 rfl rfl rfl rfl (by omega)) ?_
         refine Zh 5 rfl rfl rfl rfl (by kernel_rfl) (fun _ _ => Zb (fo := _) rfl Try.underlying262 rfl i_3 rfl rfl rfl) ?_
         refine Zh 6 rfl rfl rfl rfl (by kernel_rfl) (fun _ _ => Zj rfl rfl (by rw [← Yg qg]; exact List.mem_append_left _ (List.mem_cons_of_mem _ (List.mem_flatMap.2 ⟨y, List.mem_of_getElem? hy, List.mem_cons_of_mem _ (List.mem_flatMap.2 ⟨f, List.mem_of_getElem? hf, List.mem_cons_self⟩)⟩))) (Zr (Ys ssg cIt_len hg 0 (by omega) rfl)) Try.underlying3 rfl) ?_
         refine Zh 7 rfl rfl rfl rfl (by kernel_rfl) (fun _ _ => Zb (fo := 3) rfl Try.underlying217 rfl i_215 rfl rfl rfl) ?_
         refine Zh 8 rfl rfl rfl rfl (by kernel_rfl) (fun _ _ => Zj rfl rfl (List.mem_append_right _ (Zf 0 rfl)) rfl Try.underlying215 rfl) ?_
         rw [pg]
         refine Zh 9 rfl rfl rfl rfl (by kernel_rfl) (fun _ _ => Zc rfl rfl) ?_
         refine Zh 10 rfl rfl rfl rfl (by kernel_rfl) (fun _ _ => Zl (s := 2) rfl Try.underlying215 i_262 rfl rfl rfl rfl (by omega)) ?_
         refine Zh 11 rfl rfl rfl rfl (by kernel_rfl) (fun _ _ => Zb (fo := _ + 1) rfl Try.underlying262 rfl i_3 rfl rfl rfl) ?_
         refine Zh 12 rfl rfl rfl rfl (by kernel_rfl) (fun _ _ => Zj rfl rfl (by rw [← Yg qg]; exact List.mem_append_left _ (List.mem_cons_of_mem _ (List.mem_flatMap.2 ⟨y, List.mem_of_getElem? hy, List.mem_cons_of_mem _ (List.mem_flatMap.2 ⟨f, List.mem_of_getElem? hf, List.mem_cons_self⟩)⟩))) (Zr (Ys ssg cIt_len hg 1 (by omega) rfl)) Try.underlying3 rfl) ?_
         refine GH_all [13] (by kernel_rfl) (by decide) ?_
         refine (And.intro ?_ trivial)
         ·
          refine Yz rfl rfl rfl rfl (Zn (s := 1) (cs := [_, _]) rfl Try.underlying99 i_3 rfl rfl rfl rfl rfl rfl rfl rfl rfl) [2] (fun _ => ⟨_, rfl⟩) (fun b107 => ?_)
          refine GH_all [14] (by kernel_rfl) (by decide) ?_
          refine (And.intro ?_ trivial)
          ·
           refine Xq (L2 := [_, _]) rfl rfl rfl rfl rfl rfl Try.call59 (rw_intsL b _ _ _ _ [g.v0, g.v1] (by simp) (st_l hw hFl)) [1] rfl (Yb (List.mem_append_right _ (Zf 0 rfl)) Yd) [2] (by rintro v post ⟨rfl, rfl⟩; exact ⟨_, rfl⟩) ?_
           rintro v post ⟨rfl, rfl⟩
           show GH _ _ _ _ _ _ _ [_, _, _] _
           replace hw := st_t hw
           replace gw := st_w gw
           refine Zw (by kernel_rfl) ?_
           refine Zs ?_
           refine Zd (l := [0, 1, 2]) rfl ?_
           refine Za rfl rfl rfl rfl (Zc rfl rfl) ?_
           refine Za rfl rfl rfl rfl ((Yu rfl rfl rfl).int (Zv (by omega))) ?_
           refine Za rfl rfl rfl rfl (Zk rfl rfl) ?_
           refine Zg ?_
           refine Yc ?_ [0, 1] ?_ (ih3 (j + 1, t3 ++ encIs [g.v0, g.v1], (v3 || [g.v0, g.v1].any badI)) ?_ ?_)
           · (refine (And.intro ?_ (And.intro ?_ (And.intro ?_ (And.intro ?_ (And.intro ?_ (And.intro ?_ trivial)))))) <;> first | rfl | exact Zm (by omega) | exact Zm (by simp))
           · exact ⟨_, rfl⟩
           · exact ⟨by omega, hw, gw⟩
           · (first | omega | (dsimp only; omega))
        refine Yx rfl ?_
        refine Zs ?_
        refine Zd (l := [0, 1, 2]) rfl ?_
        refine Za rfl rfl rfl rfl (Zc rfl rfl) ?_
        refine Za rfl rfl rfl rfl ((Yu rfl rfl rfl).int (Zv (by omega))) ?_
        refine Za rfl rfl rfl rfl (Zk rfl rfl) ?_
        refine Zg ?_
        refine Yc ?_ [0] ?_ (ih2 (k + 1, t3, v3) ?_ ?_)
        · (refine (And.intro ?_ (And.intro ?_ (And.intro ?_ (And.intro ?_ trivial)))) <;> first | rfl | exact Zm (by omega) | exact Zm (by simp))
        · exact ⟨_, rfl⟩
        · exact ⟨by omega, drop_end (by omega) hw, drop_endB (by omega) gw⟩
        · (first | omega | (dsimp only; omega))
      refine Yx rfl ?_
      refine Zs ?_
      refine Zd (l := [0, 1, 2]) rfl ?_
      refine Za rfl rfl rfl rfl (Zc rfl rfl) ?_
      refine Za rfl rfl rfl rfl ((Yu rfl rfl rfl).int (Zv (by omega))) ?_
      refine Za rfl rfl rfl rfl (Zk rfl rfl) ?_
      refine Zg ?_
      refine Yc ?_ [0] ?_ (ih (i + 1, t2, v2) ?_ ?_)
      · (refine (And.intro ?_ (And.intro ?_ (And.intro ?_ trivial))) <;> first | rfl | exact Zm (by omega) | (rw [py]; rfl))
      · exact ⟨_, rfl⟩
      · exact ⟨by omega, drop_end (by simp; omega) hw, drop_endB (by simp; omega) gw⟩
      · (first | omega | (dsimp only; omega))
  refine Yx rfl ?_
  refine G_end (post := [_]) Try.func120 rfl Zo [0] rfl ?_
  dsimp only [packed]
  have hw2 := drop_end (by simp; omega) hw
  have gw2 := drop_endB (by simp; omega) gw
  rw [List.append_nil] at hw2
  rw [Bool.or_false] at gw2
  rw [hF, hW, hw2, gw2]
  exact ⟨rfl, rfl⟩

end
end Go.Proofs.Ytjnaeoelnmhjfaa

set_option linter.unusedSimpArgs false
set_option linter.unusedVariables false
namespace Go.Proofs.Ytjnaeoelnmhjfaa
open Go Go.RowKit

section
theorem i_107 : Try.prog.info? 107 = some Try.t107 := by kernel_rfl
def qPP (y : Dp) : List UInt8 := if EvenDp y then encL encPC (List.zipWith mkPC y.sv.l y.sh.l) else []
def bPP (y : Dp) : Bool := if EvenDp y then badL badPC (List.zipWith mkPC y.sv.l y.sh.l) else true
theorem po_open {y : Dp} {D : List PP} {t R F : List UInt8} (h : t ++ ((vDp y :: D).flatMap encPP ++ R) = F) : t ++ (encTs [y.n] ++ (encIs [y.u] ++ (qPP y ++ (D.flatMap encPP ++ R)))) = F := by
  rw [← h]
  have : encPP (vDp y) = encTs [y.n] ++ (encIs [y.u] ++ qPP y) := by
    unfold encPP vDp qPP
    by_cases he : EvenDp y <;> simp [he]
  simp [this]
theorem po_openB {y : Dp} {D : List PP} {v B W : Bool} (h : (v || ((vDp y :: D).any badPP || B)) = W) : (v || ([y.n].any badT || ([y.u].any badI || (bPP y || (D.any badPP || B))))) = W := by
  rw [← h]
  have : badPP (vDp y) = ([y.n].any badT || ([y.u].any badI || bPP y)) := by
    unfold badPP vDp bPP
    by_cases he : EvenDp y <;> simp [he]
  simp only [List.any_cons (f := badPP), this, Bool.or_assoc]
theorem zip_len {y : Dp} (he : EvenDp y) : (List.zipWith mkPC y.sv.l y.sh.l).length = y.sv.l.length := by
  unfold EvenDp at he; rw [List.length_zipWith]; omega
theorem q_open {y : Dp} {t R F : List UInt8} (he : EvenDp y) (h : t ++ (qPP y ++ R) = F) : t ++ (chainI (y.sv.l.length : Int) ++ ((List.zipWith mkPC y.sv.l y.sh.l).flatMap encPC ++ R)) = F := by
  rw [← h]; unfold qPP encL; rw [if_pos he, zip_len he, List.append_assoc]
theorem q_openB {y : Dp} {v B W : Bool} (he : EvenDp y) (h : (v || (bPP y || B)) = W) : (v || (decide (1000 < (y.sv.l.length : Int)) || ((List.zipWith mkPC y.sv.l y.sh.l).any badPC || B))) = W := by
  rw [← h]; unfold bPP badL; rw [if_pos he, zip_len he]; simp only [Bool.or_assoc]
theorem b_uneven {y : Dp} {v B W : Bool} (he : ¬ EvenDp y) (h : (v || (bPP y || B)) = W) : W = true := by
  rw [← h]; unfold bPP; rw [if_neg he]; simp
theorem pc_open {a : Int} {d : Ds} {D : List PC} {t R F : List UInt8} (h : t ++ ((mkPC a d :: D).flatMap encPC ++ R) = F) : t ++ (encIs [a] ++ (encB d.g ++ (encL encPT (d.s.l.map vDt) ++ (D.flatMap encPC ++ R)))) = F := by
  rw [← h]; simp [encPC, mkPC]
theorem pc_openB {a : Int} {d : Ds} {D : List PC} {v B W : Bool} (h : (v || ((mkPC a d :: D).any badPC || B)) = W) : (v || ([a].any badI || (badL badPT (d.s.l.map vDt) || (D.any badPC || B)))) = W := by
  rw [← h]; simp only [List.any_cons (f := badPC), badPC, mkPC, Bool.or_assoc]
theorem in_dp {l : List Dp} {y : Dp} {a z : HBk} {i : Nat} (hy : l[i]? = some y) (hz : z ∈ kDp y) : z ∈ a :: l.flatMap kDp := List.mem_cons_of_mem _ (List.mem_flatMap.2 ⟨y, List.mem_of_getElem? hy, hz⟩)
theorem zip_at {y : Dp} {k : Nat} {a : Int} {d : Ds} (ha : y.sv.l[k]? = some a) (hd : y.sh.l[k]? = some d) : (List.zipWith mkPC y.sv.l y.sh.l)[k]? = some (mkPC a d) := by rw [List.getElem?_zipWith, ha, hd]
theorem len_le {t R F : List UInt8} (h : t ++ R = F) : t.length ≤ F.length := by rw [← h, List.length_append]; omega

set_option maxRecDepth 100000 in
set_option maxHeartbeats 4000000 in
theorem rw_pools (b : Nat) (tx : List UInt8) (w : Bool) (s : Ins Dp) (hs : InsOk 4 cDp s) (hok : ∀ y ∈ s.l, OkDp y) (hl : tx.length + (encL encPP (s.l.map vDp)).length ≤ 140737488350000) :
    Ct Try.prog 63 [.pointer (some ⟨b, 0, none⟩), .slice s.p s.l.length s.cap] (insK s :: s.l.flatMap kDp) [(some b, .cells #[.string (bs (tx)), .bool w] 125 (0, 0))] fun v post => ∃ (tp : List UInt8) (wp : Bool), tp.length ≤ tx.length + (encL encPP (s.l.map vDp)).length ∧ wp = (w || badL badPP (s.l.map vDp)) ∧ (wp = false → tp = tx ++ encL encPP (s.l.map vDp)) ∧ v = .tuple #[] ∧ post = [(some b, .cells #[.string (bs (tp)), .bool wp] 125 (0, 0))] := by
 have hl1 := hs.le
 have hl2 := hs.max
 have hln := hs.n
 obtain ⟨F, hF⟩ : ∃ F, tx ++ encL encPP (s.l.map vDp) = F := ⟨_, rfl⟩
 obtain ⟨W, hW⟩ : ∃ W, (w || badL badPP (s.l.map vDp)) = W := ⟨_, rfl⟩
 have hFl : F.length ≤ 140737488350000 := by rw [← hF, List.length_append]; exact hl
 have hw := (bgL (e := encPP) (tx := tx) (l := (s.l.map vDp)) (n := s.l.length) (by simp)).trans hF
 have gw := (bgW (e := badPP) (w := w) (l := (s.l.map vDp)) (n := s.l.length) (by simp)).trans hW
 refine Yv Try.func63 rfl rfl (fun w0 => ?_)
 show G _ _ [(0, _), (1, _)] _ _
 refine Zi ?_
 refine Zd (l := [0, 1, 2, 3]) rfl ?_
 refine Za rfl rfl rfl rfl (Zc rfl rfl) ?_
 refine Za rfl rfl rfl rfl (Zc rfl rfl) ?_
 refine Za rfl rfl rfl rfl (Yf rfl rfl Try.underlying36 rfl) ?_
 refine Yn (L2 := []) rfl rfl rfl rfl rfl rfl Try.call61 (rw_count b _ _ s.l.length hs.n (st_l hw hFl)) [0] rfl Yd ?_
 rintro v post ⟨rfl, rfl⟩
 show G _ _ _ [_] _
 replace hw := st_t hw
 replace gw := st_w gw
 refine Zg ?_
 refine Zi ?_
 refine Zd (l := [0]) rfl ?_
 refine Za rfl rfl rfl rfl (Zk rfl rfl) ?_
 refine Zg ?_
 refine Zp ?_
 refine Yc ?he2 [0] ?hl2 (Xc (X := Nat × List UInt8 × Bool) (fun x_ => match x_ with | ⟨i, t, v⟩ => i ≤ s.l.length ∧ t ++ (((s.l.map vDp).drop i).flatMap encPP ++ []) = F ∧ (v || (((s.l.map vDp).drop i).any badPP || false)) = W) (fun x_ => match x_ with | ⟨i, t, v⟩ => s.l.length - i) (fun x_ => match x_ with | ⟨i, t, v⟩ => [(0, .pointer (some ⟨b, 0, none⟩)), (1, .slice s.p s.l.length s.cap), (4, .int .i64 (i : Int))]) (fun x_ => match x_ with | ⟨i, t, v⟩ => [(some b, .cells #[.string (bs (t)), .bool v] 125 (0, 0))]) ?round2 (0, tx ++ chainI (s.l.length : Int), (w || decide (1000 < (s.l.length : Int)))) ?h02)
 case he2 => exact (And.intro rfl (And.intro rfl (And.intro rfl trivial)))
 case hl2 => exact ⟨_, rfl⟩
 case h02 => exact ⟨Nat.zero_le _, hw, gw⟩
 case round2 =>
  intro x_ hJ ih
  try dsimp only at hJ ih
  obtain ⟨i, t, v⟩ := x_
  try dsimp only at hJ ih
  obtain ⟨hi, hw, gw⟩ := hJ
  show G _ _ [(0, .pointer (some ⟨b, 0, none⟩)), (1, .slice s.p s.l.length s.cap), (4, .int .i64 (i : Int))] [(some b, .cells #[.string (bs (t)), .bool v] 125 (0, 0))] _
  refine Zi ?_
  refine Zi ?_
  refine Zd (l := [0, 1, 2, 3]) rfl ?_
  refine Za rfl rfl rfl rfl (Zc rfl rfl) ?_
  refine Za rfl rfl rfl rfl (Zc rfl rfl) ?_
  refine Za rfl rfl rfl rfl (Yf rfl rfl Try.underlying36 rfl) ?_
  refine Za rfl rfl rfl rfl (Xh rfl rfl rfl) ?_
  refine Zg ?_
  refine Yl rfl (fun hc1 => ?_) (fun hc1 => ?_)
  ·
   refine Zu ?_
   refine Zi ?_
   refine Zp ?_
   refine Zi ?_
   obtain ⟨y, hy⟩ := Xv (show i < s.l.length by omega)
   obtain ⟨cy, py, qy, ssy⟩ := hs.isS (i := i) (by omega)
   rw [py]
   have hyo := hok y (List.mem_of_getElem? hy)
   rw [drop_map vDp hy] at hw gw
   replace hw := po_open hw
   replace gw := po_openB gw
   have hy1 := hyo.1.le
   have hy2 := hyo.1.max
   have hy3 := hyo.1.n
   have hy4 := hyo.2.1.le
   have hy5 := hyo.2.1.max
   have hy6 := hyo.2.1.n
   refine Zd (l := [0, 1, 2, 3, 4, 5, 6, 7]) rfl ?_
   refine Za rfl rfl rfl rfl (Zc rfl rfl) ?_
   refine Za rfl rfl rfl rfl (Zc rfl rfl) ?_
   refine Za rfl rfl rfl rfl (Zc rfl rfl) ?_
   refine Za rfl rfl rfl rfl (Zl (s := 4) rfl Try.underlying36 i_106 rfl rfl rfl rfl (by omega)) ?_
   refine Za rfl rfl rfl rfl (Zb (fo := _) rfl Try.underlying106 rfl i_9 rfl rfl rfl) ?_
   refine Za rfl rfl rfl rfl (Zj rfl rfl (by rw [← Yg qy]; exact List.mem_append_left _ (Zf 0 rfl)) (Zr (Ys ssy cDp_len hy 0 (by omega) rfl)) Try.underlying9 rfl) ?_
   refine Yr rfl rfl rfl rfl (Zn (s := 1) (cs := [_]) rfl Try.underlying220 i_9 rfl rfl rfl rfl rfl rfl rfl rfl rfl) (fun b22 => ?_)
   refine Yn (L2 := [_]) rfl rfl rfl rfl rfl rfl Try.call62 (rw_textsL b _ _ _ _ [y.n] (by simp) (st_l hw hFl)) [1] rfl (Yb (List.mem_append_right _ (Zf 0 rfl)) Yd) ?_
   rintro v post ⟨rfl, rfl⟩
   show G _ _ _ [_, _] _
   replace hw := st_t hw
   replace gw := st_w gw
   refine Zg ?_
   refine Zi ?_
   refine Zd (l := [0, 1, 2, 3, 4, 5, 6, 7]) rfl ?_
   refine Za rfl rfl rfl rfl (Zc rfl rfl) ?_
   refine Za rfl rfl rfl rfl (Zc rfl rfl) ?_
   refine Za rfl rfl rfl rfl (Zc rfl rfl) ?_
   refine Za rfl rfl rfl rfl (Zl (s := 4) rfl Try.underlying36 i_106 rfl rfl rfl rfl (by omega)) ?_
   refine Za rfl rfl rfl rfl (Zb (fo := _ + 1) rfl Try.underlying106 rfl i_3 rfl rfl rfl) ?_
   refine Za rfl rfl rfl rfl (Zj rfl rfl (by rw [← Yg qy]; exact List.mem_append_left _ (Zf 0 rfl)) (Zr (Ys ssy cDp_len hy 1 (by omega) rfl)) Try.underlying3 rfl) ?_
   refine Yr rfl rfl rfl rfl (Zn (s := 1) (cs := [_]) rfl Try.underlying99 i_3 rfl rfl rfl rfl rfl rfl rfl rfl rfl) (fun b30 => ?_)
   refine Yn (L2 := [_, _]) rfl rfl rfl rfl rfl rfl Try.call59 (rw_intsL b _ _ _ _ [y.u] (by simp) (st_l hw hFl)) [1] rfl (Yb (List.mem_append_right _ (Zf 0 rfl)) Yd) ?_
   rintro v post ⟨rfl, rfl⟩
   show G _ _ _ [_, _, _] _
   replace hw := st_t hw
   replace gw := st_w gw
   refine Zg ?_
   refine Zi ?_
   refine Zi ?_
   refine G_draw Ym (by kernel_rfl) ?_
   refine Yo rfl rfl rfl rfl (Zc rfl rfl) ?_
   refine Yo rfl rfl rfl rfl (Zc rfl rfl) ?_
   refine Yo rfl rfl rfl rfl (Zl (s := 4) rfl Try.underlying36 i_106 rfl rfl rfl rfl (by omega)) ?_
   refine Yo rfl rfl rfl rfl (Zb (fo := _ + 2) rfl Try.underlying106 rfl i_99 rfl rfl rfl) ?_
   refine Yo rfl rfl rfl rfl (Zj rfl rfl (by rw [← Yg qy]; exact List.mem_append_left _ (Zf 0 rfl)) (Zr (Ys ssy cDp_len hy 2 (by omega) rfl)) Try.underlying99 rfl) ?_
   refine Yo rfl rfl rfl rfl (Yf rfl rfl Try.underlying99 rfl) ?_
   refine Yo rfl rfl rfl rfl (Zc rfl rfl) ?_
   refine Yo rfl rfl rfl rfl (Zc rfl rfl) ?_
   refine Yo rfl rfl rfl rfl (Zl (s := 4) rfl Try.underlying36 i_106 rfl rfl rfl rfl (by omega)) ?_
   refine Yo rfl rfl rfl rfl (Zb (fo := _ + 3) rfl Try.underlying106 rfl i_104 rfl rfl rfl) ?_
   refine Yo rfl rfl rfl rfl (Zj rfl rfl (by rw [← Yg qy]; exact List.mem_append_left _ (Zf 0 rfl)) (Zr (Ys ssy cDp_len hy 3 (by omega) rfl)) Try.underlying104 rfl) ?_
   refine Yo rfl rfl rfl rfl (Yf rfl rfl Try.underlying104 rfl) ?_
   refine Yo rfl rfl rfl rfl (V_neq rfl rfl rfl) ?_
   refine GQ_done rfl ?_
   refine Yl rfl (fun hc2 => ?_) (fun hc2 => ?_)
   ·
    refine Zi ?_
    have hev : ¬ EvenDp y := by unfold EvenDp; omega
    have hWt := b_uneven hev gw
    refine Zd (l := [0, 1, 2, 3]) rfl ?_
    refine Za rfl rfl rfl rfl (Zc rfl rfl) ?_
    refine Za rfl rfl rfl rfl (Ze rfl rfl) ?_
    refine Za rfl rfl rfl rfl (Zb (fo := 1) rfl Try.underlying125 rfl i_4 rfl rfl rfl) ?_
    refine Xl (l1 := []) (L' := [_, _, _]) rfl rfl rfl rfl (Zq rfl rfl rfl (Zf 0 rfl) (by first | exact of_decide_eq_true rfl | omega | (simp [cOp, cWk, cIv, cHr, cLt, cWt, cIt, cFl, cTn, cCl, cPo, cSt, cDt, cDs, Sl.v, zIns, insV, cDp, cDst]; done) | (simp [cOp, cWk, cIv, cHr, cLt, cWt, cIt, cFl, cTn, cCl, cPo, cSt, cDt, cDs, Sl.v, zIns, insV, cDp, cDst]; omega) | (simp [cOp, cWk, cIv, cHr, cLt, cWt, cIt, cFl, cTn, cCl, cPo, cSt, cDt, cDs, Sl.v, zIns, insV, cDp, cDst] at *; omega)) i_4 rfl rfl) rfl ?_
    refine Zg ?_
    refine Xa (post := [_]) Try.func63 rfl Zo [0] rfl ?_
    dsimp only [packed]
    first
      | (rw [hF, hW, ← List.length_append, hF]
         exact ⟨_, _, len_le hw, hWt.symm, fun h => Bool.noConfusion h, rfl, rfl⟩)
      | (have hw2 := drop_end (by simp; omega) hw
         have gw2 := drop_endB (by simp; omega) gw
         rw [List.append_nil] at hw2
         rw [Bool.or_false] at gw2
         rw [hF, hW, ← List.length_append, hF]
         exact ⟨_, _, len_le hw, gw2, fun _ => hw2, rfl, rfl⟩)
   refine Zu ?_
   refine Zi ?_
   have hev : EvenDp y := by unfold EvenDp; omega
   have hev2 : y.sv.l.length = y.sh.l.length := hev
   replace hw := q_open hev hw
   replace gw := q_openB hev gw
   have hzl := zip_len hev
   refine Zd (l := [0, 1, 2, 3, 4, 5, 6, 7]) rfl ?_
   refine Za rfl rfl rfl rfl (Zc rfl rfl) ?_
   refine Za rfl rfl rfl rfl (Zc rfl rfl) ?_
   refine Za rfl rfl rfl rfl (Zc rfl rfl) ?_
   refine Za rfl rfl rfl rfl (Zl (s := 4) rfl Try.underlying36 i_106 rfl rfl rfl rfl (by omega)) ?_
   refine Za rfl rfl rfl rfl (Zb (fo := _ + 2) rfl Try.underlying106 rfl i_99 rfl rfl rfl) ?_
   refine Za rfl rfl rfl rfl (Zj rfl rfl (by rw [← Yg qy]; exact List.mem_append_left _ (Zf 0 rfl)) (Zr (Ys ssy cDp_len hy 2 (by omega) rfl)) Try.underlying99 rfl) ?_
   refine Za rfl rfl rfl rfl (Yf rfl rfl Try.underlying99 rfl) ?_
   refine Yn (L2 := [_, _]) rfl rfl rfl rfl rfl rfl Try.call61 (rw_count b _ _ y.sv.l.length hyo.1.n (st_l hw hFl)) [0] rfl Yd ?_
   rintro v post ⟨rfl, rfl⟩
   show G _ _ _ [_, _, _] _
   replace hw := st_t hw
   replace gw := st_w gw
   refine Zg ?_
   refine Zi ?_
   refine Zd (l := [0]) rfl ?_
   refine Za rfl rfl rfl rfl (Zk rfl rfl) ?_
   refine Zg ?_
   refine Zp ?_
   refine Yc ?he10 [0] ?hl10 (Xc (X := Nat × List UInt8 × Bool) (fun y_ => match y_ with | ⟨k, t2, v2⟩ => k ≤ y.sv.l.length ∧ t2 ++ (((List.zipWith mkPC y.sv.l y.sh.l).drop k).flatMap encPC ++ (((s.l.map vDp).drop (i + 1)).flatMap encPP ++ [])) = F ∧ (v2 || (((List.zipWith mkPC y.sv.l y.sh.l).drop k).any badPC || (((s.l.map vDp).drop (i + 1)).any badPP || false))) = W) (fun y_ => match y_ with | ⟨k, t2, v2⟩ => y.sv.l.length - k) (fun y_ => match y_ with | ⟨k, t2, v2⟩ => [(0, .pointer (some ⟨b, 0, none⟩)), (1, .slice (some ⟨cy, s.off, none⟩) s.l.length s.cap), (4, .int .i64 (i : Int)), (5, .int .i64 (k : Int))]) (fun y_ => match y_ with | ⟨k, t2, v2⟩ => [(some b, .cells #[.string (bs (t2)), .bool v2] 125 (0, 0))]) ?round10 (0, t ++ encTs [y.n] ++ encIs [y.u] ++ chainI (y.sv.l.length : Int), (((v || [y.n].any badT) || [y.u].any badI) || decide (1000 < (y.sv.l.length : Int)))) ?h010)
   case he10 => exact (And.intro rfl (And.intro rfl (And.intro rfl (And.intro rfl trivial))))
   case hl10 => exact ⟨_, rfl⟩
   case h010 => exact ⟨Nat.zero_le _, hw, gw⟩
   case round10 =>
    intro y_ hJ ih2
    try dsimp only at hJ ih2
    obtain ⟨k, t2, v2⟩ := y_
    try dsimp only at hJ ih2
    obtain ⟨hk, hw, gw⟩ := hJ
    show G _ _ [(0, .pointer (some ⟨b, 0, none⟩)), (1, .slice (some ⟨cy, s.off, none⟩) s.l.length s.cap), (4, .int .i64 (i : Int)), (5, .int .i64 (k : Int))] [(some b, .cells #[.string (bs (t2)), .bool v2] 125 (0, 0))] _
    refine Zi ?_
    refine Zi ?_
    refine Zd (l := [0, 1, 2, 3, 4, 5, 6, 7]) rfl ?_
    refine Za rfl rfl rfl rfl (Zc rfl rfl) ?_
    refine Za rfl rfl rfl rfl (Zc rfl rfl) ?_
    refine Za rfl rfl rfl rfl (Zc rfl rfl) ?_
    refine Za rfl rfl rfl rfl (Zl (s := 4) rfl Try.underlying36 i_106 rfl rfl rfl rfl (by omega)) ?_
    refine Za rfl rfl rfl rfl (Zb (fo := _ + 2) rfl Try.underlying106 rfl i_99 rfl rfl rfl) ?_
    refine Za rfl rfl rfl rfl (Zj rfl rfl (by rw [← Yg qy]; exact List.mem_append_left _ (Zf 0 rfl)) (Zr (Ys ssy cDp_len hy 2 (by omega) rfl)) Try.underlying99 rfl) ?_
    refine Za rfl rfl rfl rfl (Yf rfl rfl Try.underlying99 rfl) ?_
    refine Za rfl rfl rfl rfl (Xh rfl rfl rfl) ?_
    refine Zg ?_
    refine Yl rfl (fun hc3 => ?_) (fun hc3 => ?_)
    ·
     refine Zu ?_
     refine Zi ?_
     refine Zp ?_
     refine Zi ?_
     obtain ⟨a, ha⟩ := Xv (show k < y.sv.l.length by omega)
     obtain ⟨ca, pa, qa, ssa⟩ := hyo.1.isS (i := k) (by omega)
     obtain ⟨d, hd⟩ := Xv (show k < y.sh.l.length by omega)
     obtain ⟨cd, pd, qd, ssd⟩ := hyo.2.1.isS (i := k) (by omega)
     have hdo := hyo.2.2 d (List.mem_of_getElem? hd)
     rw [drop_at_ (zip_at ha hd)] at hw gw
     replace hw := pc_open hw
     replace gw := pc_openB gw
     refine Zd (l := [0, 1, 2, 3, 4, 5, 6, 7, 8, 9, 10]) rfl ?_
     refine Za rfl rfl rfl rfl (Zc rfl rfl) ?_
     refine Za rfl rfl rfl rfl (Zc rfl rfl) ?_
     refine Za rfl rfl rfl rfl (Zc rfl rfl) ?_
     refine Za rfl rfl rfl rfl (Zl (s := 4) rfl Try.underlying36 i_106 rfl rfl rfl rfl (by omega)) ?_
     refine Za rfl rfl rfl rfl (Zb (fo := _ + 2) rfl Try.underlying106 rfl i_99 rfl rfl rfl) ?_
     refine Za rfl rfl rfl rfl (Zj rfl rfl (by rw [← Yg qy]; exact List.mem_append_left _ (Zf 0 rfl)) (Zr (Ys ssy cDp_len hy 2 (by omega) rfl)) Try.underlying99 rfl) ?_
     rw [pa]
     refine Za rfl rfl rfl rfl (Zc rfl rfl) ?_
     refine Za rfl rfl rfl rfl (Zl (s := 1) rfl Try.underlying99 i_3 rfl rfl rfl rfl (by omega)) ?_
     refine Za rfl rfl rfl rfl (Zj rfl rfl (by rw [← Yg qa]; exact List.mem_append_left _ (in_dp hy (by unfold kDp; simp))) (Zr (Ys ssa i1_len ha 0 (by omega) rfl)) Try.underlying3 rfl) ?_
     refine Yr rfl rfl rfl rfl (Zn (s := 1) (cs := [_]) rfl Try.underlying99 i_3 rfl rfl rfl rfl rfl rfl rfl rfl rfl) (fun b75 => ?_)
     refine Yn (L2 := [_]) rfl rfl rfl rfl rfl rfl Try.call59 (rw_intsL b _ _ _ _ [a] (by simp) (st_l hw hFl)) [1] rfl (Yb (List.mem_append_right _ (Zf 0 rfl)) Yd) ?_
     rintro v post ⟨rfl, rfl⟩
     show G _ _ _ [_, _] _
     replace hw := st_t hw
     replace gw := st_w gw
     refine Zg ?_
     refine Zi ?_
     refine Zd (l := [0, 1, 2, 3, 4, 5, 6, 7, 8, 9, 10]) rfl ?_
     refine Za rfl rfl rfl rfl (Zc rfl rfl) ?_
     refine Za rfl rfl rfl rfl (Zc rfl rfl) ?_
     refine Za rfl rfl rfl rfl (Zc rfl rfl) ?_
     refine Za rfl rfl rfl rfl (Zl (s := 4) rfl Try.underlying36 i_106 rfl rfl rfl rfl (by omega)) ?_
     refine Za rfl rfl rfl rfl (Zb (fo := _ + 3) rfl Try.underlying106 rfl i_104 rfl rfl rfl) ?_
     refine Za rfl rfl rfl rfl (Zj rfl rfl (by rw [← Yg qy]; exact List.mem_append_left _ (Zf 0 rfl)) (Zr (Ys ssy cDp_len hy 3 (by omega) rfl)) Try.underlying104 rfl) ?_
     rw [pd]
     refine Za rfl rfl rfl rfl (Zc rfl rfl) ?_
     refine Za rfl rfl rfl rfl (Zl (s := 3) rfl Try.underlying104 i_111 rfl rfl rfl rfl (by omega)) ?_
     refine Za rfl rfl rfl rfl (Zb (fo := _ + 2) rfl Try.underlying111 rfl i_4 rfl rfl rfl) ?_
     refine Za rfl rfl rfl rfl (Zj rfl rfl (by rw [← Yg qd]; exact List.mem_append_left _ (in_dp hy (by unfold kDp; simp))) (Zr (Ys ssd cDs_len hd 2 (by omega) rfl)) Try.underlying4 rfl) ?_
     refine Yn (L2 := [_]) rfl rfl rfl rfl rfl rfl Try.call58 (rw_flag b _ _ d.g (st_l hw hFl)) [0] rfl Yd ?_
     rintro v post ⟨rfl, rfl⟩
     show G _ _ _ [_, _] _
     replace hw := st_t hw
     refine Zg ?_
     refine Zd (l := [0, 1, 2, 3, 4, 5, 6, 7, 8, 9, 10]) rfl ?_
     refine Za rfl rfl rfl rfl (Zc rfl rfl) ?_
     refine Za rfl rfl rfl rfl (Zc rfl rfl) ?_
     refine Za rfl rfl rfl rfl (Zc rfl rfl) ?_
     refine Za rfl rfl rfl rfl (Zl (s := 4) rfl Try.underlying36 i_106 rfl rfl rfl rfl (by omega)) ?_
     refine Za rfl rfl rfl rfl (Zb (fo := _ + 3) rfl Try.underlying106 rfl i_104 rfl rfl rfl) ?_
     refine Za rfl rfl rfl rfl (Zj rfl rfl (by rw [← Yg qy]; exact List.mem_append_left _ (Zf 0 rfl)) (Zr (Ys ssy cDp_len hy 3 (by omega) rfl)) Try.underlying104 rfl) ?_
     rw [pd]
     refine Za rfl rfl rfl rfl (Zc rfl rfl) ?_
     refine Za rfl rfl rfl rfl (Zl (s := 3) rfl Try.underlying104 i_111 rfl rfl rfl rfl (by omega)) ?_
     refine Za rfl rfl rfl rfl (Zb (fo := _ + 1) rfl Try.underlying111 rfl i_107 rfl rfl rfl) ?_
     refine Za rfl rfl rfl rfl (Zj rfl rfl (by rw [← Yg qd]; exact List.mem_append_left _ (in_dp hy (by unfold kDp; simp))) (Zr (Ys ssd cDs_len hd 1 (by omega) rfl)) Try.underlying107 rfl) ?_
     refine Yn (L2 := [_]) rfl rfl rfl rfl rfl rfl Try.call120 (rw_tenants b _ _ d.s hdo.1 hdo.2 (st_l hw hFl)) [0] rfl (fun z hz => List.mem_append_left _ (in_dp hy (List.mem_cons_of_mem _ (List.mem_cons_of_mem _ (List.mem_flatMap.2 ⟨d, List.mem_of_getElem? hd, hz⟩))))) ?_
     rintro v post ⟨rfl, rfl⟩
     show G _ _ _ [_, _] _
     replace hw := st_t hw
     replace gw := st_w gw
     refine Zg ?_
     refine Zs ?_
     refine Zd (l := [0, 1, 2]) rfl ?_
     refine Za rfl rfl rfl rfl (Zc rfl rfl) ?_
     refine Za rfl rfl rfl rfl ((Yu rfl rfl rfl).int (Zv (by omega))) ?_
     refine Za rfl rfl rfl rfl (Zk rfl rfl) ?_
     refine Zg ?_
     refine Yc ?_ [0] ?_ (ih2 (k + 1, t2 ++ encIs [a] ++ encB d.g ++ encL encPT (d.s.l.map vDt), ((v2 || [a].any badI) || badL badPT (d.s.l.map vDt))) ?_ ?_)
     · (refine (And.intro ?_ (And.intro ?_ (And.intro ?_ (And.intro ?_ trivial)))) <;> first | rfl | exact Zm (by omega) | exact Zm (by simp))
     · exact ⟨_, rfl⟩
     · exact ⟨by omega, hw, gw⟩
     · (first | omega | (dsimp only; omega))
    refine Yx rfl ?_
    refine Zs ?_
    refine Zd (l := [0, 1, 2]) rfl ?_
    refine Za rfl rfl rfl rfl (Zc rfl rfl) ?_
    refine Za rfl rfl rfl rfl ((Yu rfl rfl rfl).int (Zv (by omega))) ?_
    refine Za rfl rfl rfl rfl (Zk rfl rfl) ?_
    refine Zg ?_
    refine Yc ?_ [0] ?_ (ih (i + 1, t2, v2) ?_ ?_)
    · (refine (And.intro ?_ (And.intro ?_ (And.intro ?_ trivial))) <;> first | rfl | exact Zm (by omega) | (rw [py]; rfl))
    · exact ⟨_, rfl⟩
    · exact ⟨by omega, drop_end (by omega) hw, drop_endB (by omega) gw⟩
    · (first | omega | (dsimp only; omega))
  refine Yx rfl ?_
  refine G_end (post := [_]) Try.func63 rfl Zo [0] rfl ?_
  dsimp only [packed]
  first
    | (rw [hF, hW, ← List.length_append, hF]
       exact ⟨_, _, len_le hw, hWt.symm, fun h => Bool.noConfusion h, rfl, rfl⟩)
    | (have hw2 := drop_end (by simp; omega) hw
       have gw2 := drop_endB (by simp; omega) gw
       rw [List.append_nil] at hw2
       rw [Bool.or_false] at gw2
       rw [hF, hW, ← List.length_append, hF]
       exact ⟨_, _, len_le hw, gw2, fun _ => hw2, rfl, rfl⟩)


theorem hr_open {y : Hr} {D : List Hr} {t R F : List UInt8} (h : t ++ ((y :: D).flatMap encHr ++ R) = F) : t ++ (encTs [y.v0] ++ ((histL y).flatMap encI ++ (D.flatMap encHr ++ R))) = F := by
  rw [← h]; simp [encHr_eq, encIs]
theorem hr_openB {y : Hr} {D : List Hr} {v B W : Bool} (h : (v || ((y :: D).any badHr || B)) = W) : (v || ([y.v0].any badT || ((histL y).any badI || (D.any badHr || B)))) = W := by
  rw [← h]; simp only [List.any_cons (f := badHr), badHr_eq, Bool.or_assoc]
theorem i1_open {y : Int} {D : List Int} {t R F : List UInt8} (h : t ++ ((y :: D).flatMap encI ++ R) = F) : t ++ (encIs [y] ++ (D.flatMap encI ++ R)) = F := by
  rw [← h]; simp [encIs]
theorem i1_openB {y : Int} {D : List Int} {v B W : Bool} (h : (v || ((y :: D).any badI || B)) = W) : (v || ([y].any badI || (D.any badI || B))) = W := by
  rw [← h]; simp [Bool.or_assoc]
theorem lt_open {y : Lt} {D : List Lt} {t R F : List UInt8} (h : t ++ ((y :: D).flatMap encLt ++ R) = F) : t ++ (encIs [y.v0, y.v1, y.v2, y.v3] ++ (encTs [y.v4] ++ (encUs [y.v5] ++ (D.flatMap encLt ++ R)))) = F := by
  rw [← h]; simp [encLt, encUs]
theorem lt_openB {y : Lt} {D : List Lt} {v B W : Bool} (h : (v || ((y :: D).any badLt || B)) = W) : (v || ([y.v0, y.v1, y.v2, y.v3].any badI || ([y.v4].any badT || (D.any badLt || B)))) = W := by
  rw [← h]; simp only [List.any_cons (f := badLt), badLt, Bool.or_assoc]
theorem wt_open {y : Wt} {D : List Wt} {t R F : List UInt8} (h : t ++ ((y :: D).flatMap encWt ++ R) = F) : t ++ (encTs [y.v0] ++ (encIs [y.v1] ++ (D.flatMap encWt ++ R))) = F := by
  rw [← h]; simp [encWt]
theorem wt_openB {y : Wt} {D : List Wt} {v B W : Bool} (h : (v || ((y :: D).any badWt || B)) = W) : (v || ([y.v0].any badT || ([y.v1].any badI || (D.any badWt || B)))) = W := by
  rw [← h]; simp only [List.any_cons (f := badWt), badWt, Bool.or_assoc]
theorem l_open {α : Type} {e : α → List UInt8} {l : List α} {t R F : List UInt8} (h : t ++ (encL e l ++ R) = F) : t ++ (chainI (l.length : Int) ++ (l.flatMap e ++ R)) = F := by
  rw [← h]; simp [encL]
theorem l_openB {α : Type} {e : α → Bool} {l : List α} {v B W : Bool} (h : (v || (badL e l || B)) = W) : (v || (decide (1000 < (l.length : Int)) || (l.any e || B))) = W := by
  rw [← h]; simp only [badL, Bool.or_assoc]
theorem hist_cell {x : Hr} {k : Nat} {z : Int} (h : (histL x)[k]? = some z) : (cHr x)[1 + k]? = some (.int .i64 z) := by
  have := hist_at h
  rw [Nat.mul_one, List.getElem?_toArray] at this
  exact this
def encRest (x : Dst) : List UInt8 := encL encHr x.hi.l ++ (encL encLt x.le.l ++ (encL encWt x.wa.l ++ []))
def badRest (x : Dst) : Bool := badL badHr x.hi.l || (badL badLt x.le.l || (badL badWt x.wa.l || false))

set_option maxRecDepth 100000 in
set_option maxHeartbeats 4000000 in
theorem rw_rest (b : Nat) (tx : List UInt8) (w : Bool) (x : Dst) (hx : MkDst x) (hxu : ∀ y ∈ x.le.l, OkLt y) (hl : tx.length + (encRest x).length ≤ 140737488350000) :
    Ct Try.prog 64 [.pointer (some ⟨b, 0, none⟩), .agg (cDst x).toArray] [insK x.hi, insK x.le, insK x.wa] [(some b, .cells #[.string (bs (tx)), .bool w] 125 (0, 0))] fun v post => v = .tuple #[] ∧ post = [(some b, .cells #[.string (bs (tx ++ encRest x)), .bool (w || badRest x)] 125 (0, 0))] := by
 obtain ⟨F, hF⟩ : ∃ F, tx ++ encRest x = F := ⟨_, rfl⟩
 obtain ⟨W, hW⟩ : ∃ W, (w || badRest x) = W := ⟨_, rfl⟩
 have hFl : F.length ≤ 140737488350000 := by rw [← hF, List.length_append]; exact hl
 have hw := l_open (show tx ++ (encL encHr x.hi.l ++ (encL encLt x.le.l ++ (encL encWt x.wa.l ++ []))) = F from hF)
 have gw := l_openB (show (w || (badL badHr x.hi.l || (badL badLt x.le.l || (badL badWt x.wa.l || false)))) = W from hW)
 have hh1 := hx.hi.le
 have hh2 := hx.hi.max
 have hh3 := hx.hi.n
 have hh4 := hx.le.le
 have hh5 := hx.le.max
 have hh6 := hx.le.n
 have hh7 := hx.wa.le
 have hh8 := hx.wa.max
 have hh9 := hx.wa.n
 refine Yv Try.func64 rfl rfl (fun w0 => ?_)
 show G _ _ [(0, _), (1, _)] _ _
 refine Zi ?_
 refine Zd (l := [0]) rfl ?_
 refine Yr rfl rfl rfl rfl (N_boxA rfl rfl) (fun b3 => ?_)
 refine Zg ?_
 refine Zi ?_
 refine Zd (l := [0, 1, 2, 3, 4]) rfl ?_
 refine Za rfl rfl rfl rfl (Zc rfl rfl) ?_
 refine Za rfl rfl rfl rfl (Zb (fo := 12) rfl Try.underlying38 rfl i_28 rfl rfl rfl) ?_
 refine Za rfl rfl rfl rfl (Zj rfl rfl (Zf 3 rfl) rfl Try.underlying28 rfl) ?_
 refine Za rfl rfl rfl rfl (Yf rfl rfl Try.underlying28 rfl) ?_
 refine Yh (L2 := [_]) rfl rfl rfl rfl rfl rfl Try.call61 (rw_count b _ _ x.hi.l.length hx.hi.n (st_l hw hFl)) [1] [] rfl rfl ?_
 rintro v post ⟨rfl, rfl⟩
 show G _ _ _ [_, _] _
 replace hw := st_t hw
 replace gw := st_w gw
 refine Zg ?_
 refine Zi ?_
 refine Zi ?_
 refine Zd (l := [0]) rfl ?_
 refine Za rfl rfl rfl rfl (Zk rfl rfl) ?_
 refine Zg ?_
 refine Zp ?_
 refine Yc ?he3 [0, 0] ?hl3 (Xc (X := Nat × List UInt8 × Bool) (fun x_ => match x_ with | ⟨i, t, v⟩ => i ≤ x.hi.l.length ∧ t ++ ((x.hi.l.drop i).flatMap encHr ++ (encL encLt x.le.l ++ (encL encWt x.wa.l ++ []))) = F ∧ (v || ((x.hi.l.drop i).any badHr || (badL badLt x.le.l || (badL badWt x.wa.l || false)))) = W) (fun x_ => match x_ with | ⟨i, t, v⟩ => x.hi.l.length - i) (fun x_ => match x_ with | ⟨i, t, v⟩ => [(0, .pointer (some ⟨b, 0, none⟩)), (3, .pointer (some ⟨b3, 0, none⟩)), (4, .int .i64 (i : Int))]) (fun x_ => match x_ with | ⟨i, t, v⟩ => [(some b, .cells #[.string (bs (t)), .bool v] 125 (0, 0)), (some b3, .cells (cDst x).toArray 38 (0, 0))]) ?round3 (0, tx ++ chainI (x.hi.l.length : Int), (w || decide (1000 < (x.hi.l.length : Int)))) ?h03)
 case he3 => exact (And.intro rfl (And.intro rfl (And.intro rfl trivial)))
 case hl3 => exact ⟨_, rfl⟩
 case h03 => exact ⟨Nat.zero_le _, hw, gw⟩
 case round3 =>
  intro x_ hJ ih
  try dsimp only at hJ ih
  obtain ⟨i, t, v⟩ := x_
  try dsimp only at hJ ih
  obtain ⟨hi, hw, gw⟩ := hJ
  show G _ _ [(0, .pointer (some ⟨b, 0, none⟩)), (3, .pointer (some ⟨b3, 0, none⟩)), (4, .int .i64 (i : Int))] [(some b, .cells #[.string (bs (t)), .bool v] 125 (0, 0)), (some b3, .cells (cDst x).toArray 38 (0, 0))] _
  refine Zi ?_
  refine Zi ?_
  refine Zd (l := [0, 1, 2, 3, 4]) rfl ?_
  refine Za rfl rfl rfl rfl (Zc rfl rfl) ?_
  refine Za rfl rfl rfl rfl (Zb (fo := 12) rfl Try.underlying38 rfl i_28 rfl rfl rfl) ?_
  refine Za rfl rfl rfl rfl (Zj rfl rfl (Zf 4 rfl) rfl Try.underlying28 rfl) ?_
  refine Za rfl rfl rfl rfl (Yf rfl rfl Try.underlying28 rfl) ?_
  refine Za rfl rfl rfl rfl (Xh rfl rfl rfl) ?_
  refine Zg ?_
  refine Yl rfl (fun hc1 => ?_) (fun hc1 => ?_)
  ·
   refine Zu ?_
   refine Zi ?_
   refine Zp ?_
   refine Zi ?_
   obtain ⟨y, hy⟩ := Xv (show i < x.hi.l.length by omega)
   obtain ⟨cy, py, qy, ssy⟩ := hx.hi.isS (i := i) (by omega)
   rw [drop_at_ hy] at hw gw
   replace hw := hr_open hw
   replace gw := hr_openB gw
   have hhl := histL_len y
   refine Zd (l := [0, 1, 2, 3, 4, 5, 6, 7, 8]) rfl ?_
   refine Za rfl rfl rfl rfl (Zc rfl rfl) ?_
   refine Za rfl rfl rfl rfl (Zb (fo := 12) rfl Try.underlying38 rfl i_28 rfl rfl rfl) ?_
   refine Za rfl rfl rfl rfl (Zj rfl rfl (Zf 4 rfl) rfl Try.underlying28 rfl) ?_
   rw [py]
   refine Za rfl rfl rfl rfl (Zc rfl rfl) ?_
   refine Za rfl rfl rfl rfl (Zl (s := 17) rfl Try.underlying28 i_141 rfl rfl rfl rfl (by omega)) ?_
   refine Za rfl rfl rfl rfl (Zb (fo := _) rfl Try.underlying141 rfl i_9 rfl rfl rfl) ?_
   refine Za rfl rfl rfl rfl (Zj rfl rfl (by rw [← Yg qy]; exact Zf 0 rfl) (Zr (Ys ssy cHr_len hy 0 (by omega) rfl)) Try.underlying9 rfl) ?_
   refine Yr rfl rfl rfl rfl (Zn (s := 1) (cs := [_]) rfl Try.underlying220 i_9 rfl rfl rfl rfl rfl rfl rfl rfl rfl) (fun b28 => ?_)
   refine Yh (L2 := [_, _]) rfl rfl rfl rfl rfl rfl Try.call62 (rw_textsL b _ _ _ _ [y.v0] (by simp) (st_l hw hFl)) [1] [3] rfl rfl ?_
   rintro v post ⟨rfl, rfl⟩
   show G _ _ _ [_, _, _] _
   replace hw := st_t hw
   replace gw := st_w gw
   refine Zg ?_
   refine Zi ?_
   refine Zd (l := [0]) rfl ?_
   refine Za rfl rfl rfl rfl (Zk rfl rfl) ?_
   refine Zg ?_
   refine Zp ?_
   refine Yc ?he7 [0, 1] ?hl7 (Xc (X := Nat × List UInt8 × Bool) (fun y_ => match y_ with | ⟨k, t2, v2⟩ => k ≤ 16 ∧ t2 ++ (((histL y).drop k).flatMap encI ++ ((x.hi.l.drop (i + 1)).flatMap encHr ++ (encL encLt x.le.l ++ (encL encWt x.wa.l ++ [])))) = F ∧ (v2 || (((histL y).drop k).any badI || ((x.hi.l.drop (i + 1)).any badHr || (badL badLt x.le.l || (badL badWt x.wa.l || false))))) = W) (fun y_ => match y_ with | ⟨k, t2, v2⟩ => 16 - k) (fun y_ => match y_ with | ⟨k, t2, v2⟩ => [(0, .pointer (some ⟨b, 0, none⟩)), (3, .pointer (some ⟨b3, 0, none⟩)), (4, .int .i64 (i : Int)), (5, .int .i64 (k : Int))]) (fun y_ => match y_ with | ⟨k, t2, v2⟩ => [(some b, .cells #[.string (bs (t2)), .bool v2] 125 (0, 0)), (some b3, .cells (cDst x).toArray 38 (0, 0))]) ?round7 (0, t ++ encTs [y.v0], (v || [y.v0].any badT)) ?h07)
   case he7 => exact (And.intro rfl (And.intro rfl (And.intro rfl (And.intro rfl trivial))))
   case hl7 => exact ⟨_, rfl⟩
   case h07 => exact ⟨Nat.zero_le _, hw, gw⟩
   case round7 =>
    intro y_ hJ ih2
    try dsimp only at hJ ih2
    obtain ⟨k, t2, v2⟩ := y_
    try dsimp only at hJ ih2
    obtain ⟨hk, hw, gw⟩ := hJ
    show G _ _ [(0, .pointer (some ⟨b, 0, none⟩)), (3, .pointer (some ⟨b3, 0, none⟩)), (4, .int .i64 (i : Int)), (5, .int .i64 (k : Int))] [(some b, .cells #[.string (bs (t2)), .bool v2] 125 (0, 0)), (some b3, .cells (cDst x).toArray 38 (0, 0))] _
    refine Zi ?_
    refine Zi ?_
    refine Zd (l := [0, 1]) rfl ?_
    refine Za rfl rfl rfl rfl (Zc rfl rfl) ?_
    refine Za rfl rfl rfl rfl (Xh rfl rfl rfl) ?_
    refine Zg ?_
    refine Yl rfl (fun hc2 => ?_) (fun hc2 => ?_)
    ·
     refine Zu ?_
     refine Zi ?_
     refine Zp ?_
     obtain ⟨z, hz⟩ := Xv (show k < (histL y).length by omega)
     rw [drop_at_ hz] at hw gw
     replace hw := i1_open hw
     replace gw := i1_openB gw
     refine Zd (l := [0, 1, 2, 3, 4, 5, 6, 7, 8, 9, 10]) rfl ?_
     refine Za rfl rfl rfl rfl (Zc rfl rfl) ?_
     refine Za rfl rfl rfl rfl (Zb (fo := 12) rfl Try.underlying38 rfl i_28 rfl rfl rfl) ?_
     refine Za rfl rfl rfl rfl (Zj rfl rfl (Zf 4 rfl) rfl Try.underlying28 rfl) ?_
     rw [py]
     refine Za rfl rfl rfl rfl (Zc rfl rfl) ?_
     refine Za rfl rfl rfl rfl (Zc rfl rfl) ?_
     refine Za rfl rfl rfl rfl (Zl (s := 17) rfl Try.underlying28 i_141 rfl rfl rfl rfl (by omega)) ?_
     refine Za rfl rfl rfl rfl (Zb (fo := _ + 1) rfl Try.underlying141 rfl i_139 rfl rfl rfl) ?_
     refine Za rfl rfl rfl rfl (V_aindexAddr rfl Try.underlying139 i_3 rfl rfl rfl (by omega) (by omega)) ?_
     rw [show x.hi.off + i * 17 + 1 + ((k : Nat) : Int).toNat * Try.t3.size = x.hi.off + i * 17 + (1 + k) by show x.hi.off + i * 17 + 1 + k * 1 = _; omega]
     refine Za rfl rfl rfl rfl (Zj rfl rfl (by rw [← Yg qy]; exact Zf 0 rfl) (Zr (Ys ssy cHr_len hy (1 + k) (by omega) (hist_cell hz))) Try.underlying3 rfl) ?_
     refine Yr rfl rfl rfl rfl (Zn (s := 1) (cs := [_]) rfl Try.underlying99 i_3 rfl rfl rfl rfl rfl rfl rfl rfl rfl) (fun b43 => ?_)
     refine Yh (L2 := [_, _]) rfl rfl rfl rfl rfl rfl Try.call59 (rw_intsL b _ _ _ _ [z] (by simp) (st_l hw hFl)) [1] [3] rfl rfl ?_
     rintro v post ⟨rfl, rfl⟩
     show G _ _ _ [_, _, _] _
     replace hw := st_t hw
     replace gw := st_w gw
     refine Zg ?_
     refine Zs ?_
     refine Zd (l := [0, 1, 2]) rfl ?_
     refine Za rfl rfl rfl rfl (Zc rfl rfl) ?_
     refine Za rfl rfl rfl rfl ((Yu rfl rfl rfl).int (Zv (by omega))) ?_
     refine Za rfl rfl rfl rfl (Zk rfl rfl) ?_
     refine Zg ?_
     refine Yc ?_ [0, 1] ?_ (ih2 (k + 1, t2 ++ encIs [z], (v2 || [z].any badI)) ?_ ?_)
     · (refine (And.intro ?_ (And.intro ?_ (And.intro ?_ (And.intro ?_ trivial)))) <;> first | rfl | exact Zm (by omega) | exact Zm (by simp))
     · exact ⟨_, rfl⟩
     · exact ⟨by omega, hw, gw⟩
     · (first | omega | (dsimp only; omega))
    refine Yx rfl ?_
    refine Zs ?_
    refine Zd (l := [0, 1, 2]) rfl ?_
    refine Za rfl rfl rfl rfl (Zc rfl rfl) ?_
    refine Za rfl rfl rfl rfl ((Yu rfl rfl rfl).int (Zv (by omega))) ?_
    refine Za rfl rfl rfl rfl (Zk rfl rfl) ?_
    refine Zg ?_
    refine Yc ?_ [0, 0] ?_ (ih (i + 1, t2, v2) ?_ ?_)
    · (refine (And.intro ?_ (And.intro ?_ (And.intro ?_ trivial))) <;> first | rfl | exact Zm (by omega) | exact Zm (by simp))
    · exact ⟨_, rfl⟩
    · exact ⟨by omega, drop_end (by omega) hw, drop_endB (by omega) gw⟩
    · (first | omega | (dsimp only; omega))
  refine Yx rfl ?_
  refine Zi ?_
  replace hw := l_open (drop_end (by omega) hw)
  replace gw := l_openB (drop_endB (by omega) gw)
  refine Zd (l := [0, 1, 2, 3, 4]) rfl ?_
  refine Za rfl rfl rfl rfl (Zc rfl rfl) ?_
  refine Za rfl rfl rfl rfl (Zb (fo := 13) rfl Try.underlying38 rfl i_29 rfl rfl rfl) ?_
  refine Za rfl rfl rfl rfl (Zj rfl rfl (Zf 4 rfl) rfl Try.underlying29 rfl) ?_
  refine Za rfl rfl rfl rfl (Yf rfl rfl Try.underlying29 rfl) ?_
  refine Yh (L2 := [_]) rfl rfl rfl rfl rfl rfl Try.call61 (rw_count b _ _ x.le.l.length hx.le.n (st_l hw hFl)) [0] [] rfl rfl ?_
  rintro v post ⟨rfl, rfl⟩
  show G _ _ _ [_, _] _
  replace hw := st_t hw
  replace gw := st_w gw
  refine Zg ?_
  refine Zi ?_
  refine Zi ?_
  refine Zd (l := [0]) rfl ?_
  refine Za rfl rfl rfl rfl (Zk rfl rfl) ?_
  refine Zg ?_
  refine Zp ?_
  refine Yc ?he12 [0, 0] ?hl12 (Xc (X := Nat × List UInt8 × Bool) (fun x_ => match x_ with | ⟨i, t, v⟩ => i ≤ x.le.l.length ∧ t ++ ((x.le.l.drop i).flatMap encLt ++ (encL encWt x.wa.l ++ [])) = F ∧ (v || ((x.le.l.drop i).any badLt || (badL badWt x.wa.l || false))) = W) (fun x_ => match x_ with | ⟨i, t, v⟩ => x.le.l.length - i) (fun x_ => match x_ with | ⟨i, t, v⟩ => [(0, .pointer (some ⟨b, 0, none⟩)), (3, .pointer (some ⟨b3, 0, none⟩)), (6, .int .i64 (i : Int))]) (fun x_ => match x_ with | ⟨i, t, v⟩ => [(some b, .cells #[.string (bs (t)), .bool v] 125 (0, 0)), (some b3, .cells (cDst x).toArray 38 (0, 0))]) ?round12 (0, t ++ chainI (x.le.l.length : Int), (v || decide (1000 < (x.le.l.length : Int)))) ?h012)
  case he12 => exact (And.intro rfl (And.intro rfl (And.intro rfl trivial)))
  case hl12 => exact ⟨_, rfl⟩
  case h012 => exact ⟨Nat.zero_le _, hw, gw⟩
  case round12 =>
   intro x_ hJ ih2
   try dsimp only at hJ ih2
   obtain ⟨i, t, v⟩ := x_
   try dsimp only at hJ ih2
   obtain ⟨hi, hw, gw⟩ := hJ
   show G _ _ [(0, .pointer (some ⟨b, 0, none⟩)), (3, .pointer (some ⟨b3, 0, none⟩)), (6, .int .i64 (i : Int))] [(some b, .cells #[.string (bs (t)), .bool v] 125 (0, 0)), (some b3, .cells (cDst x).toArray 38 (0, 0))] _
   refine Zi ?_
   refine Zi ?_
   refine Zd (l := [0, 1, 2, 3, 4]) rfl ?_
   refine Za rfl rfl rfl rfl (Zc rfl rfl) ?_
   refine Za rfl rfl rfl rfl (Zb (fo := 13) rfl Try.underlying38 rfl i_29 rfl rfl rfl) ?_
   refine Za rfl rfl rfl rfl (Zj rfl rfl (Zf 4 rfl) rfl Try.underlying29 rfl) ?_
   refine Za rfl rfl rfl rfl (Yf rfl rfl Try.underlying29 rfl) ?_
   refine Za rfl rfl rfl rfl (Xh rfl rfl rfl) ?_
   refine Zg ?_
   refine Yl rfl (fun hc2 => ?_) (fun hc2 => ?_)
   ·
    refine Zu ?_
    refine Zi ?_
    refine Zp ?_
    refine Zi ?_
    obtain ⟨y, hy⟩ := Xv (show i < x.le.l.length by omega)
    obtain ⟨cy, py, qy, ssy⟩ := hx.le.isS (i := i) (by omega)
    have hyu := hxu y (List.mem_of_getElem? hy)
    unfold OkLt at hyu
    rw [drop_at_ hy] at hw gw
    replace hw := lt_open hw
    replace gw := lt_openB gw
    refine Zd (l := [0, 1, 2, 3, 4, 5, 6]) rfl ?_
    refine Za rfl rfl rfl rfl (Zb (fo := 13) rfl Try.underlying38 rfl i_29 rfl rfl rfl) ?_
    refine Za rfl rfl rfl rfl (Zj rfl rfl (Zf 4 rfl) rfl Try.underlying29 rfl) ?_
    rw [py]
    refine Za rfl rfl rfl rfl (Zc rfl rfl) ?_
    refine Za rfl rfl rfl rfl (Zl (s := 6) rfl Try.underlying29 i_143 rfl rfl rfl rfl (by omega)) ?_
    refine Za rfl rfl rfl rfl (Xm (s := 6) (vs := (cLt y).toArray) rfl rfl (by rw [← Yg qy]; exact Zf 1 rfl) Try.underlying143 rfl i_143 rfl (ssy.elem cLt_len hy) (by rfl)) ?_
    refine Yr rfl rfl rfl rfl (Xb rfl i_143 rfl) (fun b7 => ?_)
    refine Xl (l1 := []) (L' := [_, _, _]) rfl rfl rfl rfl (Xk (s := 6) rfl rfl rfl (Zf 0 rfl) (by rfl) i_143 rfl (by rfl) (by simp [Value.oneCell', cOp, cWk, cIv, cHr, cLt, cWt, cIt, cFl, cTn, cCl, cPo, cSt, cDt, cDs, Sl.v, zIns, insV, cDp, cDst])) rfl ?_
    refine Zg ?_
    refine Zi ?_
    refine Zd (l := [0, 1, 2, 3, 4, 5, 6, 7, 8, 9, 10]) rfl ?_
    refine Za rfl rfl rfl rfl (Zc rfl rfl) ?_
    refine Za rfl rfl rfl rfl (Zb (fo := 0) rfl Try.underlying143 rfl i_3 rfl rfl rfl) ?_
    refine Za rfl rfl rfl rfl (Zj rfl rfl (Zf 3 rfl) rfl Try.underlying3 rfl) ?_
    refine Za rfl rfl rfl rfl (Zb (fo := 1) rfl Try.underlying143 rfl i_3 rfl rfl rfl) ?_
    refine Za rfl rfl rfl rfl (Zj rfl rfl (Zf 3 rfl) rfl Try.underlying3 rfl) ?_
    refine Za rfl rfl rfl rfl (Zb (fo := 2) rfl Try.underlying143 rfl i_3 rfl rfl rfl) ?_
    refine Za rfl rfl rfl rfl (Zj rfl rfl (Zf 3 rfl) rfl Try.underlying3 rfl) ?_
    refine Za rfl rfl rfl rfl (Zb (fo := 3) rfl Try.underlying143 rfl i_3 rfl rfl rfl) ?_
    refine Za rfl rfl rfl rfl (Zj rfl rfl (Zf 3 rfl) rfl Try.underlying3 rfl) ?_
    refine Yr rfl rfl rfl rfl (Zn (s := 1) (cs := [_, _, _, _]) rfl Try.underlying99 i_3 rfl rfl rfl rfl rfl rfl rfl rfl rfl) (fun b71 => ?_)
    refine Yh (L2 := [_, _, _]) rfl rfl rfl rfl rfl rfl Try.call59 (rw_intsL b _ _ _ _ [y.v0, y.v1, y.v2, y.v3] (by simp) (st_l hw hFl)) [2] [3] rfl rfl ?_
    rintro v post ⟨rfl, rfl⟩
    show G _ _ _ [_, _, _, _] _
    replace hw := st_t hw
    replace gw := st_w gw
    refine Zg ?_
    refine Zi ?_
    refine Zd (l := [0, 1, 2, 3, 4]) rfl ?_
    refine Za rfl rfl rfl rfl (Zc rfl rfl) ?_
    refine Za rfl rfl rfl rfl (Zb (fo := 4) rfl Try.underlying143 rfl i_9 rfl rfl rfl) ?_
    refine Za rfl rfl rfl rfl (Zj rfl rfl (Zf 5 rfl) rfl Try.underlying9 rfl) ?_
    refine Yr rfl rfl rfl rfl (Zn (s := 1) (cs := [_]) rfl Try.underlying220 i_9 rfl rfl rfl rfl rfl rfl rfl rfl rfl) (fun b76 => ?_)
    refine Yh (L2 := [_, _, _, _]) rfl rfl rfl rfl rfl rfl Try.call62 (rw_textsL b _ _ _ _ [y.v4] (by simp) (st_l hw hFl)) [1] [3] rfl rfl ?_
    rintro v post ⟨rfl, rfl⟩
    show G _ _ _ [_, _, _, _, _] _
    replace hw := st_t hw
    replace gw := st_w gw
    refine Zg ?_
    refine Zd (l := [0, 1, 2, 3, 4]) rfl ?_
    refine Za rfl rfl rfl rfl (Zc rfl rfl) ?_
    refine Za rfl rfl rfl rfl (Zb (fo := 5) rfl Try.underlying143 rfl i_23 rfl rfl rfl) ?_
    refine Za rfl rfl rfl rfl (Zj rfl rfl (Zf 6 rfl) rfl Try.underlying23 rfl) ?_
    refine Yr rfl rfl rfl rfl (Zn (s := 1) (cs := [_]) rfl Try.underlying219 i_23 rfl rfl rfl rfl rfl rfl rfl rfl rfl) (fun b81 => ?_)
    refine Yh (L2 := [_, _, _, _, _]) rfl rfl rfl rfl rfl rfl Try.call57 (rw_numsL b _ _ _ _ [y.v5] (by simp) (by intro z hz; rw [List.mem_singleton.1 hz]; assumption) (st_l hw hFl)) [1] [3] rfl rfl ?_
    rintro v post ⟨rfl, rfl⟩
    show G _ _ _ [_, _, _, _, _, _] _
    replace hw := st_t hw
    refine Zg ?_
    refine Zs ?_
    refine Zd (l := [0, 1, 2]) rfl ?_
    refine Za rfl rfl rfl rfl (Zc rfl rfl) ?_
    refine Za rfl rfl rfl rfl ((Yu rfl rfl rfl).int (Zv (by omega))) ?_
    refine Za rfl rfl rfl rfl (Zk rfl rfl) ?_
    refine Zg ?_
    refine Yc ?_ [0, 4] ?_ (ih2 (i + 1, t ++ encIs [y.v0, y.v1, y.v2, y.v3] ++ encTs [y.v4] ++ encUs [y.v5], ((v || [y.v0, y.v1, y.v2, y.v3].any badI) || [y.v4].any badT)) ?_ ?_)
    · (refine (And.intro ?_ (And.intro ?_ (And.intro ?_ trivial))) <;> first | rfl | exact Zm (by omega) | exact Zm (by simp))
    · exact ⟨_, rfl⟩
    · exact ⟨by omega, hw, gw⟩
    · (first | omega | (dsimp only; omega))
   refine Yx rfl ?_
   refine Zi ?_
   replace hw := l_open (drop_end (by omega) hw)
   replace gw := l_openB (drop_endB (by omega) gw)
   refine Zd (l := [0, 1, 2, 3, 4]) rfl ?_
   refine Za rfl rfl rfl rfl (Zc rfl rfl) ?_
   refine Za rfl rfl rfl rfl (Zb (fo := 14) rfl Try.underlying38 rfl i_30 rfl rfl rfl) ?_
   refine Za rfl rfl rfl rfl (Zj rfl rfl (Zf 4 rfl) rfl Try.underlying30 rfl) ?_
   refine Za rfl rfl rfl rfl (Yf rfl rfl Try.underlying30 rfl) ?_
   refine Yh (L2 := [_]) rfl rfl rfl rfl rfl rfl Try.call61 (rw_count b _ _ x.wa.l.length hx.wa.n (st_l hw hFl)) [0] [] rfl rfl ?_
   rintro v post ⟨rfl, rfl⟩
   show G _ _ _ [_, _] _
   replace hw := st_t hw
   replace gw := st_w gw
   refine Zg ?_
   refine Zi ?_
   refine Zd (l := [0]) rfl ?_
   refine Za rfl rfl rfl rfl (Zk rfl rfl) ?_
   refine Zg ?_
   refine Zp ?_
   refine Yc ?he20 [0, 0] ?hl20 (Xc (X := Nat × List UInt8 × Bool) (fun x_ => match x_ with | ⟨i, t, v⟩ => i ≤ x.wa.l.length ∧ t ++ ((x.wa.l.drop i).flatMap encWt ++ []) = F ∧ (v || ((x.wa.l.drop i).any badWt || false)) = W) (fun x_ => match x_ with | ⟨i, t, v⟩ => x.wa.l.length - i) (fun x_ => match x_ with | ⟨i, t, v⟩ => [(0, .pointer (some ⟨b, 0, none⟩)), (3, .pointer (some ⟨b3, 0, none⟩)), (8, .int .i64 (i : Int))]) (fun x_ => match x_ with | ⟨i, t, v⟩ => [(some b, .cells #[.string (bs (t)), .bool v] 125 (0, 0)), (some b3, .cells (cDst x).toArray 38 (0, 0))]) ?round20 (0, t ++ chainI (x.wa.l.length : Int), (v || decide (1000 < (x.wa.l.length : Int)))) ?h020)
   case he20 => exact (And.intro rfl (And.intro rfl (And.intro rfl trivial)))
   case hl20 => exact ⟨_, rfl⟩
   case h020 => exact ⟨Nat.zero_le _, hw, gw⟩
   case round20 =>
    intro x_ hJ ih3
    try dsimp only at hJ ih3
    obtain ⟨i, t, v⟩ := x_
    try dsimp only at hJ ih3
    obtain ⟨hi, hw, gw⟩ := hJ
    show G _ _ [(0, .pointer (some ⟨b, 0, none⟩)), (3, .pointer (some ⟨b3, 0, none⟩)), (8, .int .i64 (i : Int))] [(some b, .cells #[.string (bs (t)), .bool v] 125 (0, 0)), (some b3, .cells (cDst x).toArray 38 (0, 0))] _
    refine Zi ?_
    refine Zi ?_
    refine Zd (l := [0, 1, 2, 3, 4]) rfl ?_
    refine Za rfl rfl rfl rfl (Zc rfl rfl) ?_
    refine Za rfl rfl rfl rfl (Zb (fo := 14) rfl Try.underlying38 rfl i_30 rfl rfl rfl) ?_
    refine Za rfl rfl rfl rfl (Zj rfl rfl (Zf 4 rfl) rfl Try.underlying30 rfl) ?_
    refine Za rfl rfl rfl rfl (Yf rfl rfl Try.underlying30 rfl) ?_
    refine Za rfl rfl rfl rfl (Xh rfl rfl rfl) ?_
    refine Zg ?_
    refine Yl rfl (fun hc3 => ?_) (fun hc3 => ?_)
    ·
     refine Zu ?_
     refine Zi ?_
     refine Zp ?_
     refine Zi ?_
     obtain ⟨y, hy⟩ := Xv (show i < x.wa.l.length by omega)
     obtain ⟨cy, py, qy, ssy⟩ := hx.wa.isS (i := i) (by omega)
     rw [drop_at_ hy] at hw gw
     replace hw := wt_open hw
     replace gw := wt_openB gw
     refine Zd (l := [0, 1, 2, 3, 4, 5, 6, 7, 8]) rfl ?_
     refine Za rfl rfl rfl rfl (Zc rfl rfl) ?_
     refine Za rfl rfl rfl rfl (Zb (fo := 14) rfl Try.underlying38 rfl i_30 rfl rfl rfl) ?_
     refine Za rfl rfl rfl rfl (Zj rfl rfl (Zf 4 rfl) rfl Try.underlying30 rfl) ?_
     rw [py]
     refine Za rfl rfl rfl rfl (Zc rfl rfl) ?_
     refine Za rfl rfl rfl rfl (Zl (s := 2) rfl Try.underlying30 i_145 rfl rfl rfl rfl (by omega)) ?_
     refine Za rfl rfl rfl rfl (Zb (fo := _) rfl Try.underlying145 rfl i_9 rfl rfl rfl) ?_
     refine Za rfl rfl rfl rfl (Zj rfl rfl (by rw [← Yg qy]; exact Zf 2 rfl) (Zr (Ys ssy cWt_len hy 0 (by omega) rfl)) Try.underlying9 rfl) ?_
     refine Yr rfl rfl rfl rfl (Zn (s := 1) (cs := [_]) rfl Try.underlying220 i_9 rfl rfl rfl rfl rfl rfl rfl rfl rfl) (fun b102 => ?_)
     refine Yh (L2 := [_, _]) rfl rfl rfl rfl rfl rfl Try.call62 (rw_textsL b _ _ _ _ [y.v0] (by simp) (st_l hw hFl)) [1] [3] rfl rfl ?_
     rintro v post ⟨rfl, rfl⟩
     show G _ _ _ [_, _, _] _
     replace hw := st_t hw
     replace gw := st_w gw
     refine Zg ?_
     refine Zd (l := [0, 1, 2, 3, 4, 5, 6, 7, 8]) rfl ?_
     refine Za rfl rfl rfl rfl (Zc rfl rfl) ?_
     refine Za rfl rfl rfl rfl (Zb (fo := 14) rfl Try.underlying38 rfl i_30 rfl rfl rfl) ?_
     refine Za rfl rfl rfl rfl (Zj rfl rfl (Zf 5 rfl) rfl Try.underlying30 rfl) ?_
     rw [py]
     refine Za rfl rfl rfl rfl (Zc rfl rfl) ?_
     refine Za rfl rfl rfl rfl (Zl (s := 2) rfl Try.underlying30 i_145 rfl rfl rfl rfl (by omega)) ?_
     refine Za rfl rfl rfl rfl (Zb (fo := _ + 1) rfl Try.underlying145 rfl i_3 rfl rfl rfl) ?_
     refine Za rfl rfl rfl rfl (Zj rfl rfl (by rw [← Yg qy]; exact Zf 2 rfl) (Zr (Ys ssy cWt_len hy 1 (by omega) rfl)) Try.underlying3 rfl) ?_
     refine Yr rfl rfl rfl rfl (Zn (s := 1) (cs := [_]) rfl Try.underlying99 i_3 rfl rfl rfl rfl rfl rfl rfl rfl rfl) (fun b111 => ?_)
     refine Yh (L2 := [_, _, _]) rfl rfl rfl rfl rfl rfl Try.call59 (rw_intsL b _ _ _ _ [y.v1] (by simp) (st_l hw hFl)) [1] [3] rfl rfl ?_
     rintro v post ⟨rfl, rfl⟩
     show G _ _ _ [_, _, _, _] _
     replace hw := st_t hw
     replace gw := st_w gw
     refine Zg ?_
     refine Zs ?_
     refine Zd (l := [0, 1, 2]) rfl ?_
     refine Za rfl rfl rfl rfl (Zc rfl rfl) ?_
     refine Za rfl rfl rfl rfl ((Yu rfl rfl rfl).int (Zv (by omega))) ?_
     refine Za rfl rfl rfl rfl (Zk rfl rfl) ?_
     refine Zg ?_
     refine Yc ?_ [0, 2] ?_ (ih3 (i + 1, t ++ encTs [y.v0] ++ encIs [y.v1], ((v || [y.v0].any badT) || [y.v1].any badI)) ?_ ?_)
     · (refine (And.intro ?_ (And.intro ?_ (And.intro ?_ trivial))) <;> first | rfl | exact Zm (by omega) | exact Zm (by simp))
     · exact ⟨_, rfl⟩
     · exact ⟨by omega, hw, gw⟩
     · (first | omega | (dsimp only; omega))
    refine Yx rfl ?_
    refine G_end (post := [_]) Try.func64 rfl Zo [0] rfl ?_
    dsimp only [packed]
    have hw2 := drop_end (by omega) hw
    have gw2 := drop_endB (by omega) gw
    rw [List.append_nil] at hw2
    rw [Bool.or_false] at gw2
    rw [hF, hW, hw2, gw2]
    exact ⟨rfl, rfl⟩

end
end Go.Proofs.Ytjnaeoelnmhjfaa
