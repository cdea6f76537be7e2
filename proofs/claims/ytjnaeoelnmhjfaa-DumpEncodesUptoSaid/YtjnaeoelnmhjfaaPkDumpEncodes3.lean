/- What the law DumpEncodes needs, part 3.  -/
import Derived.Test.YtjnaeoelnmhjfaaPkDumpEncodes1
import Derived.Test.YtjnaeoelnmhjfaaPkDumpEncodes2


set_option linter.unusedSimpArgs false
set_option linter.unusedVariables false
namespace Go.Proofs.Ytjnaeoelnmhjfaa
open Go Go.RowKit

section
theorem i_99 : Try.prog.info? 99 = some Try.t99 := by kernel_rfl
theorem i_100 : Try.prog.info? 100 = some Try.t100 := by kernel_rfl
theorem i_101 : Try.prog.info? 101 = some Try.t101 := by kernel_rfl
theorem i_248 : Try.prog.info? 248 = some Try.t248 := by kernel_rfl
theorem p_250 : placesOf Try.prog (Try.prog.fieldsOf 250) = some [(0, 1), (1, 1), (2, 1)] := by kernel_rfl


def bC (x : Bool) : List Value := [.bool x]
theorem bC_len (x : Bool) : (bC x).length = 1 := rfl
def shC (s : Ins Tn) : List Value := [.slice s.p s.l.length s.cap]
theorem shC_len (s : Ins Tn) : (shC s).length = 1 := rfl
def kSh (s : Ins Tn) : List HBk := insK s :: s.l.flatMap kTn
/-- A need, as the program has it. -/
structure Po where
  n : List UInt8
  u : Int
  sv : Ins Int
  sh : Ins (Ins Tn)
  gv : Ins Bool
def cPo (x : Po) : List Value := [.string (bs x.n), .int .i64 x.u, .slice x.sv.p x.sv.l.length x.sv.cap, .slice x.sh.p x.sh.l.length x.sh.cap, .slice x.gv.p x.gv.l.length x.gv.cap]
theorem cPo_len (x : Po) : (cPo x).length = 5 := rfl
def clsOf (x : Po) : List Cl := List.zipWith (fun a (p : Bool × Ins Tn) => ⟨a, p.1, p.2⟩) x.sv.l (x.gv.l.zip x.sh.l)
def EvenPo (x : Po) : Prop := x.sv.l.length = x.sh.l.length ∧ x.sv.l.length = x.gv.l.length
instance (x : Po) : Decidable (EvenPo x) := by unfold EvenPo; infer_instance
def encPo (x : Po) : List UInt8 := encTs [x.n] ++ (encIs [x.u] ++ (if EvenPo x then encL encCl (clsOf x) else []))
def badPo (x : Po) : Bool := [x.n].any badT || ([x.u].any badI || (if EvenPo x then badL badCl (clsOf x) else true))
def OkPo (x : Po) : Prop := InsOk 1 i1C x.sv ∧ InsOk 1 bC x.gv ∧ InsOk 1 shC x.sh ∧ ∀ s ∈ x.sh.l, InsOk 5 cTn s ∧ ∀ y ∈ s.l, OkTn y
def kPo (x : Po) : List HBk := insK x.sv :: insK x.gv :: insK x.sh :: x.sh.l.flatMap kSh
theorem cls_len {x : Po} (h : EvenPo x) : (clsOf x).length = x.sv.l.length := by
  obtain ⟨h1, h2⟩ := h
  unfold clsOf; rw [List.length_zipWith, List.length_zip]; omega
theorem cls_at {x : Po} {i : Nat} {a : Int} {g : Bool} {s : Ins Tn} (ha : x.sv.l[i]? = some a) (hg : x.gv.l[i]? = some g) (hs : x.sh.l[i]? = some s) : (clsOf x)[i]? = some ⟨a, g, s⟩ := by
  unfold clsOf; rw [List.getElem?_zipWith, ha, List.zip, List.getElem?_zipWith, hg, hs]
theorem cls_mem {x : Po} {c : Cl} (h : c ∈ clsOf x) : c.s ∈ x.sh.l := by
  obtain ⟨i, hi⟩ := List.mem_iff_getElem?.1 h
  unfold clsOf at hi
  rw [List.getElem?_zipWith, List.zip, List.getElem?_zipWith] at hi
  rcases e1 : x.sv.l[i]? with _ | a <;> rcases e2 : x.gv.l[i]? with _ | g <;> rcases e3 : x.sh.l[i]? with _ | s <;> rw [e1, e2, e3] at hi <;> simp at hi
  subst hi
  exact List.mem_of_getElem? e3
theorem cls_sub {x : Po} : ∀ z ∈ (clsOf x).flatMap kCl, z ∈ x.sh.l.flatMap kSh := by
  intro z hz
  obtain ⟨c, hc, hz⟩ := List.mem_flatMap.1 hz
  exact List.mem_flatMap.2 ⟨c.s, cls_mem hc, hz⟩
theorem sub_two {M tl : List HBk} {a b : HBk} (ha : a ∈ M) (hb : b ∈ M) (h : ∀ z ∈ tl, z ∈ M) : ∀ z ∈ a :: b :: tl, z ∈ M := by
  intro z hz
  rcases List.mem_cons.1 hz with rfl | hz
  · exact ha
  rcases List.mem_cons.1 hz with rfl | hz
  · exact hb
  · exact h z hz
theorem cls_ok {x : Po} (h : OkPo x) : ∀ c ∈ clsOf x, OkCl c := fun c hc => h.2.2.2 c.s (cls_mem hc)

set_option maxRecDepth 100000 in
set_option maxHeartbeats 2000000 in
theorem cw_pool (b : Nat) (p : Value) (u : Sl) (tx : List UInt8) (w : Bool) (hp : UsedOr b p) (hu : Txt u tx) (bx : Nat) (x : Po) (T : TypeId) (fz : Nat × Nat) (hx : OkPo x) (hl : tx.length + (encPo x).length ≤ 140737488350000) :
    Ct Try.prog 104 [.pointer (some ⟨b, 0, none⟩), .pointer (some ⟨bx, 0, none⟩)] ((some bx, .cells (cPo x).toArray T fz) :: insK x.sv :: insK x.gv :: insK x.sh :: x.sh.l.flatMap kSh) [(some b, .cells #[p, u.v (tx).length, .pointer none, .bool w] 80 (0, 0)), (u.ob, .cells u.cs 5 u.fz)] fun v post => v = .tuple #[] ∧ ∃ p1 u1, UsedOr b p1 ∧ Txt u1 (tx ++ encPo x) ∧ post = [(some b, .cells #[p1, u1.v (tx ++ encPo x).length, .pointer none, .bool (w || badPo x)] 80 (0, 0)), (u1.ob, .cells u1.cs 5 u1.fz)] := by
 have hl_ := hl
 unfold encPo at hl_
 simp only [List.length_append] at hl_
 have n1 := hx.1.n
 have n2 := hx.1.le
 have n3 := hx.1.max
 have n4 := hx.2.1.le
 have n5 := hx.2.1.max
 have n6 := hx.2.2.1.le
 have n7 := hx.2.2.1.max
 refine Yv Try.func104 rfl rfl (fun w0 => ?_)
 show G _ _ [(0, _), (1, _)] _ _
 refine Zi ?_
 refine Zd (l := [0, 1, 2, 3, 4, 5]) rfl ?_
 refine Za rfl rfl rfl rfl (Zc rfl rfl) ?_
 refine Za rfl rfl rfl rfl (Zc rfl rfl) ?_
 refine Za rfl rfl rfl rfl (Ze rfl rfl) ?_
 refine Za rfl rfl rfl rfl (Zb (fo := 0) rfl Try.underlying103 rfl i_9 rfl rfl rfl) ?_
 refine Yr rfl rfl rfl rfl (Zn (s := 1) (cs := [_]) rfl Try.underlying278 i_244 rfl rfl rfl rfl rfl rfl rfl rfl rfl) (fun b12 => ?_)
 refine Yn (L2 := [_]) rfl rfl rfl rfl rfl rfl Try.call142 (cw_textsL b _ _ _ _ hp hu _ _ bx (cPo x).toArray T fz [(0, x.n)] (by simp) ⟨rfl, trivial⟩ (by (try simp only [List.map_cons, List.map_nil, List.length_append]); omega)) [1, 1] rfl (Yb (List.mem_append_right _ (Zf 0 rfl)) (Yb (List.mem_append_left _ (Zf 0 rfl)) Yd)) ?_
 rintro v post ⟨rfl, p1, u1, hp1, hu1, rfl⟩
 show G _ _ _ [_, _, _] _
 refine Zg ?_
 refine Zi ?_
 refine Zd (l := [0, 1, 2, 3, 4, 5]) rfl ?_
 refine Za rfl rfl rfl rfl (Zc rfl rfl) ?_
 refine Za rfl rfl rfl rfl (Zc rfl rfl) ?_
 refine Za rfl rfl rfl rfl (Ze rfl rfl) ?_
 refine Za rfl rfl rfl rfl (Zb (fo := 1) rfl Try.underlying103 rfl i_3 rfl rfl rfl) ?_
 refine Yr rfl rfl rfl rfl (Zn (s := 1) (cs := [_]) rfl Try.underlying241 i_176 rfl rfl rfl rfl rfl rfl rfl rfl rfl) (fun b18 => ?_)
 refine Yn (L2 := [_, _]) rfl rfl rfl rfl rfl rfl Try.call96 (cw_intsL b _ _ _ _ hp1 hu1 _ _ bx (cPo x).toArray T fz [(1, x.u)] (by simp) ⟨rfl, trivial⟩ (by (try simp only [List.map_cons, List.map_nil, List.length_append]); omega)) [1, 1] rfl (Yb (List.mem_append_right _ (Zf 0 rfl)) (Yb (List.mem_append_left _ (Zf 0 rfl)) Yd)) ?_
 rintro v post ⟨rfl, p1, u1, hp1, hu1, rfl⟩
 show G _ _ _ [_, _, _, _] _
 refine Zg ?_
 refine Zi ?_
 refine Zd (l := [0]) rfl ?_
 refine Yr rfl rfl rfl rfl (N_alloc1 rfl i_248 rfl rfl) (fun b4 => ?_)
 refine Zg ?_
 refine Zi ?_
 refine Zi ?_
 refine Ya (Lq := []) (isq := []) (m := 24) Ym rfl rfl ?_
 refine Zh 0 rfl rfl rfl rfl (by kernel_rfl) (fun _ _ => Zc rfl rfl) ?_
 refine Zh 1 rfl rfl rfl rfl (by kernel_rfl) (fun _ _ => Ze rfl rfl) ?_
 refine Zh 2 rfl rfl rfl rfl (by kernel_rfl) (fun _ _ => Zb (fo := 2) rfl Try.underlying103 rfl i_99 rfl rfl rfl) ?_
 refine Zh 3 rfl rfl rfl rfl (by kernel_rfl) (fun _ _ => Zj rfl rfl (List.mem_append_left _ (Zf 0 rfl)) rfl Try.underlying99 rfl) ?_
 refine Zh 4 rfl rfl rfl rfl (by kernel_rfl) (fun _ _ => Yf rfl rfl Try.underlying99 rfl) ?_
 refine Zh 5 rfl rfl rfl rfl (by kernel_rfl) (fun _ _ => Zc rfl rfl) ?_
 refine Zh 6 rfl rfl rfl rfl (by kernel_rfl) (fun _ _ => Ze rfl rfl) ?_
 refine Zh 7 rfl rfl rfl rfl (by kernel_rfl) (fun _ _ => Zb (fo := 3) rfl Try.underlying103 rfl i_100 rfl rfl rfl) ?_
 refine Zh 8 rfl rfl rfl rfl (by kernel_rfl) (fun _ _ => Zj rfl rfl (List.mem_append_left _ (Zf 0 rfl)) rfl Try.underlying100 rfl) ?_
 refine Zh 9 rfl rfl rfl rfl (by kernel_rfl) (fun _ _ => Yf rfl rfl Try.underlying100 rfl) ?_
 refine Zh 10 rfl rfl rfl rfl (by kernel_rfl) (fun _ _ => V_neq rfl rfl rfl) ?_
 refine Zh 11 rfl rfl rfl rfl (by kernel_rfl) (fun _ _ => Zc rfl rfl) ?_
 refine GH_splitD 31 rfl (fun hc1 => ?_) (fun hc1 => ?_)
 ·
  refine GH_takeOff 12 rfl rfl rfl rfl (by kernel_rfl) (by kernel_rfl) (by kernel_rfl) ?_
  refine GH_takeOff 13 rfl rfl rfl rfl (by kernel_rfl) (by kernel_rfl) (by kernel_rfl) ?_
  refine GH_takeOff 14 rfl rfl rfl rfl (by kernel_rfl) (by kernel_rfl) (by kernel_rfl) ?_
  refine GH_takeOff 15 rfl rfl rfl rfl (by kernel_rfl) (by kernel_rfl) (by kernel_rfl) ?_
  refine GH_takeOff 16 rfl rfl rfl rfl (by kernel_rfl) (by kernel_rfl) (by kernel_rfl) ?_
  refine GH_takeOff 17 rfl rfl rfl rfl (by kernel_rfl) (by kernel_rfl) (by kernel_rfl) ?_
  refine GH_takeOff 18 rfl rfl rfl rfl (by kernel_rfl) (by kernel_rfl) (by kernel_rfl) ?_
  refine GH_takeOff 19 rfl rfl rfl rfl (by kernel_rfl) (by kernel_rfl) (by kernel_rfl) ?_
  refine GH_takeOff 20 rfl rfl rfl rfl (by kernel_rfl) (by kernel_rfl) (by kernel_rfl) ?_
  refine GH_takeOff 21 rfl rfl rfl rfl (by kernel_rfl) (by kernel_rfl) (by kernel_rfl) ?_
  refine GH_takeOff 22 rfl rfl rfl rfl (by kernel_rfl) (by kernel_rfl) (by kernel_rfl) ?_
  refine Zh 23 rfl rfl rfl rfl (by kernel_rfl) (fun _ _ => Yk rfl rfl rfl) ?_
  refine Zw (by kernel_rfl) ?_
  refine G_then rfl ?_
  refine Zi ?_
  refine Zd (l := [0, 1, 2, 3]) rfl ?_
  refine Za rfl rfl rfl rfl (Zc rfl rfl) ?_
  refine Za rfl rfl rfl rfl (Ze rfl rfl) ?_
  refine Za rfl rfl rfl rfl (Zb (fo := 3) rfl Try.underlying80 rfl i_4 rfl rfl rfl) ?_
  refine Xl (l1 := [_]) (L' := [_, _, _, _, _]) rfl rfl rfl rfl (Zq rfl rfl rfl (Zf 1 rfl) (by first | exact of_decide_eq_true rfl | omega | (simp [cOp, cWk, cIv, cHr, cLt, cWt, cIt, cFl, cTn, cCl, cPo]; done) | (simp [cOp, cWk, cIv, cHr, cLt, cWt, cIt, cFl, cTn, cCl, cPo]; omega) | (simp [cOp, cWk, cIv, cHr, cLt, cWt, cIt, cFl, cTn, cCl, cPo] at *; omega)) i_4 rfl rfl) rfl ?_
  refine Zg ?_
  refine Xa (post := [_, _]) Try.func104 rfl Zo [1, 1] rfl ?_
  dsimp only [packed]
  first
    | (have hev : ¬ EvenPo x := fun h => by have h1 := h.1; have h2 := h.2; first | contradiction | omega
       have e1 : tx ++ encPo x = tx ++ encTs [x.n] ++ encIs [x.u] := by simp only [encPo, if_neg hev, List.append_nil, List.append_assoc]
       have e2 : (w || badPo x) = true := by simp only [badPo, if_neg hev, Bool.or_true]
       rw [e1, e2]
       exact ⟨rfl, p1, u1, hp1, hu1, rfl⟩)
    | (refine ⟨rfl, p1, u1, hp1, ?_, ?_⟩
       · simpa only [encPo, if_pos hev, List.map_cons, List.map_nil, List.append_assoc] using hu1
       · simp only [encPo, badPo, if_pos hev, List.map_cons, List.map_nil, List.append_assoc, Bool.or_assoc])
 refine Zh 12 rfl rfl rfl rfl (by kernel_rfl) (fun _ _ => Zc rfl rfl) ?_
 refine Zh 13 rfl rfl rfl rfl (by kernel_rfl) (fun _ _ => Ze rfl rfl) ?_
 refine Zh 14 rfl rfl rfl rfl (by kernel_rfl) (fun _ _ => Zb (fo := 2) rfl Try.underlying103 rfl i_99 rfl rfl rfl) ?_
 refine Zh 15 rfl rfl rfl rfl (by kernel_rfl) (fun _ _ => Zj rfl rfl (List.mem_append_left _ (Zf 0 rfl)) rfl Try.underlying99 rfl) ?_
 refine Zh 16 rfl rfl rfl rfl (by kernel_rfl) (fun _ _ => Yf rfl rfl Try.underlying99 rfl) ?_
 refine Zh 17 rfl rfl rfl rfl (by kernel_rfl) (fun _ _ => Zc rfl rfl) ?_
 refine Zh 18 rfl rfl rfl rfl (by kernel_rfl) (fun _ _ => Ze rfl rfl) ?_
 refine Zh 19 rfl rfl rfl rfl (by kernel_rfl) (fun _ _ => Zb (fo := 4) rfl Try.underlying103 rfl i_101 rfl rfl rfl) ?_
 refine Zh 20 rfl rfl rfl rfl (by kernel_rfl) (fun _ _ => Zj rfl rfl (List.mem_append_left _ (Zf 0 rfl)) rfl Try.underlying101 rfl) ?_
 refine Zh 21 rfl rfl rfl rfl (by kernel_rfl) (fun _ _ => Yf rfl rfl Try.underlying101 rfl) ?_
 refine Zh 22 rfl rfl rfl rfl (by kernel_rfl) (fun _ _ => V_neq rfl rfl rfl) ?_
 refine Zh 23 rfl rfl rfl rfl (by kernel_rfl) (fun _ _ => Xu rfl rfl rfl) ?_
 refine Zw (by kernel_rfl) ?_
 refine Yl rfl (fun hc2 => ?_) (fun hc2 => ?_)
 ·
  refine Zi ?_
  refine Zd (l := [0, 1, 2, 3]) rfl ?_
  refine Za rfl rfl rfl rfl (Zc rfl rfl) ?_
  refine Za rfl rfl rfl rfl (Ze rfl rfl) ?_
  refine Za rfl rfl rfl rfl (Zb (fo := 3) rfl Try.underlying80 rfl i_4 rfl rfl rfl) ?_
  refine Xl (l1 := [_]) (L' := [_, _, _, _, _]) rfl rfl rfl rfl (Zq rfl rfl rfl (Zf 1 rfl) (by first | exact of_decide_eq_true rfl | omega | (simp [cOp, cWk, cIv, cHr, cLt, cWt, cIt, cFl, cTn, cCl, cPo]; done) | (simp [cOp, cWk, cIv, cHr, cLt, cWt, cIt, cFl, cTn, cCl, cPo]; omega) | (simp [cOp, cWk, cIv, cHr, cLt, cWt, cIt, cFl, cTn, cCl, cPo] at *; omega)) i_4 rfl rfl) rfl ?_
  refine Zg ?_
  refine Xa (post := [_, _]) Try.func104 rfl Zo [1, 1] rfl ?_
  dsimp only [packed]
  first
    | (have hev : ¬ EvenPo x := fun h => by have h1 := h.1; have h2 := h.2; first | contradiction | omega
       have e1 : tx ++ encPo x = tx ++ encTs [x.n] ++ encIs [x.u] := by simp only [encPo, if_neg hev, List.append_nil, List.append_assoc]
       have e2 : (w || badPo x) = true := by simp only [badPo, if_neg hev, Bool.or_true]
       rw [e1, e2]
       exact ⟨rfl, p1, u1, hp1, hu1, rfl⟩)
    | (refine ⟨rfl, p1, u1, hp1, ?_, ?_⟩
       · simpa only [encPo, if_pos hev, List.map_cons, List.map_nil, List.append_assoc] using hu1
       · simp only [encPo, badPo, if_pos hev, List.map_cons, List.map_nil, List.append_assoc, Bool.or_assoc])
 refine Zu ?_
 refine Zi ?_
 refine Zi ?_
 have hev : EvenPo x := ⟨by omega, by omega⟩
 rw [if_pos hev] at hl_
 have hcn := cls_len hev
 refine G_addNone (.cells #[] 250 (0, 0)) ?_
 refine Zd (l := [0, 1, 2, 3, 4, 5]) rfl ?_
 refine Za rfl rfl rfl rfl (Zc rfl rfl) ?_
 refine Za rfl rfl rfl rfl (Ze rfl rfl) ?_
 refine Za rfl rfl rfl rfl (Zb (fo := 2) rfl Try.underlying103 rfl i_99 rfl rfl rfl) ?_
 refine Za rfl rfl rfl rfl (Zj rfl rfl (List.mem_append_left _ (Zf 0 rfl)) rfl Try.underlying99 rfl) ?_
 refine Za rfl rfl rfl rfl (Yf rfl rfl Try.underlying99 rfl) ?_
 refine Za rfl rfl rfl rfl (Zc rfl rfl) ?_
 refine Zg ?_
 refine Zp ?_
 refine Yc ?he6 [1, 0, 0, 0] ?hl6 (Xc (X := Nat × Sl) (fun x_ => match x_ with | ⟨i, v⟩ => i ≤ x.sv.l.length ∧ Own 3 v (((clsOf x).take i).flatMap cCl) i) (fun x_ => match x_ with | ⟨i, v⟩ => x.sv.l.length - i) (fun x_ => match x_ with | ⟨i, v⟩ => [(0, .pointer (some ⟨b, 0, none⟩)), (1, .pointer (some ⟨bx, 0, none⟩)), (4, .pointer (some ⟨b4, 0, none⟩)), (51, .int .i64 (x.sv.l.length : Int)), (52, .int .i64 (i : Int))]) (fun x_ => match x_ with | ⟨i, v⟩ => [(some b4, .cells #[v.v i] 248 (0, 0)), (v.ob, .cells v.cs 250 v.fz), (some b, .cells #[p1, u1.v (tx ++ encTs [x.n] ++ encIs [x.u]).length, .pointer none, .bool ((w || [x.n].any badT) || [x.u].any badI)] 80 (0, 0)), (u1.ob, .cells u1.cs 5 u1.fz)]) ?round6 (0, slNil) ?h06)
 case he6 => exact (And.intro rfl (And.intro rfl (And.intro rfl (And.intro rfl (And.intro rfl trivial)))))
 case hl6 => exact ⟨_, rfl⟩
 case h06 => exact ⟨Nat.zero_le _, own_nil 3⟩
 case round6 =>
  intro x_ hJ ih
  try dsimp only at hJ ih
  obtain ⟨i, v⟩ := x_
  try dsimp only at hJ ih
  obtain ⟨hi, hv⟩ := hJ
  show G _ _ [(0, .pointer (some ⟨b, 0, none⟩)), (1, .pointer (some ⟨bx, 0, none⟩)), (4, .pointer (some ⟨b4, 0, none⟩)), (51, .int .i64 (x.sv.l.length : Int)), (52, .int .i64 (i : Int))] [(some b4, .cells #[v.v i] 248 (0, 0)), (v.ob, .cells v.cs 250 v.fz), (some b, .cells #[p1, u1.v (tx ++ encTs [x.n] ++ encIs [x.u]).length, .pointer none, .bool ((w || [x.n].any badT) || [x.u].any badI)] 80 (0, 0)), (u1.ob, .cells u1.cs 5 u1.fz)] _
  refine Zi ?_
  refine Zd (l := [0]) rfl ?_
  refine Za rfl rfl rfl rfl (Xh rfl rfl rfl) ?_
  refine Zg ?_
  refine Zi ?_
  refine Yl rfl (fun hc3 => ?_) (fun hc3 => ?_)
  ·
   refine Zu ?_
   refine Zi ?_
   refine Zp ?_
   refine Zi ?_
   refine Zd (l := [0, 1]) rfl ?_
   refine Za rfl rfl rfl rfl (Zc rfl rfl) ?_
   refine Za rfl rfl rfl rfl (Zk rfl rfl) ?_
   refine Zg ?_
   obtain ⟨y1, hy1⟩ := Xv (show i < x.sv.l.length by omega)
   obtain ⟨y2, hy2⟩ := Xv (show i < x.gv.l.length by have := hev.2; omega)
   obtain ⟨y3, hy3⟩ := Xv (show i < x.sh.l.length by have := hev.1; omega)
   have hy := cls_at hy1 hy2 hy3
   obtain ⟨i1, p11, p12, ss1⟩ := hx.1.isS (i := i) (by omega)
   obtain ⟨i2, p21, p22, ss2⟩ := hx.2.1.isS (i := i) (by have := hev.2; omega)
   obtain ⟨i3, p31, p32, ss3⟩ := hx.2.2.1.isS (i := i) (by have := hev.1; omega)
   refine Ya (Lq := []) (isq := []) (m := 26) Ym rfl rfl ?_
   refine Zh 1 rfl rfl rfl rfl (by kernel_rfl) (fun _ _ => Zc rfl rfl) ?_
   refine Zh 2 rfl rfl rfl rfl (by kernel_rfl) (fun _ _ => Ze rfl rfl) ?_
   refine Zh 3 rfl rfl rfl rfl (by kernel_rfl) (fun _ _ => Zb (fo := 2) rfl Try.underlying103 rfl i_99 rfl rfl rfl) ?_
   refine Zh 4 rfl rfl rfl rfl (by kernel_rfl) (fun _ _ => Zj rfl rfl (List.mem_append_left _ (Zf 0 rfl)) rfl Try.underlying99 rfl) ?_
   rw [p11]
   refine Zh 5 rfl rfl rfl rfl (by kernel_rfl) (fun _ _ => Zc rfl rfl) ?_
   refine Zh 6 rfl rfl rfl rfl (by kernel_rfl) (fun _ _ => Zl (s := 1) rfl Try.underlying99 i_3 rfl rfl rfl rfl (by omega)) ?_
   refine Zh 7 rfl rfl rfl rfl (by kernel_rfl) (fun _ _ => Zj rfl rfl (by rw [← Yg p12]; exact Zf 1 rfl) (Zr (Ys ss1 i1_len hy1 0 (by omega) rfl)) Try.underlying3 rfl) ?_
   refine Zh 8 rfl rfl rfl rfl (by kernel_rfl) (fun _ _ => Zc rfl rfl) ?_
   refine Zh 9 rfl rfl rfl rfl (by kernel_rfl) (fun _ _ => Ze rfl rfl) ?_
   refine Zh 10 rfl rfl rfl rfl (by kernel_rfl) (fun _ _ => Zb (fo := 4) rfl Try.underlying103 rfl i_101 rfl rfl rfl) ?_
   refine Zh 11 rfl rfl rfl rfl (by kernel_rfl) (fun _ _ => Zj rfl rfl (List.mem_append_left _ (Zf 0 rfl)) rfl Try.underlying101 rfl) ?_
   rw [p21]
   refine Zh 12 rfl rfl rfl rfl (by kernel_rfl) (fun _ _ => Zc rfl rfl) ?_
   refine Zh 13 rfl rfl rfl rfl (by kernel_rfl) (fun _ _ => Zl (s := 1) rfl Try.underlying101 i_4 rfl rfl rfl rfl (by omega)) ?_
   refine Zh 14 rfl rfl rfl rfl (by kernel_rfl) (fun _ _ => Zj rfl rfl (by rw [← Yg p22]; exact Zf 2 rfl) (Zr (Ys ss2 bC_len hy2 0 (by omega) rfl)) Try.underlying4 rfl) ?_
   refine Zh 15 rfl rfl rfl rfl (by kernel_rfl) (fun _ _ => Zc rfl rfl) ?_
   refine Zh 16 rfl rfl rfl rfl (by kernel_rfl) (fun _ _ => Ze rfl rfl) ?_
   refine Zh 17 rfl rfl rfl rfl (by kernel_rfl) (fun _ _ => Zb (fo := 3) rfl Try.underlying103 rfl i_100 rfl rfl rfl) ?_
   refine Zh 18 rfl rfl rfl rfl (by kernel_rfl) (fun _ _ => Zj rfl rfl (List.mem_append_left _ (Zf 0 rfl)) rfl Try.underlying100 rfl) ?_
   rw [p31]
   refine Zh 19 rfl rfl rfl rfl (by kernel_rfl) (fun _ _ => Zc rfl rfl) ?_
   refine Zh 20 rfl rfl rfl rfl (by kernel_rfl) (fun _ _ => Zl (s := 1) rfl Try.underlying100 i_109 rfl rfl rfl rfl (by omega)) ?_
   refine Zh 21 rfl rfl rfl rfl (by kernel_rfl) (fun _ _ => Zj rfl rfl (by rw [← Yg p32]; exact Zf 3 rfl) (Zr (Ys ss3 shC_len hy3 0 (by omega) rfl)) Try.underlying109 rfl) ?_
   refine Zh 22 rfl rfl rfl rfl (by kernel_rfl) (fun _ _ => V_buildS (cs := [_, _, _]) rfl Try.underlying250 i_250 rfl p_250 rfl rfl rfl) ?_
   refine GH_all [0, 23] (by kernel_rfl) (by decide) ?_
   refine (And.intro ?_ (And.intro ?_ trivial))
   ·
    refine Xn rfl rfl rfl rfl (Zj rfl rfl (List.mem_append_right _ (Zf 0 rfl)) rfl Try.underlying248 rfl) ?_
    refine GH_all [23] (by kernel_rfl) (by decide) ?_
    refine (And.intro ?_ trivial)
    ·
     refine Yz rfl rfl rfl rfl (Zn (s := 3) (cs := [_, _, _]) rfl Try.underlying248 i_250 rfl rfl rfl rfl rfl rfl rfl rfl rfl) [] (fun _ => ⟨_, rfl⟩) (fun b78 => ?_)
     refine GH_all [24] (by kernel_rfl) (by decide) ?_
     refine (And.intro ?_ trivial)
     ·
      refine Xf (l1 := [_, _]) (s := v) (nn := i) (m := 1) (news := (cCl ⟨y1, y2, y3⟩)) (bt := 40) rfl rfl rfl rfl Try.underlying248 Try.underlying248 (by first | exact .inl rfl | exact .inr ⟨_, rfl⟩) i_250 rfl rfl rfl rfl rfl rfl hv rfl (Yp (List.mem_append_right _ (Zf 0 rfl)) rfl rfl (by simp [cCl, Value.oneCell'])) (by omega) (by omega) [] (fun _ => ⟨_, rfl⟩) ?_
      intro w1 hw1 _
      show GH _ _ _ _ _ _ _ [_, _, _, _, _] _
      refine GH_all [25] (by kernel_rfl) (by decide) ?_
      refine (And.intro ?_ trivial)
      ·
       refine Xi (l1 := [_]) (L' := [_, _, _, _, _]) rfl rfl rfl rfl (Zq rfl rfl rfl (Zf 1 rfl) (by first | exact of_decide_eq_true rfl | omega | (simp [cOp, cWk, cIv, cHr, cLt, cWt, cIt, cFl, cTn, cCl, cPo]; done) | (simp [cOp, cWk, cIv, cHr, cLt, cWt, cIt, cFl, cTn, cCl, cPo]; omega) | (simp [cOp, cWk, cIv, cHr, cLt, cWt, cIt, cFl, cTn, cCl, cPo] at *; omega)) i_248 rfl rfl) rfl [] rfl ?_
       refine Zw (by kernel_rfl) ?_
       refine Zs ?_
       refine Zd (l := [0, 1]) rfl ?_
       refine Za rfl rfl rfl rfl ((Yu rfl rfl rfl).int (Zv (by omega))) ?_
       refine Za rfl rfl rfl rfl (Zc rfl rfl) ?_
       refine Zg ?_
       refine Yc ?_ [1, 1, 1, 1] ?_ (ih (i + 1, w1) ?_ ?_)
       · (refine (And.intro ?_ (And.intro ?_ (And.intro ?_ (And.intro ?_ (And.intro ?_ trivial))))) <;> first | rfl | exact Zm (by omega) | exact Zm (by simp))
       · exact ⟨_, rfl⟩
       · exact ⟨by omega, by obtain ⟨hci, hce⟩ := List.getElem?_eq_some_iff.1 hy; rw [List.take_succ_eq_append_getElem hci, List.flatMap_append, hce, List.flatMap_singleton]; exact hw1⟩
       · (first | omega | (dsimp only; omega))
   ·
    refine Yz rfl rfl rfl rfl (Zn (s := 3) (cs := [_, _, _]) rfl Try.underlying248 i_250 rfl rfl rfl rfl rfl rfl rfl rfl rfl) [] (fun _ => ⟨_, rfl⟩) (fun b78 => ?_)
    refine GH_all [0] (by kernel_rfl) (by decide) ?_
    refine (And.intro ?_ trivial)
    ·
     refine Xn rfl rfl rfl rfl (Zj rfl rfl (List.mem_append_right _ (Zf 1 rfl)) rfl Try.underlying248 rfl) ?_
     refine GH_all [24] (by kernel_rfl) (by decide) ?_
     refine (And.intro ?_ trivial)
     ·
      refine Xf (l1 := [_, _]) (s := v) (nn := i) (m := 1) (news := (cCl ⟨y1, y2, y3⟩)) (bt := 40) rfl rfl rfl rfl Try.underlying248 Try.underlying248 (by first | exact .inl rfl | exact .inr ⟨_, rfl⟩) i_250 rfl rfl rfl rfl rfl rfl hv rfl (Yp (List.mem_append_right _ (Zf 0 rfl)) rfl rfl (by simp [cCl, Value.oneCell'])) (by omega) (by omega) [] (fun _ => ⟨_, rfl⟩) ?_
      intro w1 hw1 _
      show GH _ _ _ _ _ _ _ [_, _, _, _, _] _
      refine GH_all [25] (by kernel_rfl) (by decide) ?_
      refine (And.intro ?_ trivial)
      ·
       refine Xi (l1 := [_]) (L' := [_, _, _, _, _]) rfl rfl rfl rfl (Zq rfl rfl rfl (Zf 1 rfl) (by first | exact of_decide_eq_true rfl | omega | (simp [cOp, cWk, cIv, cHr, cLt, cWt, cIt, cFl, cTn, cCl, cPo]; done) | (simp [cOp, cWk, cIv, cHr, cLt, cWt, cIt, cFl, cTn, cCl, cPo]; omega) | (simp [cOp, cWk, cIv, cHr, cLt, cWt, cIt, cFl, cTn, cCl, cPo] at *; omega)) i_248 rfl rfl) rfl [] rfl ?_
       refine Zw (by kernel_rfl) ?_
       refine Zs ?_
       refine Zd (l := [0, 1]) rfl ?_
       refine Za rfl rfl rfl rfl ((Yu rfl rfl rfl).int (Zv (by omega))) ?_
       refine Za rfl rfl rfl rfl (Zc rfl rfl) ?_
       refine Zg ?_
       refine Yc ?_ [1, 1, 1, 1] ?_ (ih (i + 1, w1) ?_ ?_)
       · (refine (And.intro ?_ (And.intro ?_ (And.intro ?_ (And.intro ?_ (And.intro ?_ trivial))))) <;> first | rfl | exact Zm (by omega) | exact Zm (by simp))
       · exact ⟨_, rfl⟩
       · exact ⟨by omega, by obtain ⟨hci, hce⟩ := List.getElem?_eq_some_iff.1 hy; rw [List.take_succ_eq_append_getElem hci, List.flatMap_append, hce, List.flatMap_singleton]; exact hw1⟩
       · (first | omega | (dsimp only; omega))
  refine Yx rfl ?_
  refine Zi ?_
  obtain rfl : i = (clsOf x).length := by omega
  rw [List.take_length] at hv
  refine Zd (l := [0, 1, 2, 3]) rfl ?_
  refine Za rfl rfl rfl rfl (Zc rfl rfl) ?_
  refine Za rfl rfl rfl rfl (Zc rfl rfl) ?_
  refine Za rfl rfl rfl rfl (V_func rfl rfl rfl) ?_
  refine Yn (L2 := [_, _]) rfl rfl rfl rfl rfl rfl Try.call143 (cw_listCl b _ _ _ _ hp1 hu1 b4 0 #[v.v (clsOf x).length] _ (0, 0) ⟨v.ob.map (fun b => ⟨b, 0, none⟩), v.ob, 0, v.cap, v.cs, 250, v.fz, clsOf x⟩ ⟨hv.le, hv.max, by show (clsOf x).length ≤ _; omega, .inl ⟨rfl, hv.sees⟩⟩ (cls_ok hx) rfl (by show (tx ++ encTs [x.n] ++ encIs [x.u]).length + (encL encCl (clsOf x)).length ≤ _; simp only [List.length_append]; omega)) [2, 2] rfl (sub_two (List.mem_append_right _ (Zf 0 rfl)) (List.mem_append_right _ (Zf 1 rfl)) (fun z hz => List.mem_append_left _ (List.mem_append_right ([_, _, _, _] : List HBk) (cls_sub z hz)))) ?_
  rintro v post ⟨rfl, p1, u1, hp1, hu1, rfl⟩
  show G _ _ _ [_, _, _, _] _
  refine Zg ?_
  refine Zi ?_
  refine Zi ?_
  refine Zd (l := [0, 1, 2, 3, 4]) rfl ?_
  refine Za rfl rfl rfl rfl (Zc rfl rfl) ?_
  refine Za rfl rfl rfl rfl (Ze rfl rfl) ?_
  refine Za rfl rfl rfl rfl (Zb (fo := 2) rfl Try.underlying80 rfl i_74 rfl rfl rfl) ?_
  refine Za rfl rfl rfl rfl (Zj rfl rfl (List.mem_append_right _ (Zf 0 rfl)) rfl Try.underlying74 rfl) ?_
  refine Za rfl rfl rfl rfl (V_peqlN rfl Try.underlying74 rfl rfl) ?_
  refine Zg ?_
  refine G_then rfl ?_
  refine Xa (post := [_, _]) Try.func104 rfl Zo [0, 0] rfl ?_
  dsimp only [packed]
  first
    | (have hev : ¬ EvenPo x := fun h => by have h1 := h.1; have h2 := h.2; first | contradiction | omega
       have e1 : tx ++ encPo x = tx ++ encTs [x.n] ++ encIs [x.u] := by simp only [encPo, if_neg hev, List.append_nil, List.append_assoc]
       have e2 : (w || badPo x) = true := by simp only [badPo, if_neg hev, Bool.or_true]
       rw [e1, e2]
       exact ⟨rfl, p1, u1, hp1, hu1, rfl⟩)
    | (refine ⟨rfl, p1, u1, hp1, ?_, ?_⟩
       · simpa only [encPo, if_pos hev, List.map_cons, List.map_nil, List.append_assoc] using hu1
       · simp only [encPo, badPo, if_pos hev, List.map_cons, List.map_nil, List.append_assoc, Bool.or_assoc])

end
end Go.Proofs.Ytjnaeoelnmhjfaa

set_option linter.unusedSimpArgs false
set_option linter.unusedVariables false
namespace Go.Proofs.Ytjnaeoelnmhjfaa
open Go Go.RowKit

section
theorem i_24 : Try.prog.info? 24 = some Try.t24 := by kernel_rfl
theorem i_25 : Try.prog.info? 25 = some Try.t25 := by kernel_rfl
theorem i_26 : Try.prog.info? 26 = some Try.t26 := by kernel_rfl
theorem i_27 : Try.prog.info? 27 = some Try.t27 := by kernel_rfl
theorem i_28 : Try.prog.info? 28 = some Try.t28 := by kernel_rfl
theorem i_29 : Try.prog.info? 29 = some Try.t29 := by kernel_rfl
theorem i_30 : Try.prog.info? 30 = some Try.t30 := by kernel_rfl
theorem i_80 : Try.prog.info? 80 = some Try.t80 := by kernel_rfl
theorem i_103 : Try.prog.info? 103 = some Try.t103 := by kernel_rfl
set_option maxRecDepth 100000 in
set_option maxHeartbeats 1000000 in
theorem cw_listPo (b : Nat) (p : Value) (u : Sl) (tx : List UInt8) (w : Bool) (hp : UsedOr b p) (hu : Txt u tx) (bx k : Nat) (cs : Array Value) (T : TypeId) (fz : Nat × Nat) (s : Ins Po) (hs : InsOk 5 cPo s) (hok : ∀ x ∈ s.l, OkPo x) (hk : cs[k]? = some (.slice s.p s.l.length s.cap)) (hl : tx.length + (encL encPo s.l).length ≤ 140737488350000) :
    Ct Try.prog 103 [.pointer (some ⟨b, 0, none⟩), .pointer (some ⟨bx, k, none⟩), .func (.func 104) #[.pointer (some ⟨b, 0, none⟩)] #[]] ((some bx, .cells cs T fz) :: (s.ob, .cells s.cs s.T s.fr) :: s.l.flatMap kPo) [(some b, .cells #[p, u.v (tx).length, .pointer none, .bool w] 80 (0, 0)), (u.ob, .cells u.cs 5 u.fz)] fun v post => v = .tuple #[] ∧ ∃ p1 u1, UsedOr b p1 ∧ Txt u1 (tx ++ encL encPo s.l) ∧ post = [(some b, .cells #[p1, u1.v (tx ++ encL encPo s.l).length, .pointer none, .bool (w || badL badPo s.l)] 80 (0, 0)), (u1.ob, .cells u1.cs 5 u1.fz)] := by
 have hl1 := hs.le
 have hl2 := hs.max
 have hln := hs.n
 have hcl := chainI_len (s.l.length : Int) (by omega) (by omega)
 have hl_ := hl
 unfold encL at hl_
 simp only [List.length_append] at hl_
 refine Yv Try.func103 rfl rfl (fun w0 => ?_)
 show G _ _ [(0, _), (1, _), (2, _)] _ _
 refine Zi ?_
 refine Zi ?_
 refine Zd (l := [0, 1, 2, 3, 4]) rfl ?_
 refine Za rfl rfl rfl rfl (Zc rfl rfl) ?_
 refine Za rfl rfl rfl rfl (Ze rfl rfl) ?_
 refine Za rfl rfl rfl rfl (Zb (fo := 2) rfl Try.underlying80 rfl i_74 rfl rfl rfl) ?_
 refine Za rfl rfl rfl rfl (Zj rfl rfl (List.mem_append_right _ (Zf 0 rfl)) rfl Try.underlying74 rfl) ?_
 refine Za rfl rfl rfl rfl (V_peqlN rfl Try.underlying74 rfl rfl) ?_
 refine Zg ?_
 refine G_then rfl ?_
 refine Zi ?_
 refine Zd (l := [0, 1, 2, 3, 4, 5, 6, 7, 8, 9, 10, 11, 12, 13, 14]) rfl ?_
 refine Za rfl rfl rfl rfl (Zc rfl rfl) ?_
 refine Za rfl rfl rfl rfl (Zc rfl rfl) ?_
 refine Za rfl rfl rfl rfl (Ze rfl rfl) ?_
 refine Za rfl rfl rfl rfl (Zb (fo := 3) rfl Try.underlying80 rfl i_4 rfl rfl rfl) ?_
 refine Za rfl rfl rfl rfl (Zj rfl rfl (List.mem_append_right _ (Zf 0 rfl)) rfl Try.underlying4 rfl) ?_
 refine Za rfl rfl rfl rfl (Zc rfl rfl) ?_
 refine G_split 19 rfl (fun hc1 => ?_) (fun hc1 => ?_)
 ·
  refine Zt rfl rfl rfl rfl ?_
  refine Zt rfl rfl rfl rfl ?_
  refine Zt rfl rfl rfl rfl ?_
  refine Zt rfl rfl rfl rfl ?_
  refine Zt rfl rfl rfl rfl ?_
  refine Za rfl rfl rfl rfl (Yk rfl rfl rfl) ?_
  refine Za rfl rfl rfl rfl (Ze rfl rfl) ?_
  refine Za rfl rfl rfl rfl (Zb (fo := 3) rfl Try.underlying80 rfl i_4 rfl rfl rfl) ?_
  refine Xl (l1 := []) (L' := [_, _]) rfl rfl rfl rfl (Zq rfl rfl rfl (Zf 0 rfl) (by first | exact of_decide_eq_true rfl | omega | (simp [cOp, cWk, cIv, cHr, cLt, cWt, cIt, cFl, cTn, cCl, cPo]; done) | (simp [cOp, cWk, cIv, cHr, cLt, cWt, cIt, cFl, cTn, cCl, cPo]; omega) | (simp [cOp, cWk, cIv, cHr, cLt, cWt, cIt, cFl, cTn, cCl, cPo] at *; omega)) i_4 rfl rfl) rfl ?_
  refine Zg ?_
  refine Zi ?_
  refine Ya (Lq := []) (isq := []) (m := 10) Ym rfl rfl ?_
  refine Zh 0 rfl rfl rfl rfl (by kernel_rfl) (fun _ _ => Zc rfl rfl) ?_
  refine Zh 1 rfl rfl rfl rfl (by kernel_rfl) (fun _ _ => Ze rfl rfl) ?_
  refine Zh 2 rfl rfl rfl rfl (by kernel_rfl) (fun _ _ => Zb (fo := 0) rfl Try.underlying80 rfl i_78 rfl rfl rfl) ?_
  refine Zh 3 rfl rfl rfl rfl (by kernel_rfl) (fun _ _ => Zc rfl rfl) ?_
  refine Zh 4 rfl rfl rfl rfl (by kernel_rfl) (fun _ _ => Ze rfl rfl) ?_
  refine Zh 5 rfl rfl rfl rfl (by kernel_rfl) (fun _ _ => Zj rfl rfl (List.mem_append_left _ (Zf 0 rfl)) (Zr hk) Try.underlying27 rfl) ?_
  refine Zh 6 rfl rfl rfl rfl (by kernel_rfl) (fun _ _ => Yf rfl rfl Try.underlying27 rfl) ?_
  refine Zh 7 rfl rfl rfl rfl (by kernel_rfl) (fun _ _ => (V_conv rfl rfl Try.underlying3 Try.underlying23).int (Xs (by omega))) ?_
  refine GH_all [8] (by kernel_rfl) (by decide) ?_
  refine (And.intro ?_ trivial)
  ·
   refine Xq (L2 := [_, _]) rfl rfl rfl rfl rfl rfl Try.call80 (Xw _ (by omega) (by omega)) [] rfl Yd [] (by rintro v post ⟨rfl, rfl⟩; exact ⟨_, rfl⟩) ?_
   rintro v post ⟨rfl, rfl⟩
   show GH _ _ _ _ _ _ _ [_, _] _
   refine GH_all [9] (by kernel_rfl) (by decide) ?_
   refine (And.intro ?_ trivial)
   ·
    refine Xq (L2 := []) rfl rfl rfl rfl rfl rfl Try.call79 (Xo _ _ _ _ _ _ _ hp hu (by omega)) [0, 0] rfl Yd [] (by rintro v post ⟨rfl, u1, hu1, rfl⟩; exact ⟨_, rfl⟩) ?_
    rintro v post ⟨rfl, u1, hu1, rfl⟩
    show GH _ _ _ _ _ _ _ [_, _] _
    refine Zw (by kernel_rfl) ?_
    refine Zi ?_
    refine Zi ?_
    refine Zd (l := [0, 1, 2, 3, 4]) rfl ?_
    refine Za rfl rfl rfl rfl (Zc rfl rfl) ?_
    refine Za rfl rfl rfl rfl (Ze rfl rfl) ?_
    refine Za rfl rfl rfl rfl (Zj rfl rfl (List.mem_append_left _ (Zf 0 rfl)) (Zr hk) Try.underlying27 rfl) ?_
    refine Za rfl rfl rfl rfl (Yf rfl rfl Try.underlying27 rfl) ?_
    refine Za rfl rfl rfl rfl (Zc rfl rfl) ?_
    refine Zg ?_
    refine Zp ?_
    refine Yc ?he4 [0, 0] ?hl4 (Xc (X := Nat × Value × Sl × List UInt8 × Bool) (fun x_ => match x_ with | ⟨i, p, u, t, v⟩ => i ≤ s.l.length ∧ UsedOr b p ∧ Txt u t ∧ t = tx ++ (chainI (s.l.length : Int) ++ (s.l.take i).flatMap encPo) ∧ v = (w || (decide (1000 < (s.l.length : Int)) || (s.l.take i).any badPo))) (fun x_ => match x_ with | ⟨i, p, u, t, v⟩ => s.l.length - i) (fun x_ => match x_ with | ⟨i, p, u, t, v⟩ => [(0, .pointer (some ⟨b, 0, none⟩)), (1, .pointer (some ⟨bx, k, none⟩)), (2, .func (.func 104) #[.pointer (some ⟨b, 0, none⟩)] #[]), (41, .int .i64 (s.l.length : Int)), (42, .int .i64 (i : Int))]) (fun x_ => match x_ with | ⟨i, p, u, t, v⟩ => [(some b, .cells #[p, u.v (t).length, .pointer none, .bool v] 80 (0, 0)), (u.ob, .cells u.cs 5 u.fz)]) ?round4 (0, .pointer (some ⟨b, 0, none⟩), u1, tx ++ chainI (s.l.length : Int), true) ?h04)
    case he4 => exact (And.intro rfl (And.intro rfl (And.intro rfl (And.intro rfl (And.intro rfl trivial)))))
    case hl4 => exact ⟨_, rfl⟩
    case h04 => exact ⟨Nat.zero_le _, .inr rfl, hu1, by simp, by simp [*]⟩
    case round4 =>
     intro x_ hJ ih
     try dsimp only at hJ ih
     obtain ⟨i, p, u, t, v⟩ := x_
     try dsimp only at hJ ih
     obtain ⟨hi, hp, hu, ht, hv⟩ := hJ
     show G _ _ [(0, .pointer (some ⟨b, 0, none⟩)), (1, .pointer (some ⟨bx, k, none⟩)), (2, .func (.func 104) #[.pointer (some ⟨b, 0, none⟩)] #[]), (41, .int .i64 (s.l.length : Int)), (42, .int .i64 (i : Int))] [(some b, .cells #[p, u.v (t).length, .pointer none, .bool v] 80 (0, 0)), (u.ob, .cells u.cs 5 u.fz)] _
     refine Zi ?_
     refine Zd (l := [0]) rfl ?_
     refine Za rfl rfl rfl rfl (Xh rfl rfl rfl) ?_
     refine Zg ?_
     refine Zi ?_
     refine Yl rfl (fun hc2 => ?_) (fun hc2 => ?_)
     ·
      refine Zu ?_
      refine Zi ?_
      refine Zp ?_
      refine Zi ?_
      refine Zd (l := [0, 1]) rfl ?_
      refine Za rfl rfl rfl rfl (Zc rfl rfl) ?_
      refine Za rfl rfl rfl rfl (Zk rfl rfl) ?_
      refine Zg ?_
      refine Zi ?_
      obtain ⟨x, hx⟩ := Xv (show i < s.l.length by omega)
      obtain ⟨bi, hb1, hb2, hss⟩ := hs.isS (i := i) (by omega)
      have hxo := hok x (List.mem_of_getElem? hx)
      have hfl := fmap_len encPo s.l (i + 1)
      rw [← Yw encPo hx, List.length_append] at hfl
      have htl := congrArg List.length ht
      simp only [List.length_append] at htl
      refine Zd (l := [0, 1, 2, 3, 4, 5, 6, 7]) rfl ?_
      refine Za rfl rfl rfl rfl (Zc rfl rfl) ?_
      refine Za rfl rfl rfl rfl (Ze rfl rfl) ?_
      refine Za rfl rfl rfl rfl (Zj rfl rfl (List.mem_append_left _ (Zf 0 rfl)) (Zr hk) Try.underlying27 rfl) ?_
      rw [hb1]
      refine Za rfl rfl rfl rfl (Zc rfl rfl) ?_
      refine Za rfl rfl rfl rfl (Zl (s := 5) rfl Try.underlying27 i_103 rfl rfl rfl rfl (by omega)) ?_
      refine Za rfl rfl rfl rfl (Xm (s := 5) (vs := (cPo x).toArray) rfl rfl (by rw [← hb2]; exact Zf 1 rfl) Try.underlying103 rfl i_103 rfl (hss.elem cPo_len hx) (by rfl)) ?_
      refine Yr rfl rfl rfl rfl (Xb rfl i_103 rfl) (fun b7 => ?_)
      refine Xl (l1 := []) (L' := [_, _, _]) rfl rfl rfl rfl (Xk (s := 5) rfl rfl rfl (Zf 0 rfl) (by rfl) i_103 rfl (by rfl) (by simp [Value.oneCell', cOp, cWk, cIv, cHr, cLt, cWt, cIt, cFl, cTn, cCl, cPo])) rfl ?_
      refine Zg ?_
      refine Zd (l := [0, 1]) rfl ?_
      refine Za rfl rfl rfl rfl (Zc rfl rfl) ?_
      refine G_callMB (L2 := [_]) rfl rfl rfl rfl rfl rfl Try.call104 rfl (cw_pool b _ _ _ _ hp hu _ x _ _ hxo (by omega)) [1, 1] rfl (sub_el (A1 := [_, _]) (K := kPo) hx (List.mem_append_right _ (Zf 0 rfl))) ?_
      rintro v post ⟨rfl, p1, u1, hp1, hu1, rfl⟩
      show G _ _ _ [_, _, _] _
      refine Zg ?_
      refine Zs ?_
      refine Zd (l := [0, 1]) rfl ?_
      refine Za rfl rfl rfl rfl ((Yu rfl rfl rfl).int (Zv (by omega))) ?_
      refine Za rfl rfl rfl rfl (Zc rfl rfl) ?_
      refine Zg ?_
      refine Yc ?_ [0, 0] ?_ (ih (i + 1, p1, u1, t ++ encPo x, v || badPo x) ?_ ?_)
      · (refine (And.intro ?_ (And.intro ?_ (And.intro ?_ (And.intro ?_ (And.intro ?_ trivial))))) <;> first | rfl | exact Zm (by omega) | exact Zm (by simp))
      · exact ⟨_, rfl⟩
      · exact ⟨by omega, hp1, hu1, by rw [← Yw encPo hx, ht]; simp only [List.append_assoc], by rw [hv, ← Xx hx]; simp only [Bool.or_assoc]⟩
      · (first | omega | (dsimp only; omega))
     refine Yx rfl ?_
     refine Xa (post := [_, _]) Try.func103 rfl Zo [0, 0] rfl ?_
     dsimp only [packed]
     have e : s.l.take i = s.l := List.take_of_length_le (by omega)
     rw [e] at ht hv
     subst ht hv
     exact ⟨rfl, p, u, hp, hu, rfl⟩
 refine Za rfl rfl rfl rfl (Zc rfl rfl) ?_
 refine Za rfl rfl rfl rfl (Ze rfl rfl) ?_
 refine Za rfl rfl rfl rfl (Zj rfl rfl (List.mem_append_left _ (Zf 0 rfl)) (Zr hk) Try.underlying27 rfl) ?_
 refine Za rfl rfl rfl rfl (Yf rfl rfl Try.underlying27 rfl) ?_
 refine Za rfl rfl rfl rfl (V_gtr rfl rfl rfl) ?_
 refine Za rfl rfl rfl rfl (Xu rfl rfl rfl) ?_
 refine Za rfl rfl rfl rfl (Ze rfl rfl) ?_
 refine Za rfl rfl rfl rfl (Zb (fo := 3) rfl Try.underlying80 rfl i_4 rfl rfl rfl) ?_
 refine Xl (l1 := []) (L' := [_, _]) rfl rfl rfl rfl (Zq rfl rfl rfl (Zf 0 rfl) (by first | exact of_decide_eq_true rfl | omega | (simp [cOp, cWk, cIv, cHr, cLt, cWt, cIt, cFl, cTn, cCl, cPo]; done) | (simp [cOp, cWk, cIv, cHr, cLt, cWt, cIt, cFl, cTn, cCl, cPo]; omega) | (simp [cOp, cWk, cIv, cHr, cLt, cWt, cIt, cFl, cTn, cCl, cPo] at *; omega)) i_4 rfl rfl) rfl ?_
 refine Zg ?_
 refine Zi ?_
 refine Ya (Lq := []) (isq := []) (m := 10) Ym rfl rfl ?_
 refine Zh 0 rfl rfl rfl rfl (by kernel_rfl) (fun _ _ => Zc rfl rfl) ?_
 refine Zh 1 rfl rfl rfl rfl (by kernel_rfl) (fun _ _ => Ze rfl rfl) ?_
 refine Zh 2 rfl rfl rfl rfl (by kernel_rfl) (fun _ _ => Zb (fo := 0) rfl Try.underlying80 rfl i_78 rfl rfl rfl) ?_
 refine Zh 3 rfl rfl rfl rfl (by kernel_rfl) (fun _ _ => Zc rfl rfl) ?_
 refine Zh 4 rfl rfl rfl rfl (by kernel_rfl) (fun _ _ => Ze rfl rfl) ?_
 refine Zh 5 rfl rfl rfl rfl (by kernel_rfl) (fun _ _ => Zj rfl rfl (List.mem_append_left _ (Zf 0 rfl)) (Zr hk) Try.underlying27 rfl) ?_
 refine Zh 6 rfl rfl rfl rfl (by kernel_rfl) (fun _ _ => Yf rfl rfl Try.underlying27 rfl) ?_
 refine Zh 7 rfl rfl rfl rfl (by kernel_rfl) (fun _ _ => (V_conv rfl rfl Try.underlying3 Try.underlying23).int (Xs (by omega))) ?_
 refine GH_all [8] (by kernel_rfl) (by decide) ?_
 refine (And.intro ?_ trivial)
 ·
  refine Xq (L2 := [_, _]) rfl rfl rfl rfl rfl rfl Try.call80 (Xw _ (by omega) (by omega)) [] rfl Yd [] (by rintro v post ⟨rfl, rfl⟩; exact ⟨_, rfl⟩) ?_
  rintro v post ⟨rfl, rfl⟩
  show GH _ _ _ _ _ _ _ [_, _] _
  refine GH_all [9] (by kernel_rfl) (by decide) ?_
  refine (And.intro ?_ trivial)
  ·
   refine Xq (L2 := []) rfl rfl rfl rfl rfl rfl Try.call79 (Xo _ _ _ _ _ _ _ hp hu (by omega)) [0, 0] rfl Yd [] (by rintro v post ⟨rfl, u1, hu1, rfl⟩; exact ⟨_, rfl⟩) ?_
   rintro v post ⟨rfl, u1, hu1, rfl⟩
   show GH _ _ _ _ _ _ _ [_, _] _
   refine Zw (by kernel_rfl) ?_
   refine Zi ?_
   refine Zi ?_
   refine Zd (l := [0, 1, 2, 3, 4]) rfl ?_
   refine Za rfl rfl rfl rfl (Zc rfl rfl) ?_
   refine Za rfl rfl rfl rfl (Ze rfl rfl) ?_
   refine Za rfl rfl rfl rfl (Zj rfl rfl (List.mem_append_left _ (Zf 0 rfl)) (Zr hk) Try.underlying27 rfl) ?_
   refine Za rfl rfl rfl rfl (Yf rfl rfl Try.underlying27 rfl) ?_
   refine Za rfl rfl rfl rfl (Zc rfl rfl) ?_
   refine Zg ?_
   refine Zp ?_
   refine Yc ?he4 [0, 0] ?hl4 (Xc (X := Nat × Value × Sl × List UInt8 × Bool) (fun x_ => match x_ with | ⟨i, p, u, t, v⟩ => i ≤ s.l.length ∧ UsedOr b p ∧ Txt u t ∧ t = tx ++ (chainI (s.l.length : Int) ++ (s.l.take i).flatMap encPo) ∧ v = (w || (decide (1000 < (s.l.length : Int)) || (s.l.take i).any badPo))) (fun x_ => match x_ with | ⟨i, p, u, t, v⟩ => s.l.length - i) (fun x_ => match x_ with | ⟨i, p, u, t, v⟩ => [(0, .pointer (some ⟨b, 0, none⟩)), (1, .pointer (some ⟨bx, k, none⟩)), (2, .func (.func 104) #[.pointer (some ⟨b, 0, none⟩)] #[]), (41, .int .i64 (s.l.length : Int)), (42, .int .i64 (i : Int))]) (fun x_ => match x_ with | ⟨i, p, u, t, v⟩ => [(some b, .cells #[p, u.v (t).length, .pointer none, .bool v] 80 (0, 0)), (u.ob, .cells u.cs 5 u.fz)]) ?round4 (0, .pointer (some ⟨b, 0, none⟩), u1, tx ++ chainI (s.l.length : Int), (decide (1000 < (s.l.length : Int)))) ?h04)
   case he4 => exact (And.intro rfl (And.intro rfl (And.intro rfl (And.intro rfl (And.intro rfl trivial)))))
   case hl4 => exact ⟨_, rfl⟩
   case h04 => exact ⟨Nat.zero_le _, .inr rfl, hu1, by simp, by simp [*]⟩
   case round4 =>
    intro x_ hJ ih
    try dsimp only at hJ ih
    obtain ⟨i, p, u, t, v⟩ := x_
    try dsimp only at hJ ih
    obtain ⟨hi, hp, hu, ht, hv⟩ := hJ
    show G _ _ [(0, .pointer (some ⟨b, 0, none⟩)), (1, .pointer (some ⟨bx, k, none⟩)), (2, .func (.func 104) #[.pointer (some ⟨b, 0, none⟩)] #[]), (41, .int .i64 (s.l.length : Int)), (42, .int .i64 (i : Int))] [(some b, .cells #[p, u.v (t).length, .pointer none, .bool v] 80 (0, 0)), (u.ob, .cells u.cs 5 u.fz)] _
    refine Zi ?_
    refine Zd (l := [0]) rfl ?_
    refine Za rfl rfl rfl rfl (Xh rfl rfl rfl) ?_
    refine Zg ?_
    refine Zi ?_
    refine Yl rfl (fun hc2 => ?_) (fun hc2 => ?_)
    ·
     refine Zu ?_
     refine Zi ?_
     refine Zp ?_
     refine Zi ?_
     refine Zd (l := [0, 1]) rfl ?_
     refine Za rfl rfl rfl rfl (Zc rfl rfl) ?_
     refine Za rfl rfl rfl rfl (Zk rfl rfl) ?_
     refine Zg ?_
     refine Zi ?_
     obtain ⟨x, hx⟩ := Xv (show i < s.l.length by omega)
     obtain ⟨bi, hb1, hb2, hss⟩ := hs.isS (i := i) (by omega)
     have hxo := hok x (List.mem_of_getElem? hx)
     have hfl := fmap_len encPo s.l (i + 1)
     rw [← Yw encPo hx, List.length_append] at hfl
     have htl := congrArg List.length ht
     simp only [List.length_append] at htl
     refine Zd (l := [0, 1, 2, 3, 4, 5, 6, 7]) rfl ?_
     refine Za rfl rfl rfl rfl (Zc rfl rfl) ?_
     refine Za rfl rfl rfl rfl (Ze rfl rfl) ?_
     refine Za rfl rfl rfl rfl (Zj rfl rfl (List.mem_append_left _ (Zf 0 rfl)) (Zr hk) Try.underlying27 rfl) ?_
     rw [hb1]
     refine Za rfl rfl rfl rfl (Zc rfl rfl) ?_
     refine Za rfl rfl rfl rfl (Zl (s := 5) rfl Try.underlying27 i_103 rfl rfl rfl rfl (by omega)) ?_
     refine Za rfl rfl rfl rfl (Xm (s := 5) (vs := (cPo x).toArray) rfl rfl (by rw [← hb2]; exact Zf 1 rfl) Try.underlying103 rfl i_103 rfl (hss.elem cPo_len hx) (by rfl)) ?_
     refine Yr rfl rfl rfl rfl (Xb rfl i_103 rfl) (fun b7 => ?_)
     refine Xl (l1 := []) (L' := [_, _, _]) rfl rfl rfl rfl (Xk (s := 5) rfl rfl rfl (Zf 0 rfl) (by rfl) i_103 rfl (by rfl) (by simp [Value.oneCell', cOp, cWk, cIv, cHr, cLt, cWt, cIt, cFl, cTn, cCl, cPo])) rfl ?_
     refine Zg ?_
     refine Zd (l := [0, 1]) rfl ?_
     refine Za rfl rfl rfl rfl (Zc rfl rfl) ?_
     refine G_callMB (L2 := [_]) rfl rfl rfl rfl rfl rfl Try.call104 rfl (cw_pool b _ _ _ _ hp hu _ x _ _ hxo (by omega)) [1, 1] rfl (sub_el (A1 := [_, _]) (K := kPo) hx (List.mem_append_right _ (Zf 0 rfl))) ?_
     rintro v post ⟨rfl, p1, u1, hp1, hu1, rfl⟩
     show G _ _ _ [_, _, _] _
     refine Zg ?_
     refine Zs ?_
     refine Zd (l := [0, 1]) rfl ?_
     refine Za rfl rfl rfl rfl ((Yu rfl rfl rfl).int (Zv (by omega))) ?_
     refine Za rfl rfl rfl rfl (Zc rfl rfl) ?_
     refine Zg ?_
     refine Yc ?_ [0, 0] ?_ (ih (i + 1, p1, u1, t ++ encPo x, v || badPo x) ?_ ?_)
     · (refine (And.intro ?_ (And.intro ?_ (And.intro ?_ (And.intro ?_ (And.intro ?_ trivial))))) <;> first | rfl | exact Zm (by omega) | exact Zm (by simp))
     · exact ⟨_, rfl⟩
     · exact ⟨by omega, hp1, hu1, by rw [← Yw encPo hx, ht]; simp only [List.append_assoc], by rw [hv, ← Xx hx]; simp only [Bool.or_assoc]⟩
     · (first | omega | (dsimp only; omega))
    refine Yx rfl ?_
    refine Xa (post := [_, _]) Try.func103 rfl Zo [0, 0] rfl ?_
    dsimp only [packed]
    have e : s.l.take i = s.l := List.take_of_length_le (by omega)
    rw [e] at ht hv
    subst ht hv
    exact ⟨rfl, p, u, hp, hu, rfl⟩


/-- All that there is, as the program has it. -/
structure St where
  v0 : Nat
  g : Bool
  v2 : Int
  v3 : Int
  v4 : Int
  v5 : Int
  v6 : Int
  li : Ins Op
  en : Ins Op
  wo : Ins Wk
  iv : Ins Iv
  po : Ins Po
  hi : Ins Hr
  le : Ins Lt
  wa : Ins Wt
def cSt (x : St) : List Value := [.int .u64 (x.v0 : Int), .bool x.g, .int .i64 x.v2, .int .i64 x.v3, .int .i64 x.v4, .int .i64 x.v5, .int .i64 x.v6, .slice x.li.p x.li.l.length x.li.cap, .slice x.en.p x.en.l.length x.en.cap, .slice x.wo.p x.wo.l.length x.wo.cap, .slice x.iv.p x.iv.l.length x.iv.cap, .slice x.po.p x.po.l.length x.po.cap, .slice x.hi.p x.hi.l.length x.hi.cap, .slice x.le.p x.le.l.length x.le.cap, .slice x.wa.p x.wa.l.length x.wa.cap]
def encSt (x : St) : List UInt8 := chainI (x.v0 : Int) ++ (encB x.g ++ (encIs [x.v2, x.v3, x.v4, x.v5, x.v6] ++ (encL encOp x.li.l ++ (encL encOp x.en.l ++ (encL encWk x.wo.l ++ (encL encIv x.iv.l ++ (encL encPo x.po.l ++ (encL encHr x.hi.l ++ (encL encLt x.le.l ++ (encL encWt x.wa.l))))))))))
def badSt (x : St) : Bool := [x.v2, x.v3, x.v4, x.v5, x.v6].any badI || (badL badOp x.li.l || (badL badOp x.en.l || (badL badWk x.wo.l || (badL badIv x.iv.l || (badL badPo x.po.l || (badL badHr x.hi.l || (badL badLt x.le.l || (badL badWt x.wa.l))))))))
structure OkSt (x : St) : Prop where
  v0 : x.v0 < 18446744073709551616
  li : InsOk 18 cOp x.li
  li2 : ∀ y ∈ x.li.l, OkOp y
  en : InsOk 18 cOp x.en
  en2 : ∀ y ∈ x.en.l, OkOp y
  wo : InsOk 7 cWk x.wo
  wo2 : ∀ y ∈ x.wo.l, OkWk y
  iv : InsOk 5 cIv x.iv
  iv2 : ∀ y ∈ x.iv.l, OkIv y
  po : InsOk 5 cPo x.po
  po2 : ∀ y ∈ x.po.l, OkPo y
  hi : InsOk 17 cHr x.hi
  hi2 : ∀ y ∈ x.hi.l, OkHr y
  le : InsOk 6 cLt x.le
  le2 : ∀ y ∈ x.le.l, OkLt y
  wa : InsOk 2 cWt x.wa
  wa2 : ∀ y ∈ x.wa.l, OkWt y
def kSt (x : St) : List HBk := insK x.li :: insK x.en :: insK x.wo :: insK x.iv :: insK x.po :: insK x.hi :: insK x.le :: insK x.wa :: x.po.l.flatMap kPo
theorem sub_po {A0 A1 A2 L tl : List HBk} {a b : HBk} (ha : a ∈ (A0 ++ tl) ++ L) (hb : b ∈ (A0 ++ tl) ++ L) : ∀ z ∈ a :: b :: tl, z ∈ (A0 ++ tl) ++ L :=
  sub_two ha hb (fun _ hz => List.mem_append_left _ (List.mem_append_right _ hz))

set_option maxRecDepth 100000 in
set_option maxHeartbeats 4000000 in
theorem cw_state (b : Nat) (p : Value) (u : Sl) (tx : List UInt8) (w : Bool) (hp : UsedOr b p) (hu : Txt u tx) (bx : Nat) (x : St) (T : TypeId) (fz : Nat × Nat) (hx : OkSt x) (hl : tx.length + (encSt x).length ≤ 140737488350000) :
    Ct Try.prog 34 [.pointer (some ⟨b, 0, none⟩), .pointer (some ⟨bx, 0, none⟩)] ((some bx, .cells (cSt x).toArray T fz) :: insK x.li :: insK x.en :: insK x.wo :: insK x.iv :: insK x.po :: insK x.hi :: insK x.le :: insK x.wa :: x.po.l.flatMap kPo) [(some b, .cells #[p, u.v (tx).length, .pointer none, .bool w] 80 (0, 0)), (u.ob, .cells u.cs 5 u.fz)] fun v post => v = .tuple #[] ∧ ∃ p1 u1, UsedOr b p1 ∧ Txt u1 (tx ++ encSt x) ∧ post = [(some b, .cells #[p1, u1.v (tx ++ encSt x).length, .pointer none, .bool (w || badSt x)] 80 (0, 0)), (u1.ob, .cells u1.cs 5 u1.fz)] := by
 have hl_ := hl
 unfold encSt at hl_
 simp only [List.length_append] at hl_
 refine Yv Try.func34 rfl rfl (fun w0 => ?_)
 show G _ _ [(0, _), (1, _)] _ _
 refine Zi ?_
 refine Zd (l := [0, 1, 2, 3, 4]) rfl ?_
 refine Za rfl rfl rfl rfl (Zc rfl rfl) ?_
 refine Za rfl rfl rfl rfl (Zc rfl rfl) ?_
 refine Za rfl rfl rfl rfl (Ze rfl rfl) ?_
 refine Za rfl rfl rfl rfl (Zb (fo := 0) rfl Try.underlying32 rfl i_23 rfl rfl rfl) ?_
 refine Yn (L2 := []) rfl rfl rfl rfl rfl rfl Try.call94 (cw_num b _ _ _ _ hp hu bx 0 (cSt x).toArray T fz x.v0 hx.v0 rfl (by (try simp only [List.map_cons, List.map_nil, List.length_append]); omega)) [0, 0] rfl (Yb (List.mem_append_left _ (Zf 0 rfl)) Yd) ?_
 rintro v post ⟨rfl, p1, u1, hp1, hu1, rfl⟩
 show G _ _ _ [_, _] _
 refine Zg ?_
 refine Zi ?_
 refine Zd (l := [0, 1, 2, 3, 4]) rfl ?_
 refine Za rfl rfl rfl rfl (Zc rfl rfl) ?_
 refine Za rfl rfl rfl rfl (Zc rfl rfl) ?_
 refine Za rfl rfl rfl rfl (Ze rfl rfl) ?_
 refine Za rfl rfl rfl rfl (Zb (fo := 1) rfl Try.underlying32 rfl i_4 rfl rfl rfl) ?_
 refine Yn (L2 := []) rfl rfl rfl rfl rfl rfl Try.call95 (cw_flag b _ _ _ _ hp1 hu1 bx 1 (cSt x).toArray T fz x.g rfl (by (try simp only [List.map_cons, List.map_nil, List.length_append]); omega)) [0, 0] rfl (Yb (List.mem_append_left _ (Zf 0 rfl)) Yd) ?_
 rintro v post ⟨rfl, p1, u1, hp1, hu1, rfl⟩
 show G _ _ _ [_, _] _
 refine Zg ?_
 refine Zi ?_
 refine Ya (Lq := []) (isq := []) (m := 18) Ym rfl rfl ?_
 refine Zh 0 rfl rfl rfl rfl (by kernel_rfl) (fun _ _ => Zc rfl rfl) ?_
 refine Zh 1 rfl rfl rfl rfl (by kernel_rfl) (fun _ _ => Zc rfl rfl) ?_
 refine Zh 2 rfl rfl rfl rfl (by kernel_rfl) (fun _ _ => Ze rfl rfl) ?_
 refine Zh 3 rfl rfl rfl rfl (by kernel_rfl) (fun _ _ => Zb (fo := 2) rfl Try.underlying32 rfl i_3 rfl rfl rfl) ?_
 refine Zh 4 rfl rfl rfl rfl (by kernel_rfl) (fun _ _ => Zc rfl rfl) ?_
 refine Zh 5 rfl rfl rfl rfl (by kernel_rfl) (fun _ _ => Ze rfl rfl) ?_
 refine Zh 6 rfl rfl rfl rfl (by kernel_rfl) (fun _ _ => Zb (fo := 3) rfl Try.underlying32 rfl i_3 rfl rfl rfl) ?_
 refine Zh 7 rfl rfl rfl rfl (by kernel_rfl) (fun _ _ => Zc rfl rfl) ?_
 refine Zh 8 rfl rfl rfl rfl (by kernel_rfl) (fun _ _ => Ze rfl rfl) ?_
 refine Zh 9 rfl rfl rfl rfl (by kernel_rfl) (fun _ _ => Zb (fo := 4) rfl Try.underlying32 rfl i_3 rfl rfl rfl) ?_
 refine Zh 10 rfl rfl rfl rfl (by kernel_rfl) (fun _ _ => Zc rfl rfl) ?_
 refine Zh 11 rfl rfl rfl rfl (by kernel_rfl) (fun _ _ => Ze rfl rfl) ?_
 refine Zh 12 rfl rfl rfl rfl (by kernel_rfl) (fun _ _ => Zb (fo := 5) rfl Try.underlying32 rfl i_3 rfl rfl rfl) ?_
 refine Zh 13 rfl rfl rfl rfl (by kernel_rfl) (fun _ _ => Zc rfl rfl) ?_
 refine Zh 14 rfl rfl rfl rfl (by kernel_rfl) (fun _ _ => Ze rfl rfl) ?_
 refine Zh 15 rfl rfl rfl rfl (by kernel_rfl) (fun _ _ => Zb (fo := 6) rfl Try.underlying32 rfl i_3 rfl rfl rfl) ?_
 refine GH_all [16] (by kernel_rfl) (by decide) ?_
 refine (And.intro ?_ trivial)
 ·
  refine Yz rfl rfl rfl rfl (Zn (s := 1) (cs := [_, _, _, _, _]) rfl Try.underlying241 i_176 rfl rfl rfl rfl rfl rfl rfl rfl rfl) [] (fun _ => ⟨_, rfl⟩) (fun b30 => ?_)
  refine GH_all [17] (by kernel_rfl) (by decide) ?_
  refine (And.intro ?_ trivial)
  ·
   refine Xq (L2 := [_]) rfl rfl rfl rfl rfl rfl Try.call96 (cw_intsL b _ _ _ _ hp1 hu1 _ _ bx (cSt x).toArray T fz [(2, x.v2), (3, x.v3), (4, x.v4), (5, x.v5), (6, x.v6)] (by simp) ⟨rfl, rfl, rfl, rfl, rfl, trivial⟩ (by (try simp only [List.map_cons, List.map_nil, List.length_append]); omega)) [1, 1] rfl (Yb (List.mem_append_right _ (Zf 0 rfl)) (Yb (List.mem_append_left _ (Zf 0 rfl)) Yd)) [] (by rintro v post ⟨rfl, p1, u1, hp1, hu1, rfl⟩; exact ⟨_, rfl⟩) ?_
   rintro v post ⟨rfl, p1, u1, hp1, hu1, rfl⟩
   show GH _ _ _ _ _ _ _ [_, _, _] _
   refine Zw (by kernel_rfl) ?_
   refine Zi ?_
   refine Zd (l := [0, 1, 2, 3, 4, 5, 6]) rfl ?_
   refine Za rfl rfl rfl rfl (Zc rfl rfl) ?_
   refine Za rfl rfl rfl rfl (Zc rfl rfl) ?_
   refine Za rfl rfl rfl rfl (Ze rfl rfl) ?_
   refine Za rfl rfl rfl rfl (Zb (fo := 7) rfl Try.underlying32 rfl i_24 rfl rfl rfl) ?_
   refine Za rfl rfl rfl rfl (Zc rfl rfl) ?_
   refine Za rfl rfl rfl rfl (V_func rfl rfl rfl) ?_
   refine Yn (L2 := [_]) rfl rfl rfl rfl rfl rfl Try.call97 (cw_listOp b _ _ _ _ hp1 hu1 bx 7 (cSt x).toArray T fz x.li hx.li hx.li2 rfl (by (try simp only [List.map_cons, List.map_nil, List.length_append]); omega)) [0, 0] rfl (Yb (List.mem_append_left _ (Zf 0 rfl)) (Yb (List.mem_append_left _ (Zf 1 rfl)) Yd)) ?_
   rintro v post ⟨rfl, p1, u1, hp1, hu1, rfl⟩
   show G _ _ _ [_, _, _] _
   refine Zg ?_
   refine Zi ?_
   refine Zd (l := [0, 1, 2, 3, 4, 5, 6]) rfl ?_
   refine Za rfl rfl rfl rfl (Zc rfl rfl) ?_
   refine Za rfl rfl rfl rfl (Zc rfl rfl) ?_
   refine Za rfl rfl rfl rfl (Ze rfl rfl) ?_
   refine Za rfl rfl rfl rfl (Zb (fo := 8) rfl Try.underlying32 rfl i_24 rfl rfl rfl) ?_
   refine Za rfl rfl rfl rfl (Zc rfl rfl) ?_
   refine Za rfl rfl rfl rfl (V_func rfl rfl rfl) ?_
   refine Yn (L2 := [_]) rfl rfl rfl rfl rfl rfl Try.call97 (cw_listOp b _ _ _ _ hp1 hu1 bx 8 (cSt x).toArray T fz x.en hx.en hx.en2 rfl (by (try simp only [List.map_cons, List.map_nil, List.length_append]); omega)) [0, 0] rfl (Yb (List.mem_append_left _ (Zf 0 rfl)) (Yb (List.mem_append_left _ (Zf 2 rfl)) Yd)) ?_
   rintro v post ⟨rfl, p1, u1, hp1, hu1, rfl⟩
   show G _ _ _ [_, _, _] _
   refine Zg ?_
   refine Zi ?_
   refine Zd (l := [0, 1, 2, 3, 4, 5, 6]) rfl ?_
   refine Za rfl rfl rfl rfl (Zc rfl rfl) ?_
   refine Za rfl rfl rfl rfl (Zc rfl rfl) ?_
   refine Za rfl rfl rfl rfl (Ze rfl rfl) ?_
   refine Za rfl rfl rfl rfl (Zb (fo := 9) rfl Try.underlying32 rfl i_25 rfl rfl rfl) ?_
   refine Za rfl rfl rfl rfl (Zc rfl rfl) ?_
   refine Za rfl rfl rfl rfl (V_func rfl rfl rfl) ?_
   refine Yn (L2 := [_]) rfl rfl rfl rfl rfl rfl Try.call99 (cw_listWk b _ _ _ _ hp1 hu1 bx 9 (cSt x).toArray T fz x.wo hx.wo hx.wo2 rfl (by (try simp only [List.map_cons, List.map_nil, List.length_append]); omega)) [0, 0] rfl (Yb (List.mem_append_left _ (Zf 0 rfl)) (Yb (List.mem_append_left _ (Zf 3 rfl)) Yd)) ?_
   rintro v post ⟨rfl, p1, u1, hp1, hu1, rfl⟩
   show G _ _ _ [_, _, _] _
   refine Zg ?_
   refine Zi ?_
   refine Zd (l := [0, 1, 2, 3, 4, 5, 6]) rfl ?_
   refine Za rfl rfl rfl rfl (Zc rfl rfl) ?_
   refine Za rfl rfl rfl rfl (Zc rfl rfl) ?_
   refine Za rfl rfl rfl rfl (Ze rfl rfl) ?_
   refine Za rfl rfl rfl rfl (Zb (fo := 10) rfl Try.underlying32 rfl i_26 rfl rfl rfl) ?_
   refine Za rfl rfl rfl rfl (Zc rfl rfl) ?_
   refine Za rfl rfl rfl rfl (V_func rfl rfl rfl) ?_
   refine Yn (L2 := [_]) rfl rfl rfl rfl rfl rfl Try.call101 (cw_listIv b _ _ _ _ hp1 hu1 bx 10 (cSt x).toArray T fz x.iv hx.iv hx.iv2 rfl (by (try simp only [List.map_cons, List.map_nil, List.length_append]); omega)) [0, 0] rfl (Yb (List.mem_append_left _ (Zf 0 rfl)) (Yb (List.mem_append_left _ (Zf 4 rfl)) Yd)) ?_
   rintro v post ⟨rfl, p1, u1, hp1, hu1, rfl⟩
   show G _ _ _ [_, _, _] _
   refine Zg ?_
   refine Zi ?_
   refine Zd (l := [0, 1, 2, 3, 4, 5, 6]) rfl ?_
   refine Za rfl rfl rfl rfl (Zc rfl rfl) ?_
   refine Za rfl rfl rfl rfl (Zc rfl rfl) ?_
   refine Za rfl rfl rfl rfl (Ze rfl rfl) ?_
   refine Za rfl rfl rfl rfl (Zb (fo := 11) rfl Try.underlying32 rfl i_27 rfl rfl rfl) ?_
   refine Za rfl rfl rfl rfl (Zc rfl rfl) ?_
   refine Za rfl rfl rfl rfl (V_func rfl rfl rfl) ?_
   refine Yn (L2 := [_]) rfl rfl rfl rfl rfl rfl Try.call103 (cw_listPo b _ _ _ _ hp1 hu1 bx 11 (cSt x).toArray T fz x.po hx.po hx.po2 rfl (by (try simp only [List.map_cons, List.map_nil, List.length_append]); omega)) [0, 0] rfl (sub_po (A0 := [_, _, _, _, _, _, _, _, _]) (A1 := []) (A2 := []) (List.mem_append_left _ (Zf 0 rfl)) (List.mem_append_left _ (Zf 5 rfl))) ?_
   rintro v post ⟨rfl, p1, u1, hp1, hu1, rfl⟩
   show G _ _ _ [_, _, _] _
   refine Zg ?_
   refine Zi ?_
   refine Zd (l := [0, 1, 2, 3, 4, 5, 6]) rfl ?_
   refine Za rfl rfl rfl rfl (Zc rfl rfl) ?_
   refine Za rfl rfl rfl rfl (Zc rfl rfl) ?_
   refine Za rfl rfl rfl rfl (Ze rfl rfl) ?_
   refine Za rfl rfl rfl rfl (Zb (fo := 12) rfl Try.underlying32 rfl i_28 rfl rfl rfl) ?_
   refine Za rfl rfl rfl rfl (Zc rfl rfl) ?_
   refine Za rfl rfl rfl rfl (V_func rfl rfl rfl) ?_
   refine Yn (L2 := [_]) rfl rfl rfl rfl rfl rfl Try.call105 (cw_listHr b _ _ _ _ hp1 hu1 bx 12 (cSt x).toArray T fz x.hi hx.hi hx.hi2 rfl (by (try simp only [List.map_cons, List.map_nil, List.length_append]); omega)) [0, 0] rfl (Yb (List.mem_append_left _ (Zf 0 rfl)) (Yb (List.mem_append_left _ (Zf 6 rfl)) Yd)) ?_
   rintro v post ⟨rfl, p1, u1, hp1, hu1, rfl⟩
   show G _ _ _ [_, _, _] _
   refine Zg ?_
   refine Zi ?_
   refine Zd (l := [0, 1, 2, 3, 4, 5, 6]) rfl ?_
   refine Za rfl rfl rfl rfl (Zc rfl rfl) ?_
   refine Za rfl rfl rfl rfl (Zc rfl rfl) ?_
   refine Za rfl rfl rfl rfl (Ze rfl rfl) ?_
   refine Za rfl rfl rfl rfl (Zb (fo := 13) rfl Try.underlying32 rfl i_29 rfl rfl rfl) ?_
   refine Za rfl rfl rfl rfl (Zc rfl rfl) ?_
   refine Za rfl rfl rfl rfl (V_func rfl rfl rfl) ?_
   refine Yn (L2 := [_]) rfl rfl rfl rfl rfl rfl Try.call107 (cw_listLt b _ _ _ _ hp1 hu1 bx 13 (cSt x).toArray T fz x.le hx.le hx.le2 rfl (by (try simp only [List.map_cons, List.map_nil, List.length_append]); omega)) [0, 0] rfl (Yb (List.mem_append_left _ (Zf 0 rfl)) (Yb (List.mem_append_left _ (Zf 7 rfl)) Yd)) ?_
   rintro v post ⟨rfl, p1, u1, hp1, hu1, rfl⟩
   show G _ _ _ [_, _, _] _
   refine Zg ?_
   refine Zd (l := [0, 1, 2, 3, 4, 5, 6]) rfl ?_
   refine Za rfl rfl rfl rfl (Zc rfl rfl) ?_
   refine Za rfl rfl rfl rfl (Zc rfl rfl) ?_
   refine Za rfl rfl rfl rfl (Ze rfl rfl) ?_
   refine Za rfl rfl rfl rfl (Zb (fo := 14) rfl Try.underlying32 rfl i_30 rfl rfl rfl) ?_
   refine Za rfl rfl rfl rfl (Zc rfl rfl) ?_
   refine Za rfl rfl rfl rfl (V_func rfl rfl rfl) ?_
   refine Yn (L2 := [_]) rfl rfl rfl rfl rfl rfl Try.call109 (cw_listWt b _ _ _ _ hp1 hu1 bx 14 (cSt x).toArray T fz x.wa hx.wa hx.wa2 rfl (by (try simp only [List.map_cons, List.map_nil, List.length_append]); omega)) [0, 0] rfl (Yb (List.mem_append_left _ (Zf 0 rfl)) (Yb (List.mem_append_left _ (Zf 8 rfl)) Yd)) ?_
   rintro v post ⟨rfl, p1, u1, hp1, hu1, rfl⟩
   show G _ _ _ [_, _, _] _
   refine Zg ?_
   refine G_end (post := [_, _]) Try.func34 rfl Zo [0, 0] rfl ?_
   dsimp only [packed]
   refine ⟨rfl, p1, u1, hp1, ?_, ?_⟩
   · simpa only [encSt, List.map_cons, List.map_nil, List.append_assoc] using hu1
   · simp only [encSt, badSt, List.map_cons, List.map_nil, List.append_assoc, Bool.or_assoc]


def dumpE (x : St) : Value := if badSt x then .tuple #[.string (bs []), .int .i64 1] else .tuple #[.string (bs (encSt x)), .int .i64 0]
theorem dumpE_bad {x : St} (h : badSt x = true) : dumpE x = .tuple #[.string (bs []), .int .i64 1] := by unfold dumpE; rw [if_pos h]
theorem dumpE_ok {x : St} (h : ¬ badSt x = true) : dumpE x = .tuple #[.string (bs (encSt x)), .int .i64 0] := by unfold dumpE; rw [if_neg h]
theorem sub_one {M tl : List HBk} {a : HBk} (ha : a ∈ M) (h : ∀ z ∈ tl, z ∈ M) : ∀ z ∈ a :: tl, z ∈ M := by
  intro z hz
  rcases List.mem_cons.1 hz with rfl | hz
  · exact ha
  · exact h z hz

set_option maxRecDepth 100000 in
set_option maxHeartbeats 1000000 in
theorem du_encode (x : St) (hx : OkSt x) (hl : (encSt x).length ≤ 140737488350000) :
    Ct Try.prog 14 [.agg (cSt x).toArray] (insK x.li :: insK x.en :: insK x.wo :: insK x.iv :: insK x.po :: insK x.hi :: insK x.le :: insK x.wa :: x.po.l.flatMap kPo) [] fun v post => v = dumpE x ∧ post = [] := by
 refine Yv Try.func14 rfl rfl (fun w0 => ?_)
 show G _ _ [(0, _)] _ _
 refine Zi ?_
 refine Zd (l := [0, 1, 2]) rfl ?_
 refine Yr rfl rfl rfl rfl (N_boxA rfl rfl) (fun b1 => ?_)
 refine Za rfl rfl rfl rfl (Zk rfl rfl) ?_
 refine Za rfl rfl rfl rfl (Zk rfl rfl) ?_
 refine Zg ?_
 refine Zi ?_
 refine Zd (l := [0]) rfl ?_
 refine Yr rfl rfl rfl rfl (Xb rfl i_80 rfl) (fun b4 => ?_)
 refine Zg ?_
 refine Zi ?_
 refine G_addNone (.cells #[] 5 (0, 0)) ?_
 refine Zd (l := [0]) rfl ?_
 refine Yn (L2 := [_]) rfl rfl rfl rfl rfl rfl Try.call34 (cw_state b4 (.pointer none) slNil [] false (.inl rfl) txt_nil b1 x _ (0, 0) hx (by simpa using hl)) [1, 0] rfl (sub_one (List.mem_append_right _ (Zf 0 rfl)) (fun z hz => List.mem_append_left _ hz)) ?_
 rintro v post ⟨rfl, p1, u1, hp1, hu1, rfl⟩
 show G _ _ _ [_, _, _] _
 refine Zg ?_
 refine Zi ?_
 refine Zi ?_
 rw [List.nil_append] at hu1 ⊢
 rw [Bool.false_or]
 refine Zd (l := [0, 1]) rfl ?_
 refine Za rfl rfl rfl rfl (Zb (fo := 3) rfl Try.underlying80 rfl i_4 rfl rfl rfl) ?_
 refine Za rfl rfl rfl rfl (Zj rfl rfl (List.mem_append_right _ (Zf 0 rfl)) rfl Try.underlying4 rfl) ?_
 refine Zg ?_
 refine G_if rfl (fun hc1 => ?_) (fun hc1 => ?_)
 ·
  refine Zi ?_
  refine Zd (l := [0, 1]) rfl ?_
  refine Za rfl rfl rfl rfl (Zk rfl rfl) ?_
  refine Za rfl rfl rfl rfl (Zk rfl rfl) ?_
  refine Zg ?_
  refine Xa (post := []) Try.func14 rfl (Zy (Yy rfl) (Zy (Yy rfl) Zo)) [] rfl ?_
  dsimp only [packed]
  first
    | exact ⟨(dumpE_bad (by assumption)).symm, rfl⟩
    | exact ⟨(dumpE_ok (by simp [*])).symm, rfl⟩
 refine Zu ?_
 refine Zi ?_
 refine Zd (l := [0, 1, 2, 3]) rfl ?_
 refine Za rfl rfl rfl rfl (Zb (fo := 0) rfl Try.underlying80 rfl i_78 rfl rfl rfl) ?_
 refine Yn (L2 := [_]) rfl rfl rfl rfl rfl rfl Try.call53 (cbld_string _ _ b4 _ u1 (encSt x) hu1 (by omega)) [0, 0] rfl Yd ?_
 rintro v post ⟨rfl, u2, hu2, rfl⟩
 show G _ _ _ [_, _, _] _
 refine Za rfl rfl rfl rfl (Zk rfl rfl) ?_
 refine Za rfl rfl rfl rfl (Zk rfl rfl) ?_
 refine Zg ?_
 refine Xa (post := []) Try.func14 rfl (Zy (Yy rfl) (Zy (Yy rfl) Zo)) [] rfl ?_
 dsimp only [packed]
 first
   | exact ⟨(dumpE_bad (by assumption)).symm, rfl⟩
   | exact ⟨(dumpE_ok (by simp [*])).symm, rfl⟩

end
end Go.Proofs.Ytjnaeoelnmhjfaa

set_option linter.unusedSimpArgs false
set_option linter.unusedVariables false
namespace Go.Proofs.Ytjnaeoelnmhjfaa
open Go Go.RowKit

section
theorem val_at {β : Type} {f : β → Value} {ks : List β} {o : Option Nat} {p q n : Nat} {c : Array Value} (h : Sees 1 o p q c (ks.map f) n) {i : Nat} {y : β} (hy : ks[i]? = some y) : c[p + i * 1]? = some (f y) := ptr_at h hy
theorem encIs_nx {l : List Int} {i : Nat} {y : Int} (h : l[i]? = some y) : encIs (l.take i) ++ encI y = encIs (l.take (i + 1)) := encIs_one h
theorem encTs_nx {l : List (List UInt8)} {i : Nat} {y : List UInt8} (h : l[i]? = some y) : encTs (l.take i) ++ text y = encTs (l.take (i + 1)) := Yw text h
theorem encTs_le (l : List (List UInt8)) (i : Nat) : (encTs (l.take i)).length ≤ (encTs l).length := fmap_len text l i
def encUs (l : List Nat) : List UInt8 := l.flatMap (fun n : Nat => chainI (n : Int))
theorem encUs_nx {l : List Nat} {i : Nat} {y : Nat} (h : l[i]? = some y) : encUs (l.take i) ++ chainI (y : Int) = encUs (l.take (i + 1)) := Yw (fun n : Nat => chainI (n : Int)) h
theorem encUs_le (l : List Nat) (i : Nat) : (encUs (l.take i)).length ≤ (encUs l).length := fmap_len (fun n : Nat => chainI (n : Int)) l i
theorem any_nx {α : Type} {f : α → Bool} {l : List α} {i : Nat} {y : α} (h : l[i]? = some y) {w v v' : Bool} (hv : v = (w || (l.take i).any f)) (hn : v' = (v || f y)) : v' = (w || (l.take (i + 1)).any f) := by
  rw [hn, hv, ← Xx h, Bool.or_assoc]

set_option maxRecDepth 100000 in
set_option maxHeartbeats 1000000 in
theorem rw_ints (b : Nat) (tx : List UInt8) (w : Bool) (o1 : Option Nat) (p1 q1 : Nat) (c1 : Array Value) (T1 : TypeId) (f1 : Nat × Nat) (ks : List (Int)) (hs : Sees 1 o1 p1 q1 c1 (ks.map fun y : Int => .int .i64 y) ks.length) (hl : tx.length + (encIs ks).length ≤ 140737488350000) :
    Ct Try.prog 59 [.pointer (some ⟨b, 0, none⟩), sv o1 p1 ks.length q1] [(o1, .cells c1 T1 f1)] [(some b, .cells #[.string (bs (tx)), .bool w] 125 (0, 0))] fun v post => v = .tuple #[] ∧ post = [(some b, .cells #[.string (bs (tx ++ encIs ks)), .bool (w || ks.any badI)] 125 (0, 0))] := by
 have hl1 := hs.le
 have hl2 := hs.max
 refine Yv Try.func59 rfl rfl (fun w0 => ?_)
 show G _ _ [(0, _), (1, _)] _ _
 refine Zi ?_
 refine Zd (l := [0]) rfl ?_
 refine Za rfl rfl rfl rfl (Zk rfl rfl) ?_
 refine Zg ?_
 refine Zp ?_
 refine Yc ?he1 [0] ?hl1 (Xc (X := Nat × List UInt8 × Bool) (fun x_ => match x_ with | ⟨i, t, v⟩ => i ≤ ks.length ∧ t = tx ++ encIs (ks.take i) ∧ v = (w || (ks.take i).any badI)) (fun x_ => match x_ with | ⟨i, t, v⟩ => ks.length - i) (fun x_ => match x_ with | ⟨i, t, v⟩ => [(0, .pointer (some ⟨b, 0, none⟩)), (1, sv o1 p1 ks.length q1), (4, .int .i64 (i : Int))]) (fun x_ => match x_ with | ⟨i, t, v⟩ => [(some b, .cells #[.string (bs (t)), .bool v] 125 (0, 0))]) ?round1 (0, tx, w) ?h01)
 case he1 => exact (And.intro rfl (And.intro rfl (And.intro rfl trivial)))
 case hl1 => exact ⟨_, rfl⟩
 case h01 => exact ⟨Nat.zero_le _, by simp [encIs], by simp⟩
 case round1 =>
  intro x_ hJ ih
  try dsimp only at hJ ih
  obtain ⟨i, t, v⟩ := x_
  try dsimp only at hJ ih
  obtain ⟨hi, ht, hv⟩ := hJ
  show G _ _ [(0, .pointer (some ⟨b, 0, none⟩)), (1, sv o1 p1 ks.length q1), (4, .int .i64 (i : Int))] [(some b, .cells #[.string (bs (t)), .bool v] 125 (0, 0))] _
  refine Zi ?_
  refine Zi ?_
  refine Zd (l := [0, 1, 2, 3]) rfl ?_
  refine Za rfl rfl rfl rfl (Zc rfl rfl) ?_
  refine Za rfl rfl rfl rfl (Zc rfl rfl) ?_
  refine Za rfl rfl rfl rfl (Yf rfl rfl Try.underlying99 rfl) ?_
  refine Za rfl rfl rfl rfl (Xh rfl rfl rfl) ?_
  refine Zg ?_
  refine Yl rfl (fun hc1 => ?_) (fun hc1 => ?_)
  ·
   refine Zu ?_
   refine Zi ?_
   refine Zp ?_
   refine Zi ?_
   refine Zi ?_
   obtain ⟨y, hy⟩ := Xv (show i < ks.length by omega)
   obtain ⟨bo1, rfl⟩ := hs.isSome (by omega)
   have hym := List.mem_of_getElem? hy
   have hpl := encIs_le ks (i + 1)
   rw [← encIs_nx hy, List.length_append] at hpl
   have htl := congrArg List.length ht
   rw [List.length_append] at htl
   have hce : (chainI (IntKind.u64.wrap y)).length = (encI y).length := rfl
   refine Zd (l := [0, 1, 2, 3, 4, 5, 6, 7, 8, 9, 10, 11]) rfl ?_
   refine Za rfl rfl rfl rfl (Zc rfl rfl) ?_
   refine Za rfl rfl rfl rfl (Zc rfl rfl) ?_
   refine Za rfl rfl rfl rfl (Zl (s := 1) rfl Try.underlying99 i_3 rfl rfl rfl rfl (by omega)) ?_
   refine Za rfl rfl rfl rfl (Zj rfl rfl (Zf 0 rfl) (Zr (val_at hs hy)) Try.underlying3 rfl) ?_
   refine Za rfl rfl rfl rfl (Xh rfl rfl rfl) ?_
   refine Za rfl rfl rfl rfl (Zc rfl rfl) ?_
   refine Xr 16 rfl (fun hc2 => ?_) (fun hc2 => ?_)
   ·
    refine Zt rfl rfl rfl rfl ?_
    refine Zt rfl rfl rfl rfl ?_
    refine Zt rfl rfl rfl rfl ?_
    refine Zt rfl rfl rfl rfl ?_
    refine Zt rfl rfl rfl rfl ?_
    refine Za rfl rfl rfl rfl (Yk rfl rfl rfl) ?_
    refine Zg ?_
    refine G_then rfl ?_
    refine Zd (l := [0, 1, 2, 3]) rfl ?_
    refine Za rfl rfl rfl rfl (Zc rfl rfl) ?_
    refine Za rfl rfl rfl rfl (Ze rfl rfl) ?_
    refine Za rfl rfl rfl rfl (Zb (fo := 1) rfl Try.underlying125 rfl i_4 rfl rfl rfl) ?_
    refine Xl (l1 := []) (L' := [_]) rfl rfl rfl rfl (Zq rfl rfl rfl (Zf 0 rfl) (by first | exact of_decide_eq_true rfl | omega | (simp [cOp, cWk, cIv, cHr, cLt, cWt, cIt, cFl, cTn, cCl, cPo, cSt]; done) | (simp [cOp, cWk, cIv, cHr, cLt, cWt, cIt, cFl, cTn, cCl, cPo, cSt]; omega) | (simp [cOp, cWk, cIv, cHr, cLt, cWt, cIt, cFl, cTn, cCl, cPo, cSt] at *; omega)) i_4 rfl rfl) rfl ?_
    refine Zg ?_
    refine Ya (Lq := []) (isq := []) (m := 15) Ym rfl rfl ?_
    refine Zh 0 rfl rfl rfl rfl (by kernel_rfl) (fun _ _ => Zc rfl rfl) ?_
    refine Zh 1 rfl rfl rfl rfl (by kernel_rfl) (fun _ _ => Zc rfl rfl) ?_
    refine Zh 2 rfl rfl rfl rfl (by kernel_rfl) (fun _ _ => Ze rfl rfl) ?_
    refine Zh 3 rfl rfl rfl rfl (by kernel_rfl) (fun _ _ => Zb (fo := 0) rfl Try.underlying125 rfl i_9 rfl rfl rfl) ?_
    refine Zh 5 rfl rfl rfl rfl (by kernel_rfl) (fun _ _ => Zc rfl rfl) ?_
    refine Zh 6 rfl rfl rfl rfl (by kernel_rfl) (fun _ _ => Zc rfl rfl) ?_
    refine Zh 7 rfl rfl rfl rfl (by kernel_rfl) (fun _ _ => Zl (s := 1) rfl Try.underlying99 i_3 rfl rfl rfl rfl (by omega)) ?_
    refine Zh 8 rfl rfl rfl rfl (by kernel_rfl) (fun _ _ => Zj rfl rfl (Zf 0 rfl) (Zr (val_at hs hy)) Try.underlying3 rfl) ?_
    refine Zh 9 rfl rfl rfl rfl (by kernel_rfl) (fun _ _ => V_conv rfl rfl Try.underlying3 Try.underlying23) ?_
    refine GH_all [4, 10] (by kernel_rfl) (by decide) ?_
    refine (And.intro ?_ (And.intro ?_ trivial))
    ·
     refine Xn rfl rfl rfl rfl (Zj rfl rfl (Zf 1 rfl) rfl Try.underlying9 rfl) ?_
     refine GH_all [10] (by kernel_rfl) (by decide) ?_
     refine (And.intro ?_ trivial)
     ·
      refine Zz (L2 := [_]) rfl rfl rfl rfl rfl rfl Try.call118 (ct_rchain _ (wrap_bd y).1 (wrap_bd y).2) [] [] rfl rfl [] (by rintro v post ⟨rfl, rfl⟩; exact ⟨_, rfl⟩) ?_
      rintro v post ⟨rfl, rfl⟩
      show GH _ _ _ _ _ _ _ [_] _
      refine Zh 11 rfl rfl rfl rfl (by kernel_rfl) (fun _ _ => V_sadd rfl rfl rfl (by first | omega | (simp [cOp, cWk, cIv, cHr, cLt, cWt, cIt, cFl, cTn, cCl, cPo, cSt]; done) | (simp [cOp, cWk, cIv, cHr, cLt, cWt, cIt, cFl, cTn, cCl, cPo, cSt]; omega) | (simp [cOp, cWk, cIv, cHr, cLt, cWt, cIt, cFl, cTn, cCl, cPo, cSt] at *; omega))) ?_
      refine Zh 12 rfl rfl rfl rfl (by kernel_rfl) (fun _ _ => Ze rfl rfl) ?_
      refine Zh 13 rfl rfl rfl rfl (by kernel_rfl) (fun _ _ => Zb (fo := 0) rfl Try.underlying125 rfl i_9 rfl rfl rfl) ?_
      refine GH_all [14] (by kernel_rfl) (by decide) ?_
      refine (And.intro ?_ trivial)
      ·
       refine Xi (l1 := []) (L' := [_]) rfl rfl rfl rfl (Zq rfl rfl rfl (Zf 0 rfl) (by first | exact of_decide_eq_true rfl | omega | (simp [cOp, cWk, cIv, cHr, cLt, cWt, cIt, cFl, cTn, cCl, cPo, cSt]; done) | (simp [cOp, cWk, cIv, cHr, cLt, cWt, cIt, cFl, cTn, cCl, cPo, cSt]; omega) | (simp [cOp, cWk, cIv, cHr, cLt, cWt, cIt, cFl, cTn, cCl, cPo, cSt] at *; omega)) i_9 rfl rfl) rfl [] rfl ?_
       refine Zw (by kernel_rfl) ?_
       refine Zs ?_
       refine Zd (l := [0, 1, 2]) rfl ?_
       refine Za rfl rfl rfl rfl (Zc rfl rfl) ?_
       refine Za rfl rfl rfl rfl ((Yu rfl rfl rfl).int (Zv (by omega))) ?_
       refine Za rfl rfl rfl rfl (Zk rfl rfl) ?_
       refine Zg ?_
       refine Yc ?_ [0] ?_ (ih (i + 1, t ++ encI y, true) ?_ ?_)
       · (refine (And.intro ?_ (And.intro ?_ (And.intro ?_ trivial))) <;> first | rfl | exact Zm (by omega) | exact Zm (by simp))
       · exact ⟨_, rfl⟩
       · exact ⟨by omega, by rw [← encIs_nx hy, ← List.append_assoc, ← ht], any_nx hy hv (by clear hv ht htl; simp [badI, *])⟩
       · (first | omega | (dsimp only; omega))
    ·
     refine Zz (L2 := [_]) rfl rfl rfl rfl rfl rfl Try.call118 (ct_rchain _ (wrap_bd y).1 (wrap_bd y).2) [] [] rfl rfl [] (by rintro v post ⟨rfl, rfl⟩; exact ⟨_, rfl⟩) ?_
     rintro v post ⟨rfl, rfl⟩
     show GH _ _ _ _ _ _ _ [_] _
     refine GH_all [4] (by kernel_rfl) (by decide) ?_
     refine (And.intro ?_ trivial)
     ·
      refine Xn rfl rfl rfl rfl (Zj rfl rfl (Zf 1 rfl) rfl Try.underlying9 rfl) ?_
      refine Zh 11 rfl rfl rfl rfl (by kernel_rfl) (fun _ _ => V_sadd rfl rfl rfl (by first | omega | (simp [cOp, cWk, cIv, cHr, cLt, cWt, cIt, cFl, cTn, cCl, cPo, cSt]; done) | (simp [cOp, cWk, cIv, cHr, cLt, cWt, cIt, cFl, cTn, cCl, cPo, cSt]; omega) | (simp [cOp, cWk, cIv, cHr, cLt, cWt, cIt, cFl, cTn, cCl, cPo, cSt] at *; omega))) ?_
      refine Zh 12 rfl rfl rfl rfl (by kernel_rfl) (fun _ _ => Ze rfl rfl) ?_
      refine Zh 13 rfl rfl rfl rfl (by kernel_rfl) (fun _ _ => Zb (fo := 0) rfl Try.underlying125 rfl i_9 rfl rfl rfl) ?_
      refine GH_all [14] (by kernel_rfl) (by decide) ?_
      refine (And.intro ?_ trivial)
      ·
       refine Xi (l1 := []) (L' := [_]) rfl rfl rfl rfl (Zq rfl rfl rfl (Zf 0 rfl) (by first | exact of_decide_eq_true rfl | omega | (simp [cOp, cWk, cIv, cHr, cLt, cWt, cIt, cFl, cTn, cCl, cPo, cSt]; done) | (simp [cOp, cWk, cIv, cHr, cLt, cWt, cIt, cFl, cTn, cCl, cPo, cSt]; omega) | (simp [cOp, cWk, cIv, cHr, cLt, cWt, cIt, cFl, cTn, cCl, cPo, cSt] at *; omega)) i_9 rfl rfl) rfl [] rfl ?_
       refine Zw (by kernel_rfl) ?_
       refine Zs ?_
       refine Zd (l := [0, 1, 2]) rfl ?_
       refine Za rfl rfl rfl rfl (Zc rfl rfl) ?_
       refine Za rfl rfl rfl rfl ((Yu rfl rfl rfl).int (Zv (by omega))) ?_
       refine Za rfl rfl rfl rfl (Zk rfl rfl) ?_
       refine Zg ?_
       refine Yc ?_ [0] ?_ (ih (i + 1, t ++ encI y, true) ?_ ?_)
       · (refine (And.intro ?_ (And.intro ?_ (And.intro ?_ trivial))) <;> first | rfl | exact Zm (by omega) | exact Zm (by simp))
       · exact ⟨_, rfl⟩
       · exact ⟨by omega, by rw [← encIs_nx hy, ← List.append_assoc, ← ht], any_nx hy hv (by clear hv ht htl; simp [badI, *])⟩
       · (first | omega | (dsimp only; omega))
   refine Za rfl rfl rfl rfl (Zc rfl rfl) ?_
   refine Za rfl rfl rfl rfl (Zc rfl rfl) ?_
   refine Za rfl rfl rfl rfl (Zl (s := 1) rfl Try.underlying99 i_3 rfl rfl rfl rfl (by omega)) ?_
   refine Za rfl rfl rfl rfl (Zj rfl rfl (Zf 0 rfl) (Zr (val_at hs hy)) Try.underlying3 rfl) ?_
   refine Za rfl rfl rfl rfl (V_gtr rfl rfl rfl) ?_
   refine Za rfl rfl rfl rfl (Xu rfl rfl rfl) ?_
   refine Zg ?_
   refine Yl rfl (fun hc3 => ?_) (fun hc3 => ?_)
   ·
    refine Zd (l := [0, 1, 2, 3]) rfl ?_
    refine Za rfl rfl rfl rfl (Zc rfl rfl) ?_
    refine Za rfl rfl rfl rfl (Ze rfl rfl) ?_
    refine Za rfl rfl rfl rfl (Zb (fo := 1) rfl Try.underlying125 rfl i_4 rfl rfl rfl) ?_
    refine Xl (l1 := []) (L' := [_]) rfl rfl rfl rfl (Zq rfl rfl rfl (Zf 0 rfl) (by first | exact of_decide_eq_true rfl | omega | (simp [cOp, cWk, cIv, cHr, cLt, cWt, cIt, cFl, cTn, cCl, cPo, cSt]; done) | (simp [cOp, cWk, cIv, cHr, cLt, cWt, cIt, cFl, cTn, cCl, cPo, cSt]; omega) | (simp [cOp, cWk, cIv, cHr, cLt, cWt, cIt, cFl, cTn, cCl, cPo, cSt] at *; omega)) i_4 rfl rfl) rfl ?_
    refine Zg ?_
    refine Ya (Lq := []) (isq := []) (m := 15) Ym rfl rfl ?_
    refine Zh 0 rfl rfl rfl rfl (by kernel_rfl) (fun _ _ => Zc rfl rfl) ?_
    refine Zh 1 rfl rfl rfl rfl (by kernel_rfl) (fun _ _ => Zc rfl rfl) ?_
    refine Zh 2 rfl rfl rfl rfl (by kernel_rfl) (fun _ _ => Ze rfl rfl) ?_
    refine Zh 3 rfl rfl rfl rfl (by kernel_rfl) (fun _ _ => Zb (fo := 0) rfl Try.underlying125 rfl i_9 rfl rfl rfl) ?_
    refine Zh 5 rfl rfl rfl rfl (by kernel_rfl) (fun _ _ => Zc rfl rfl) ?_
    refine Zh 6 rfl rfl rfl rfl (by kernel_rfl) (fun _ _ => Zc rfl rfl) ?_
    refine Zh 7 rfl rfl rfl rfl (by kernel_rfl) (fun _ _ => Zl (s := 1) rfl Try.underlying99 i_3 rfl rfl rfl rfl (by omega)) ?_
    refine Zh 8 rfl rfl rfl rfl (by kernel_rfl) (fun _ _ => Zj rfl rfl (Zf 0 rfl) (Zr (val_at hs hy)) Try.underlying3 rfl) ?_
    refine Zh 9 rfl rfl rfl rfl (by kernel_rfl) (fun _ _ => V_conv rfl rfl Try.underlying3 Try.underlying23) ?_
    refine GH_all [4, 10] (by kernel_rfl) (by decide) ?_
    refine (And.intro ?_ (And.intro ?_ trivial))
    ·
     refine Xn rfl rfl rfl rfl (Zj rfl rfl (Zf 1 rfl) rfl Try.underlying9 rfl) ?_
     refine GH_all [10] (by kernel_rfl) (by decide) ?_
     refine (And.intro ?_ trivial)
     ·
      refine Zz (L2 := [_]) rfl rfl rfl rfl rfl rfl Try.call118 (ct_rchain _ (wrap_bd y).1 (wrap_bd y).2) [] [] rfl rfl [] (by rintro v post ⟨rfl, rfl⟩; exact ⟨_, rfl⟩) ?_
      rintro v post ⟨rfl, rfl⟩
      show GH _ _ _ _ _ _ _ [_] _
      refine Zh 11 rfl rfl rfl rfl (by kernel_rfl) (fun _ _ => V_sadd rfl rfl rfl (by first | omega | (simp [cOp, cWk, cIv, cHr, cLt, cWt, cIt, cFl, cTn, cCl, cPo, cSt]; done) | (simp [cOp, cWk, cIv, cHr, cLt, cWt, cIt, cFl, cTn, cCl, cPo, cSt]; omega) | (simp [cOp, cWk, cIv, cHr, cLt, cWt, cIt, cFl, cTn, cCl, cPo, cSt] at *; omega))) ?_
      refine Zh 12 rfl rfl rfl rfl (by kernel_rfl) (fun _ _ => Ze rfl rfl) ?_
      refine Zh 13 rfl rfl rfl rfl (by kernel_rfl) (fun _ _ => Zb (fo := 0) rfl Try.underlying125 rfl i_9 rfl rfl rfl) ?_
      refine GH_all [14] (by kernel_rfl) (by decide) ?_
      refine (And.intro ?_ trivial)
      ·
       refine Xi (l1 := []) (L' := [_]) rfl rfl rfl rfl (Zq rfl rfl rfl (Zf 0 rfl) (by first | exact of_decide_eq_true rfl | omega | (simp [cOp, cWk, cIv, cHr, cLt, cWt, cIt, cFl, cTn, cCl, cPo, cSt]; done) | (simp [cOp, cWk, cIv, cHr, cLt, cWt, cIt, cFl, cTn, cCl, cPo, cSt]; omega) | (simp [cOp, cWk, cIv, cHr, cLt, cWt, cIt, cFl, cTn, cCl, cPo, cSt] at *; omega)) i_9 rfl rfl) rfl [] rfl ?_
       refine Zw (by kernel_rfl) ?_
       refine Zs ?_
       refine Zd (l := [0, 1, 2]) rfl ?_
       refine Za rfl rfl rfl rfl (Zc rfl rfl) ?_
       refine Za rfl rfl rfl rfl ((Yu rfl rfl rfl).int (Zv (by omega))) ?_
       refine Za rfl rfl rfl rfl (Zk rfl rfl) ?_
       refine Zg ?_
       refine Yc ?_ [0] ?_ (ih (i + 1, t ++ encI y, true) ?_ ?_)
       · (refine (And.intro ?_ (And.intro ?_ (And.intro ?_ trivial))) <;> first | rfl | exact Zm (by omega) | exact Zm (by simp))
       · exact ⟨_, rfl⟩
       · exact ⟨by omega, by rw [← encIs_nx hy, ← List.append_assoc, ← ht], any_nx hy hv (by clear hv ht htl; simp [badI, *])⟩
       · (first | omega | (dsimp only; omega))
    ·
     refine Zz (L2 := [_]) rfl rfl rfl rfl rfl rfl Try.call118 (ct_rchain _ (wrap_bd y).1 (wrap_bd y).2) [] [] rfl rfl [] (by rintro v post ⟨rfl, rfl⟩; exact ⟨_, rfl⟩) ?_
     rintro v post ⟨rfl, rfl⟩
     show GH _ _ _ _ _ _ _ [_] _
     refine GH_all [4] (by kernel_rfl) (by decide) ?_
     refine (And.intro ?_ trivial)
     ·
      refine Xn rfl rfl rfl rfl (Zj rfl rfl (Zf 1 rfl) rfl Try.underlying9 rfl) ?_
      refine Zh 11 rfl rfl rfl rfl (by kernel_rfl) (fun _ _ => V_sadd rfl rfl rfl (by first | omega | (simp [cOp, cWk, cIv, cHr, cLt, cWt, cIt, cFl, cTn, cCl, cPo, cSt]; done) | (simp [cOp, cWk, cIv, cHr, cLt, cWt, cIt, cFl, cTn, cCl, cPo, cSt]; omega) | (simp [cOp, cWk, cIv, cHr, cLt, cWt, cIt, cFl, cTn, cCl, cPo, cSt] at *; omega))) ?_
      refine Zh 12 rfl rfl rfl rfl (by kernel_rfl) (fun _ _ => Ze rfl rfl) ?_
      refine Zh 13 rfl rfl rfl rfl (by kernel_rfl) (fun _ _ => Zb (fo := 0) rfl Try.underlying125 rfl i_9 rfl rfl rfl) ?_
      refine GH_all [14] (by kernel_rfl) (by decide) ?_
      refine (And.intro ?_ trivial)
      ·
       refine Xi (l1 := []) (L' := [_]) rfl rfl rfl rfl (Zq rfl rfl rfl (Zf 0 rfl) (by first | exact of_decide_eq_true rfl | omega | (simp [cOp, cWk, cIv, cHr, cLt, cWt, cIt, cFl, cTn, cCl, cPo, cSt]; done) | (simp [cOp, cWk, cIv, cHr, cLt, cWt, cIt, cFl, cTn, cCl, cPo, cSt]; omega) | (simp [cOp, cWk, cIv, cHr, cLt, cWt, cIt, cFl, cTn, cCl, cPo, cSt] at *; omega)) i_9 rfl rfl) rfl [] rfl ?_
       refine Zw (by kernel_rfl) ?_
       refine Zs ?_
       refine Zd (l := [0, 1, 2]) rfl ?_
       refine Za rfl rfl rfl rfl (Zc rfl rfl) ?_
       refine Za rfl rfl rfl rfl ((Yu rfl rfl rfl).int (Zv (by omega))) ?_
       refine Za rfl rfl rfl rfl (Zk rfl rfl) ?_
       refine Zg ?_
       refine Yc ?_ [0] ?_ (ih (i + 1, t ++ encI y, true) ?_ ?_)
       · (refine (And.intro ?_ (And.intro ?_ (And.intro ?_ trivial))) <;> first | rfl | exact Zm (by omega) | exact Zm (by simp))
       · exact ⟨_, rfl⟩
       · exact ⟨by omega, by rw [← encIs_nx hy, ← List.append_assoc, ← ht], any_nx hy hv (by clear hv ht htl; simp [badI, *])⟩
       · (first | omega | (dsimp only; omega))
   refine Zu ?_
   refine Ya (Lq := []) (isq := []) (m := 15) Ym rfl rfl ?_
   refine Zh 0 rfl rfl rfl rfl (by kernel_rfl) (fun _ _ => Zc rfl rfl) ?_
   refine Zh 1 rfl rfl rfl rfl (by kernel_rfl) (fun _ _ => Zc rfl rfl) ?_
   refine Zh 2 rfl rfl rfl rfl (by kernel_rfl) (fun _ _ => Ze rfl rfl) ?_
   refine Zh 3 rfl rfl rfl rfl (by kernel_rfl) (fun _ _ => Zb (fo := 0) rfl Try.underlying125 rfl i_9 rfl rfl rfl) ?_
   refine Zh 5 rfl rfl rfl rfl (by kernel_rfl) (fun _ _ => Zc rfl rfl) ?_
   refine Zh 6 rfl rfl rfl rfl (by kernel_rfl) (fun _ _ => Zc rfl rfl) ?_
   refine Zh 7 rfl rfl rfl rfl (by kernel_rfl) (fun _ _ => Zl (s := 1) rfl Try.underlying99 i_3 rfl rfl rfl rfl (by omega)) ?_
   refine Zh 8 rfl rfl rfl rfl (by kernel_rfl) (fun _ _ => Zj rfl rfl (Zf 0 rfl) (Zr (val_at hs hy)) Try.underlying3 rfl) ?_
   refine Zh 9 rfl rfl rfl rfl (by kernel_rfl) (fun _ _ => V_conv rfl rfl Try.underlying3 Try.underlying23) ?_
   refine GH_all [4, 10] (by kernel_rfl) (by decide) ?_
   refine (And.intro ?_ (And.intro ?_ trivial))
   ·
    refine Xn rfl rfl rfl rfl (Zj rfl rfl (Zf 1 rfl) rfl Try.underlying9 rfl) ?_
    refine GH_all [10] (by kernel_rfl) (by decide) ?_
    refine (And.intro ?_ trivial)
    ·
     refine Zz (L2 := [_]) rfl rfl rfl rfl rfl rfl Try.call118 (ct_rchain _ (wrap_bd y).1 (wrap_bd y).2) [] [] rfl rfl [] (by rintro v post ⟨rfl, rfl⟩; exact ⟨_, rfl⟩) ?_
     rintro v post ⟨rfl, rfl⟩
     show GH _ _ _ _ _ _ _ [_] _
     refine Zh 11 rfl rfl rfl rfl (by kernel_rfl) (fun _ _ => V_sadd rfl rfl rfl (by first | omega | (simp [cOp, cWk, cIv, cHr, cLt, cWt, cIt, cFl, cTn, cCl, cPo, cSt]; done) | (simp [cOp, cWk, cIv, cHr, cLt, cWt, cIt, cFl, cTn, cCl, cPo, cSt]; omega) | (simp [cOp, cWk, cIv, cHr, cLt, cWt, cIt, cFl, cTn, cCl, cPo, cSt] at *; omega))) ?_
     refine Zh 12 rfl rfl rfl rfl (by kernel_rfl) (fun _ _ => Ze rfl rfl) ?_
     refine Zh 13 rfl rfl rfl rfl (by kernel_rfl) (fun _ _ => Zb (fo := 0) rfl Try.underlying125 rfl i_9 rfl rfl rfl) ?_
     refine GH_all [14] (by kernel_rfl) (by decide) ?_
     refine (And.intro ?_ trivial)
     ·
      refine Xi (l1 := []) (L' := [_]) rfl rfl rfl rfl (Zq rfl rfl rfl (Zf 0 rfl) (by first | exact of_decide_eq_true rfl | omega | (simp [cOp, cWk, cIv, cHr, cLt, cWt, cIt, cFl, cTn, cCl, cPo, cSt]; done) | (simp [cOp, cWk, cIv, cHr, cLt, cWt, cIt, cFl, cTn, cCl, cPo, cSt]; omega) | (simp [cOp, cWk, cIv, cHr, cLt, cWt, cIt, cFl, cTn, cCl, cPo, cSt] at *; omega)) i_9 rfl rfl) rfl [] rfl ?_
      refine Zw (by kernel_rfl) ?_
      refine Zs ?_
      refine Zd (l := [0, 1, 2]) rfl ?_
      refine Za rfl rfl rfl rfl (Zc rfl rfl) ?_
      refine Za rfl rfl rfl rfl ((Yu rfl rfl rfl).int (Zv (by omega))) ?_
      refine Za rfl rfl rfl rfl (Zk rfl rfl) ?_
      refine Zg ?_
      refine Yc ?_ [0] ?_ (ih (i + 1, t ++ encI y, v) ?_ ?_)
      · (refine (And.intro ?_ (And.intro ?_ (And.intro ?_ trivial))) <;> first | rfl | exact Zm (by omega) | exact Zm (by simp))
      · exact ⟨_, rfl⟩
      · exact ⟨by omega, by rw [← encIs_nx hy, ← List.append_assoc, ← ht], any_nx hy hv (by clear hv ht htl; simp [badI, *])⟩
      · (first | omega | (dsimp only; omega))
   ·
    refine Zz (L2 := [_]) rfl rfl rfl rfl rfl rfl Try.call118 (ct_rchain _ (wrap_bd y).1 (wrap_bd y).2) [] [] rfl rfl [] (by rintro v post ⟨rfl, rfl⟩; exact ⟨_, rfl⟩) ?_
    rintro v post ⟨rfl, rfl⟩
    show GH _ _ _ _ _ _ _ [_] _
    refine GH_all [4] (by kernel_rfl) (by decide) ?_
    refine (And.intro ?_ trivial)
    ·
     refine Xn rfl rfl rfl rfl (Zj rfl rfl (Zf 1 rfl) rfl Try.underlying9 rfl) ?_
     refine Zh 11 rfl rfl rfl rfl (by kernel_rfl) (fun _ _ => V_sadd rfl rfl rfl (by first | omega | (simp [cOp, cWk, cIv, cHr, cLt, cWt, cIt, cFl, cTn, cCl, cPo, cSt]; done) | (simp [cOp, cWk, cIv, cHr, cLt, cWt, cIt, cFl, cTn, cCl, cPo, cSt]; omega) | (simp [cOp, cWk, cIv, cHr, cLt, cWt, cIt, cFl, cTn, cCl, cPo, cSt] at *; omega))) ?_
     refine Zh 12 rfl rfl rfl rfl (by kernel_rfl) (fun _ _ => Ze rfl rfl) ?_
     refine Zh 13 rfl rfl rfl rfl (by kernel_rfl) (fun _ _ => Zb (fo := 0) rfl Try.underlying125 rfl i_9 rfl rfl rfl) ?_
     refine GH_all [14] (by kernel_rfl) (by decide) ?_
     refine (And.intro ?_ trivial)
     ·
      refine Xi (l1 := []) (L' := [_]) rfl rfl rfl rfl (Zq rfl rfl rfl (Zf 0 rfl) (by first | exact of_decide_eq_true rfl | omega | (simp [cOp, cWk, cIv, cHr, cLt, cWt, cIt, cFl, cTn, cCl, cPo, cSt]; done) | (simp [cOp, cWk, cIv, cHr, cLt, cWt, cIt, cFl, cTn, cCl, cPo, cSt]; omega) | (simp [cOp, cWk, cIv, cHr, cLt, cWt, cIt, cFl, cTn, cCl, cPo, cSt] at *; omega)) i_9 rfl rfl) rfl [] rfl ?_
      refine Zw (by kernel_rfl) ?_
      refine Zs ?_
      refine Zd (l := [0, 1, 2]) rfl ?_
      refine Za rfl rfl rfl rfl (Zc rfl rfl) ?_
      refine Za rfl rfl rfl rfl ((Yu rfl rfl rfl).int (Zv (by omega))) ?_
      refine Za rfl rfl rfl rfl (Zk rfl rfl) ?_
      refine Zg ?_
      refine Yc ?_ [0] ?_ (ih (i + 1, t ++ encI y, v) ?_ ?_)
      · (refine (And.intro ?_ (And.intro ?_ (And.intro ?_ trivial))) <;> first | rfl | exact Zm (by omega) | exact Zm (by simp))
      · exact ⟨_, rfl⟩
      · exact ⟨by omega, by rw [← encIs_nx hy, ← List.append_assoc, ← ht], any_nx hy hv (by clear hv ht htl; simp [badI, *])⟩
      · (first | omega | (dsimp only; omega))
  refine Yx rfl ?_
  refine G_end (post := [_]) Try.func59 rfl Zo [0] rfl ?_
  dsimp only [packed]
  have e : ks.take i = ks := List.take_of_length_le (by omega)
  rw [e] at ht
  try rw [e] at hv
  subst ht hv
  exact ⟨rfl, rfl⟩

set_option maxRecDepth 100000 in
set_option maxHeartbeats 1000000 in
theorem rw_texts (b : Nat) (tx : List UInt8) (w : Bool) (o1 : Option Nat) (p1 q1 : Nat) (c1 : Array Value) (T1 : TypeId) (f1 : Nat × Nat) (ks : List (List UInt8)) (hs : Sees 1 o1 p1 q1 c1 (ks.map fun y : List UInt8 => .string (bs y)) ks.length) (hl : tx.length + (encTs ks).length ≤ 140737488350000) :
    Ct Try.prog 62 [.pointer (some ⟨b, 0, none⟩), sv o1 p1 ks.length q1] [(o1, .cells c1 T1 f1)] [(some b, .cells #[.string (bs (tx)), .bool w] 125 (0, 0))] fun v post => v = .tuple #[] ∧ post = [(some b, .cells #[.string (bs (tx ++ encTs ks)), .bool (w || ks.any badT)] 125 (0, 0))] := by
 have hl1 := hs.le
 have hl2 := hs.max
 refine Yv Try.func62 rfl rfl (fun w0 => ?_)
 show G _ _ [(0, _), (1, _)] _ _
 refine Zi ?_
 refine Zd (l := [0]) rfl ?_
 refine Za rfl rfl rfl rfl (Zk rfl rfl) ?_
 refine Zg ?_
 refine Zp ?_
 refine Yc ?he1 [0] ?hl1 (Xc (X := Nat × List UInt8 × Bool) (fun x_ => match x_ with | ⟨i, t, v⟩ => i ≤ ks.length ∧ t = tx ++ encTs (ks.take i) ∧ v = (w || (ks.take i).any badT)) (fun x_ => match x_ with | ⟨i, t, v⟩ => ks.length - i) (fun x_ => match x_ with | ⟨i, t, v⟩ => [(0, .pointer (some ⟨b, 0, none⟩)), (1, sv o1 p1 ks.length q1), (4, .int .i64 (i : Int))]) (fun x_ => match x_ with | ⟨i, t, v⟩ => [(some b, .cells #[.string (bs (t)), .bool v] 125 (0, 0))]) ?round1 (0, tx, w) ?h01)
 case he1 => exact (And.intro rfl (And.intro rfl (And.intro rfl trivial)))
 case hl1 => exact ⟨_, rfl⟩
 case h01 => exact ⟨Nat.zero_le _, by simp [encTs], by simp⟩
 case round1 =>
  intro x_ hJ ih
  try dsimp only at hJ ih
  obtain ⟨i, t, v⟩ := x_
  try dsimp only at hJ ih
  obtain ⟨hi, ht, hv⟩ := hJ
  show G _ _ [(0, .pointer (some ⟨b, 0, none⟩)), (1, sv o1 p1 ks.length q1), (4, .int .i64 (i : Int))] [(some b, .cells #[.string (bs (t)), .bool v] 125 (0, 0))] _
  refine Zi ?_
  refine Zi ?_
  refine Zd (l := [0, 1, 2, 3]) rfl ?_
  refine Za rfl rfl rfl rfl (Zc rfl rfl) ?_
  refine Za rfl rfl rfl rfl (Zc rfl rfl) ?_
  refine Za rfl rfl rfl rfl (Yf rfl rfl Try.underlying220 rfl) ?_
  refine Za rfl rfl rfl rfl (Xh rfl rfl rfl) ?_
  refine Zg ?_
  refine Yl rfl (fun hc1 => ?_) (fun hc1 => ?_)
  ·
   refine Zu ?_
   refine Zi ?_
   refine Zp ?_
   refine Zi ?_
   refine Zi ?_
   obtain ⟨y, hy⟩ := Xv (show i < ks.length by omega)
   obtain ⟨bo1, rfl⟩ := hs.isSome (by omega)
   have hym := List.mem_of_getElem? hy
   have hpl := encTs_le ks (i + 1)
   rw [← encTs_nx hy, List.length_append] at hpl
   have htl := congrArg List.length ht
   rw [List.length_append] at htl
   have hce := chain_part y
   refine Zd (l := [0, 1, 2, 3, 4, 5]) rfl ?_
   refine Za rfl rfl rfl rfl (Zc rfl rfl) ?_
   refine Za rfl rfl rfl rfl (Zc rfl rfl) ?_
   refine Za rfl rfl rfl rfl (Zl (s := 1) rfl Try.underlying220 i_9 rfl rfl rfl rfl (by omega)) ?_
   refine Za rfl rfl rfl rfl (Zj rfl rfl (Zf 0 rfl) (Zr (val_at hs hy)) Try.underlying9 rfl) ?_
   refine Za rfl rfl rfl rfl (V_slen rfl rfl Try.underlying9 rfl) ?_
   refine Za rfl rfl rfl rfl (V_gtr rfl rfl rfl) ?_
   refine Zg ?_
   refine Yl rfl (fun hc2 => ?_) (fun hc2 => ?_)
   ·
    refine Zd (l := [0, 1, 2, 3]) rfl ?_
    refine Za rfl rfl rfl rfl (Zc rfl rfl) ?_
    refine Za rfl rfl rfl rfl (Ze rfl rfl) ?_
    refine Za rfl rfl rfl rfl (Zb (fo := 1) rfl Try.underlying125 rfl i_4 rfl rfl rfl) ?_
    refine Xl (l1 := []) (L' := [_]) rfl rfl rfl rfl (Zq rfl rfl rfl (Zf 0 rfl) (by first | exact of_decide_eq_true rfl | omega | (simp [cOp, cWk, cIv, cHr, cLt, cWt, cIt, cFl, cTn, cCl, cPo, cSt]; done) | (simp [cOp, cWk, cIv, cHr, cLt, cWt, cIt, cFl, cTn, cCl, cPo, cSt]; omega) | (simp [cOp, cWk, cIv, cHr, cLt, cWt, cIt, cFl, cTn, cCl, cPo, cSt] at *; omega)) i_4 rfl rfl) rfl ?_
    refine Zg ?_
    refine Ya (Lq := []) (isq := []) (m := 14) Ym rfl rfl ?_
    refine Zh 0 rfl rfl rfl rfl (by kernel_rfl) (fun _ _ => Zc rfl rfl) ?_
    refine Zh 1 rfl rfl rfl rfl (by kernel_rfl) (fun _ _ => Zc rfl rfl) ?_
    refine Zh 2 rfl rfl rfl rfl (by kernel_rfl) (fun _ _ => Ze rfl rfl) ?_
    refine Zh 3 rfl rfl rfl rfl (by kernel_rfl) (fun _ _ => Zb (fo := 0) rfl Try.underlying125 rfl i_9 rfl rfl rfl) ?_
    refine Zh 5 rfl rfl rfl rfl (by kernel_rfl) (fun _ _ => Zc rfl rfl) ?_
    refine Zh 6 rfl rfl rfl rfl (by kernel_rfl) (fun _ _ => Zc rfl rfl) ?_
    refine Zh 7 rfl rfl rfl rfl (by kernel_rfl) (fun _ _ => Zl (s := 1) rfl Try.underlying220 i_9 rfl rfl rfl rfl (by omega)) ?_
    refine Zh 8 rfl rfl rfl rfl (by kernel_rfl) (fun _ _ => Zj rfl rfl (Zf 0 rfl) (Zr (val_at hs hy)) Try.underlying9 rfl) ?_
    refine GH_all [4, 9] (by kernel_rfl) (by decide) ?_
    refine (And.intro ?_ (And.intro ?_ trivial))
    ·
     refine Xn rfl rfl rfl rfl (Zj rfl rfl (Zf 1 rfl) rfl Try.underlying9 rfl) ?_
     refine GH_all [9] (by kernel_rfl) (by decide) ?_
     refine (And.intro ?_ trivial)
     ·
      refine Zz (L2 := [_]) rfl rfl rfl rfl rfl rfl Try.call119 (ct_rtext _ (by omega)) [] [] rfl rfl [] (by rintro v post ⟨rfl, rfl⟩; exact ⟨_, rfl⟩) ?_
      rintro v post ⟨rfl, rfl⟩
      show GH _ _ _ _ _ _ _ [_] _
      refine Zh 10 rfl rfl rfl rfl (by kernel_rfl) (fun _ _ => V_sadd rfl rfl rfl (by first | omega | (simp [cOp, cWk, cIv, cHr, cLt, cWt, cIt, cFl, cTn, cCl, cPo, cSt]; done) | (simp [cOp, cWk, cIv, cHr, cLt, cWt, cIt, cFl, cTn, cCl, cPo, cSt]; omega) | (simp [cOp, cWk, cIv, cHr, cLt, cWt, cIt, cFl, cTn, cCl, cPo, cSt] at *; omega))) ?_
      refine Zh 11 rfl rfl rfl rfl (by kernel_rfl) (fun _ _ => Ze rfl rfl) ?_
      refine Zh 12 rfl rfl rfl rfl (by kernel_rfl) (fun _ _ => Zb (fo := 0) rfl Try.underlying125 rfl i_9 rfl rfl rfl) ?_
      refine GH_all [13] (by kernel_rfl) (by decide) ?_
      refine (And.intro ?_ trivial)
      ·
       refine Xi (l1 := []) (L' := [_]) rfl rfl rfl rfl (Zq rfl rfl rfl (Zf 0 rfl) (by first | exact of_decide_eq_true rfl | omega | (simp [cOp, cWk, cIv, cHr, cLt, cWt, cIt, cFl, cTn, cCl, cPo, cSt]; done) | (simp [cOp, cWk, cIv, cHr, cLt, cWt, cIt, cFl, cTn, cCl, cPo, cSt]; omega) | (simp [cOp, cWk, cIv, cHr, cLt, cWt, cIt, cFl, cTn, cCl, cPo, cSt] at *; omega)) i_9 rfl rfl) rfl [] rfl ?_
       refine Zw (by kernel_rfl) ?_
       refine Zs ?_
       refine Zd (l := [0, 1, 2]) rfl ?_
       refine Za rfl rfl rfl rfl (Zc rfl rfl) ?_
       refine Za rfl rfl rfl rfl ((Yu rfl rfl rfl).int (Zv (by omega))) ?_
       refine Za rfl rfl rfl rfl (Zk rfl rfl) ?_
       refine Zg ?_
       refine Yc ?_ [0] ?_ (ih (i + 1, t ++ text y, true) ?_ ?_)
       · (refine (And.intro ?_ (And.intro ?_ (And.intro ?_ trivial))) <;> first | rfl | exact Zm (by omega) | exact Zm (by simp))
       · exact ⟨_, rfl⟩
       · exact ⟨by omega, by rw [← encTs_nx hy, ← List.append_assoc, ← ht], any_nx hy hv (by clear hv ht htl; simp [badT, *])⟩
       · (first | omega | (dsimp only; omega))
    ·
     refine Zz (L2 := [_]) rfl rfl rfl rfl rfl rfl Try.call119 (ct_rtext _ (by omega)) [] [] rfl rfl [] (by rintro v post ⟨rfl, rfl⟩; exact ⟨_, rfl⟩) ?_
     rintro v post ⟨rfl, rfl⟩
     show GH _ _ _ _ _ _ _ [_] _
     refine GH_all [4] (by kernel_rfl) (by decide) ?_
     refine (And.intro ?_ trivial)
     ·
      refine Xn rfl rfl rfl rfl (Zj rfl rfl (Zf 1 rfl) rfl Try.underlying9 rfl) ?_
      refine Zh 10 rfl rfl rfl rfl (by kernel_rfl) (fun _ _ => V_sadd rfl rfl rfl (by first | omega | (simp [cOp, cWk, cIv, cHr, cLt, cWt, cIt, cFl, cTn, cCl, cPo, cSt]; done) | (simp [cOp, cWk, cIv, cHr, cLt, cWt, cIt, cFl, cTn, cCl, cPo, cSt]; omega) | (simp [cOp, cWk, cIv, cHr, cLt, cWt, cIt, cFl, cTn, cCl, cPo, cSt] at *; omega))) ?_
      refine Zh 11 rfl rfl rfl rfl (by kernel_rfl) (fun _ _ => Ze rfl rfl) ?_
      refine Zh 12 rfl rfl rfl rfl (by kernel_rfl) (fun _ _ => Zb (fo := 0) rfl Try.underlying125 rfl i_9 rfl rfl rfl) ?_
      refine GH_all [13] (by kernel_rfl) (by decide) ?_
      refine (And.intro ?_ trivial)
      ·
       refine Xi (l1 := []) (L' := [_]) rfl rfl rfl rfl (Zq rfl rfl rfl (Zf 0 rfl) (by first | exact of_decide_eq_true rfl | omega | (simp [cOp, cWk, cIv, cHr, cLt, cWt, cIt, cFl, cTn, cCl, cPo, cSt]; done) | (simp [cOp, cWk, cIv, cHr, cLt, cWt, cIt, cFl, cTn, cCl, cPo, cSt]; omega) | (simp [cOp, cWk, cIv, cHr, cLt, cWt, cIt, cFl, cTn, cCl, cPo, cSt] at *; omega)) i_9 rfl rfl) rfl [] rfl ?_
       refine Zw (by kernel_rfl) ?_
       refine Zs ?_
       refine Zd (l := [0, 1, 2]) rfl ?_
       refine Za rfl rfl rfl rfl (Zc rfl rfl) ?_
       refine Za rfl rfl rfl rfl ((Yu rfl rfl rfl).int (Zv (by omega))) ?_
       refine Za rfl rfl rfl rfl (Zk rfl rfl) ?_
       refine Zg ?_
       refine Yc ?_ [0] ?_ (ih (i + 1, t ++ text y, true) ?_ ?_)
       · (refine (And.intro ?_ (And.intro ?_ (And.intro ?_ trivial))) <;> first | rfl | exact Zm (by omega) | exact Zm (by simp))
       · exact ⟨_, rfl⟩
       · exact ⟨by omega, by rw [← encTs_nx hy, ← List.append_assoc, ← ht], any_nx hy hv (by clear hv ht htl; simp [badT, *])⟩
       · (first | omega | (dsimp only; omega))
   refine Zu ?_
   refine Ya (Lq := []) (isq := []) (m := 14) Ym rfl rfl ?_
   refine Zh 0 rfl rfl rfl rfl (by kernel_rfl) (fun _ _ => Zc rfl rfl) ?_
   refine Zh 1 rfl rfl rfl rfl (by kernel_rfl) (fun _ _ => Zc rfl rfl) ?_
   refine Zh 2 rfl rfl rfl rfl (by kernel_rfl) (fun _ _ => Ze rfl rfl) ?_
   refine Zh 3 rfl rfl rfl rfl (by kernel_rfl) (fun _ _ => Zb (fo := 0) rfl Try.underlying125 rfl i_9 rfl rfl rfl) ?_
   refine Zh 5 rfl rfl rfl rfl (by kernel_rfl) (fun _ _ => Zc rfl rfl) ?_
   refine Zh 6 rfl rfl rfl rfl (by kernel_rfl) (fun _ _ => Zc rfl rfl) ?_
   refine Zh 7 rfl rfl rfl rfl (by kernel_rfl) (fun _ _ => Zl (s := 1) rfl Try.underlying220 i_9 rfl rfl rfl rfl (by omega)) ?_
   refine Zh 8 rfl rfl rfl rfl (by kernel_rfl) (fun _ _ => Zj rfl rfl (Zf 0 rfl) (Zr (val_at hs hy)) Try.underlying9 rfl) ?_
   refine GH_all [4, 9] (by kernel_rfl) (by decide) ?_
   refine (And.intro ?_ (And.intro ?_ trivial))
   ·
    refine Xn rfl rfl rfl rfl (Zj rfl rfl (Zf 1 rfl) rfl Try.underlying9 rfl) ?_
    refine GH_all [9] (by kernel_rfl) (by decide) ?_
    refine (And.intro ?_ trivial)
    ·
     refine Zz (L2 := [_]) rfl rfl rfl rfl rfl rfl Try.call119 (ct_rtext _ (by omega)) [] [] rfl rfl [] (by rintro v post ⟨rfl, rfl⟩; exact ⟨_, rfl⟩) ?_
     rintro v post ⟨rfl, rfl⟩
     show GH _ _ _ _ _ _ _ [_] _
     refine Zh 10 rfl rfl rfl rfl (by kernel_rfl) (fun _ _ => V_sadd rfl rfl rfl (by first | omega | (simp [cOp, cWk, cIv, cHr, cLt, cWt, cIt, cFl, cTn, cCl, cPo, cSt]; done) | (simp [cOp, cWk, cIv, cHr, cLt, cWt, cIt, cFl, cTn, cCl, cPo, cSt]; omega) | (simp [cOp, cWk, cIv, cHr, cLt, cWt, cIt, cFl, cTn, cCl, cPo, cSt] at *; omega))) ?_
     refine Zh 11 rfl rfl rfl rfl (by kernel_rfl) (fun _ _ => Ze rfl rfl) ?_
     refine Zh 12 rfl rfl rfl rfl (by kernel_rfl) (fun _ _ => Zb (fo := 0) rfl Try.underlying125 rfl i_9 rfl rfl rfl) ?_
     refine GH_all [13] (by kernel_rfl) (by decide) ?_
     refine (And.intro ?_ trivial)
     ·
      refine Xi (l1 := []) (L' := [_]) rfl rfl rfl rfl (Zq rfl rfl rfl (Zf 0 rfl) (by first | exact of_decide_eq_true rfl | omega | (simp [cOp, cWk, cIv, cHr, cLt, cWt, cIt, cFl, cTn, cCl, cPo, cSt]; done) | (simp [cOp, cWk, cIv, cHr, cLt, cWt, cIt, cFl, cTn, cCl, cPo, cSt]; omega) | (simp [cOp, cWk, cIv, cHr, cLt, cWt, cIt, cFl, cTn, cCl, cPo, cSt] at *; omega)) i_9 rfl rfl) rfl [] rfl ?_
      refine Zw (by kernel_rfl) ?_
      refine Zs ?_
      refine Zd (l := [0, 1, 2]) rfl ?_
      refine Za rfl rfl rfl rfl (Zc rfl rfl) ?_
      refine Za rfl rfl rfl rfl ((Yu rfl rfl rfl).int (Zv (by omega))) ?_
      refine Za rfl rfl rfl rfl (Zk rfl rfl) ?_
      refine Zg ?_
      refine Yc ?_ [0] ?_ (ih (i + 1, t ++ text y, v) ?_ ?_)
      · (refine (And.intro ?_ (And.intro ?_ (And.intro ?_ trivial))) <;> first | rfl | exact Zm (by omega) | exact Zm (by simp))
      · exact ⟨_, rfl⟩
      · exact ⟨by omega, by rw [← encTs_nx hy, ← List.append_assoc, ← ht], any_nx hy hv (by clear hv ht htl; simp [badT, *])⟩
      · (first | omega | (dsimp only; omega))
   ·
    refine Zz (L2 := [_]) rfl rfl rfl rfl rfl rfl Try.call119 (ct_rtext _ (by omega)) [] [] rfl rfl [] (by rintro v post ⟨rfl, rfl⟩; exact ⟨_, rfl⟩) ?_
    rintro v post ⟨rfl, rfl⟩
    show GH _ _ _ _ _ _ _ [_] _
    refine GH_all [4] (by kernel_rfl) (by decide) ?_
    refine (And.intro ?_ trivial)
    ·
     refine Xn rfl rfl rfl rfl (Zj rfl rfl (Zf 1 rfl) rfl Try.underlying9 rfl) ?_
     refine Zh 10 rfl rfl rfl rfl (by kernel_rfl) (fun _ _ => V_sadd rfl rfl rfl (by first | omega | (simp [cOp, cWk, cIv, cHr, cLt, cWt, cIt, cFl, cTn, cCl, cPo, cSt]; done) | (simp [cOp, cWk, cIv, cHr, cLt, cWt, cIt, cFl, cTn, cCl, cPo, cSt]; omega) | (simp [cOp, cWk, cIv, cHr, cLt, cWt, cIt, cFl, cTn, cCl, cPo, cSt] at *; omega))) ?_
     refine Zh 11 rfl rfl rfl rfl (by kernel_rfl) (fun _ _ => Ze rfl rfl) ?_
     refine Zh 12 rfl rfl rfl rfl (by kernel_rfl) (fun _ _ => Zb (fo := 0) rfl Try.underlying125 rfl i_9 rfl rfl rfl) ?_
     refine GH_all [13] (by kernel_rfl) (by decide) ?_
     refine (And.intro ?_ trivial)
     ·
      refine Xi (l1 := []) (L' := [_]) rfl rfl rfl rfl (Zq rfl rfl rfl (Zf 0 rfl) (by first | exact of_decide_eq_true rfl | omega | (simp [cOp, cWk, cIv, cHr, cLt, cWt, cIt, cFl, cTn, cCl, cPo, cSt]; done) | (simp [cOp, cWk, cIv, cHr, cLt, cWt, cIt, cFl, cTn, cCl, cPo, cSt]; omega) | (simp [cOp, cWk, cIv, cHr, cLt, cWt, cIt, cFl, cTn, cCl, cPo, cSt] at *; omega)) i_9 rfl rfl) rfl [] rfl ?_
      refine Zw (by kernel_rfl) ?_
      refine Zs ?_
      refine Zd (l := [0, 1, 2]) rfl ?_
      refine Za rfl rfl rfl rfl (Zc rfl rfl) ?_
      refine Za rfl rfl rfl rfl ((Yu rfl rfl rfl).int (Zv (by omega))) ?_
      refine Za rfl rfl rfl rfl (Zk rfl rfl) ?_
      refine Zg ?_
      refine Yc ?_ [0] ?_ (ih (i + 1, t ++ text y, v) ?_ ?_)
      · (refine (And.intro ?_ (And.intro ?_ (And.intro ?_ trivial))) <;> first | rfl | exact Zm (by omega) | exact Zm (by simp))
      · exact ⟨_, rfl⟩
      · exact ⟨by omega, by rw [← encTs_nx hy, ← List.append_assoc, ← ht], any_nx hy hv (by clear hv ht htl; simp [badT, *])⟩
      · (first | omega | (dsimp only; omega))
  refine Yx rfl ?_
  refine G_end (post := [_]) Try.func62 rfl Zo [0] rfl ?_
  dsimp only [packed]
  have e : ks.take i = ks := List.take_of_length_le (by omega)
  rw [e] at ht
  try rw [e] at hv
  subst ht hv
  exact ⟨rfl, rfl⟩

set_option maxRecDepth 100000 in
set_option maxHeartbeats 1000000 in
theorem rw_nums (b : Nat) (tx : List UInt8) (w : Bool) (o1 : Option Nat) (p1 q1 : Nat) (c1 : Array Value) (T1 : TypeId) (f1 : Nat × Nat) (ks : List (Nat)) (hs : Sees 1 o1 p1 q1 c1 (ks.map fun y : Nat => .int .u64 (y : Int)) ks.length) (hn : ∀ y ∈ ks, y < 18446744073709551616) (hl : tx.length + (encUs ks).length ≤ 140737488350000) :
    Ct Try.prog 57 [.pointer (some ⟨b, 0, none⟩), sv o1 p1 ks.length q1] [(o1, .cells c1 T1 f1)] [(some b, .cells #[.string (bs (tx)), .bool w] 125 (0, 0))] fun v post => v = .tuple #[] ∧ post = [(some b, .cells #[.string (bs (tx ++ encUs ks)), .bool w] 125 (0, 0))] := by
 have hl1 := hs.le
 have hl2 := hs.max
 refine Yv Try.func57 rfl rfl (fun w0 => ?_)
 show G _ _ [(0, _), (1, _)] _ _
 refine Zi ?_
 refine Zd (l := [0]) rfl ?_
 refine Za rfl rfl rfl rfl (Zk rfl rfl) ?_
 refine Zg ?_
 refine Zp ?_
 refine Yc ?he1 [0] ?hl1 (Xc (X := Nat × List UInt8 × Bool) (fun x_ => match x_ with | ⟨i, t, v⟩ => i ≤ ks.length ∧ t = tx ++ encUs (ks.take i) ∧ v = w) (fun x_ => match x_ with | ⟨i, t, v⟩ => ks.length - i) (fun x_ => match x_ with | ⟨i, t, v⟩ => [(0, .pointer (some ⟨b, 0, none⟩)), (1, sv o1 p1 ks.length q1), (4, .int .i64 (i : Int))]) (fun x_ => match x_ with | ⟨i, t, v⟩ => [(some b, .cells #[.string (bs (t)), .bool v] 125 (0, 0))]) ?round1 (0, tx, w) ?h01)
 case he1 => exact (And.intro rfl (And.intro rfl (And.intro rfl trivial)))
 case hl1 => exact ⟨_, rfl⟩
 case h01 => exact ⟨Nat.zero_le _, by simp [encUs], by simp⟩
 case round1 =>
  intro x_ hJ ih
  try dsimp only at hJ ih
  obtain ⟨i, t, v⟩ := x_
  try dsimp only at hJ ih
  obtain ⟨hi, ht, hv⟩ := hJ
  show G _ _ [(0, .pointer (some ⟨b, 0, none⟩)), (1, sv o1 p1 ks.length q1), (4, .int .i64 (i : Int))] [(some b, .cells #[.string (bs (t)), .bool v] 125 (0, 0))] _
  refine Zi ?_
  refine Zi ?_
  refine Zd (l := [0, 1, 2, 3]) rfl ?_
  refine Za rfl rfl rfl rfl (Zc rfl rfl) ?_
  refine Za rfl rfl rfl rfl (Zc rfl rfl) ?_
  refine Za rfl rfl rfl rfl (Yf rfl rfl Try.underlying219 rfl) ?_
  refine Za rfl rfl rfl rfl (Xh rfl rfl rfl) ?_
  refine Zg ?_
  refine Yl rfl (fun hc1 => ?_) (fun hc1 => ?_)
  ·
   refine Zu ?_
   refine Zi ?_
   refine Zp ?_
   obtain ⟨y, hy⟩ := Xv (show i < ks.length by omega)
   obtain ⟨bo1, rfl⟩ := hs.isSome (by omega)
   have hym := List.mem_of_getElem? hy
   have hpl := encUs_le ks (i + 1)
   rw [← encUs_nx hy, List.length_append] at hpl
   have htl := congrArg List.length ht
   rw [List.length_append] at htl
   have hyn := hn y hym
   refine Ya (Lq := []) (isq := []) (m := 14) Ym rfl rfl ?_
   refine Zh 0 rfl rfl rfl rfl (by kernel_rfl) (fun _ _ => Zc rfl rfl) ?_
   refine Zh 1 rfl rfl rfl rfl (by kernel_rfl) (fun _ _ => Zc rfl rfl) ?_
   refine Zh 2 rfl rfl rfl rfl (by kernel_rfl) (fun _ _ => Ze rfl rfl) ?_
   refine Zh 3 rfl rfl rfl rfl (by kernel_rfl) (fun _ _ => Zb (fo := 0) rfl Try.underlying125 rfl i_9 rfl rfl rfl) ?_
   refine Zh 5 rfl rfl rfl rfl (by kernel_rfl) (fun _ _ => Zc rfl rfl) ?_
   refine Zh 6 rfl rfl rfl rfl (by kernel_rfl) (fun _ _ => Zc rfl rfl) ?_
   refine Zh 7 rfl rfl rfl rfl (by kernel_rfl) (fun _ _ => Zl (s := 1) rfl Try.underlying219 i_23 rfl rfl rfl rfl (by omega)) ?_
   refine Zh 8 rfl rfl rfl rfl (by kernel_rfl) (fun _ _ => Zj rfl rfl (Zf 0 rfl) (Zr (val_at hs hy)) Try.underlying23 rfl) ?_
   refine GH_all [4, 9] (by kernel_rfl) (by decide) ?_
   refine (And.intro ?_ (And.intro ?_ trivial))
   ·
    refine Xn rfl rfl rfl rfl (Zj rfl rfl (Zf 1 rfl) rfl Try.underlying9 rfl) ?_
    refine GH_all [9] (by kernel_rfl) (by decide) ?_
    refine (And.intro ?_ trivial)
    ·
     refine Zz (L2 := [_]) rfl rfl rfl rfl rfl rfl Try.call118 (ct_rchain _ (by omega) (by omega)) [] [] rfl rfl [] (by rintro v post ⟨rfl, rfl⟩; exact ⟨_, rfl⟩) ?_
     rintro v post ⟨rfl, rfl⟩
     show GH _ _ _ _ _ _ _ [_] _
     refine Zh 10 rfl rfl rfl rfl (by kernel_rfl) (fun _ _ => V_sadd rfl rfl rfl (by first | omega | (simp [cOp, cWk, cIv, cHr, cLt, cWt, cIt, cFl, cTn, cCl, cPo, cSt]; done) | (simp [cOp, cWk, cIv, cHr, cLt, cWt, cIt, cFl, cTn, cCl, cPo, cSt]; omega) | (simp [cOp, cWk, cIv, cHr, cLt, cWt, cIt, cFl, cTn, cCl, cPo, cSt] at *; omega))) ?_
     refine Zh 11 rfl rfl rfl rfl (by kernel_rfl) (fun _ _ => Ze rfl rfl) ?_
     refine Zh 12 rfl rfl rfl rfl (by kernel_rfl) (fun _ _ => Zb (fo := 0) rfl Try.underlying125 rfl i_9 rfl rfl rfl) ?_
     refine GH_all [13] (by kernel_rfl) (by decide) ?_
     refine (And.intro ?_ trivial)
     ·
      refine Xi (l1 := []) (L' := [_]) rfl rfl rfl rfl (Zq rfl rfl rfl (Zf 0 rfl) (by first | exact of_decide_eq_true rfl | omega | (simp [cOp, cWk, cIv, cHr, cLt, cWt, cIt, cFl, cTn, cCl, cPo, cSt]; done) | (simp [cOp, cWk, cIv, cHr, cLt, cWt, cIt, cFl, cTn, cCl, cPo, cSt]; omega) | (simp [cOp, cWk, cIv, cHr, cLt, cWt, cIt, cFl, cTn, cCl, cPo, cSt] at *; omega)) i_9 rfl rfl) rfl [] rfl ?_
      refine Zw (by kernel_rfl) ?_
      refine Zs ?_
      refine Zd (l := [0, 1, 2]) rfl ?_
      refine Za rfl rfl rfl rfl (Zc rfl rfl) ?_
      refine Za rfl rfl rfl rfl ((Yu rfl rfl rfl).int (Zv (by omega))) ?_
      refine Za rfl rfl rfl rfl (Zk rfl rfl) ?_
      refine Zg ?_
      refine Yc ?_ [0] ?_ (ih (i + 1, t ++ chainI (y : Int), v) ?_ ?_)
      · (refine (And.intro ?_ (And.intro ?_ (And.intro ?_ trivial))) <;> first | rfl | exact Zm (by omega) | exact Zm (by simp))
      · exact ⟨_, rfl⟩
      · exact ⟨by omega, by rw [← encUs_nx hy, ← List.append_assoc, ← ht], hv⟩
      · (first | omega | (dsimp only; omega))
   ·
    refine Zz (L2 := [_]) rfl rfl rfl rfl rfl rfl Try.call118 (ct_rchain _ (by omega) (by omega)) [] [] rfl rfl [] (by rintro v post ⟨rfl, rfl⟩; exact ⟨_, rfl⟩) ?_
    rintro v post ⟨rfl, rfl⟩
    show GH _ _ _ _ _ _ _ [_] _
    refine GH_all [4] (by kernel_rfl) (by decide) ?_
    refine (And.intro ?_ trivial)
    ·
     refine Xn rfl rfl rfl rfl (Zj rfl rfl (Zf 1 rfl) rfl Try.underlying9 rfl) ?_
     refine Zh 10 rfl rfl rfl rfl (by kernel_rfl) (fun _ _ => V_sadd rfl rfl rfl (by first | omega | (simp [cOp, cWk, cIv, cHr, cLt, cWt, cIt, cFl, cTn, cCl, cPo, cSt]; done) | (simp [cOp, cWk, cIv, cHr, cLt, cWt, cIt, cFl, cTn, cCl, cPo, cSt]; omega) | (simp [cOp, cWk, cIv, cHr, cLt, cWt, cIt, cFl, cTn, cCl, cPo, cSt] at *; omega))) ?_
     refine Zh 11 rfl rfl rfl rfl (by kernel_rfl) (fun _ _ => Ze rfl rfl) ?_
     refine Zh 12 rfl rfl rfl rfl (by kernel_rfl) (fun _ _ => Zb (fo := 0) rfl Try.underlying125 rfl i_9 rfl rfl rfl) ?_
     refine GH_all [13] (by kernel_rfl) (by decide) ?_
     refine (And.intro ?_ trivial)
     ·
      refine Xi (l1 := []) (L' := [_]) rfl rfl rfl rfl (Zq rfl rfl rfl (Zf 0 rfl) (by first | exact of_decide_eq_true rfl | omega | (simp [cOp, cWk, cIv, cHr, cLt, cWt, cIt, cFl, cTn, cCl, cPo, cSt]; done) | (simp [cOp, cWk, cIv, cHr, cLt, cWt, cIt, cFl, cTn, cCl, cPo, cSt]; omega) | (simp [cOp, cWk, cIv, cHr, cLt, cWt, cIt, cFl, cTn, cCl, cPo, cSt] at *; omega)) i_9 rfl rfl) rfl [] rfl ?_
      refine Zw (by kernel_rfl) ?_
      refine Zs ?_
      refine Zd (l := [0, 1, 2]) rfl ?_
      refine Za rfl rfl rfl rfl (Zc rfl rfl) ?_
      refine Za rfl rfl rfl rfl ((Yu rfl rfl rfl).int (Zv (by omega))) ?_
      refine Za rfl rfl rfl rfl (Zk rfl rfl) ?_
      refine Zg ?_
      refine Yc ?_ [0] ?_ (ih (i + 1, t ++ chainI (y : Int), v) ?_ ?_)
      · (refine (And.intro ?_ (And.intro ?_ (And.intro ?_ trivial))) <;> first | rfl | exact Zm (by omega) | exact Zm (by simp))
      · exact ⟨_, rfl⟩
      · exact ⟨by omega, by rw [← encUs_nx hy, ← List.append_assoc, ← ht], hv⟩
      · (first | omega | (dsimp only; omega))
  refine Yx rfl ?_
  refine G_end (post := [_]) Try.func57 rfl Zo [0] rfl ?_
  dsimp only [packed]
  have e : ks.take i = ks := List.take_of_length_le (by omega)
  rw [e] at ht
  try rw [e] at hv
  subst ht hv
  exact ⟨rfl, rfl⟩

theorem rw_intsL (b : Nat) (tx : List UInt8) (w : Bool) (b2 : Nat) (T2 : TypeId) (ks : List (Int)) (hn : ks.length ≤ 1000) (hl : tx.length + (encIs ks).length ≤ 140737488350000) :
    Ct Try.prog 59 [.pointer (some ⟨b, 0, none⟩), .slice (some ⟨b2, 0, none⟩) ks.length ks.length] [(some b2, .cells (ks.map fun y : Int => .int .i64 y).toArray T2 (0, 0))] [(some b, .cells #[.string (bs (tx)), .bool w] 125 (0, 0))]
      (fun v post => v = .tuple #[] ∧ post = [(some b, .cells #[.string (bs (tx ++ encIs ks)), .bool (w || ks.any badI)] 125 (0, 0))]) :=
  rw_ints b tx w (some b2) 0 ks.length _ T2 (0, 0) ks ⟨by simp, Nat.le_refl _, by omega, by rw [Nat.mul_one, List.drop_zero]; exact List.take_of_length_le (by simp), fun h => by cases h⟩ hl
theorem rw_textsL (b : Nat) (tx : List UInt8) (w : Bool) (b2 : Nat) (T2 : TypeId) (ks : List (List UInt8)) (hn : ks.length ≤ 1000) (hl : tx.length + (encTs ks).length ≤ 140737488350000) :
    Ct Try.prog 62 [.pointer (some ⟨b, 0, none⟩), .slice (some ⟨b2, 0, none⟩) ks.length ks.length] [(some b2, .cells (ks.map fun y : List UInt8 => .string (bs y)).toArray T2 (0, 0))] [(some b, .cells #[.string (bs (tx)), .bool w] 125 (0, 0))]
      (fun v post => v = .tuple #[] ∧ post = [(some b, .cells #[.string (bs (tx ++ encTs ks)), .bool (w || ks.any badT)] 125 (0, 0))]) :=
  rw_texts b tx w (some b2) 0 ks.length _ T2 (0, 0) ks ⟨by simp, Nat.le_refl _, by omega, by rw [Nat.mul_one, List.drop_zero]; exact List.take_of_length_le (by simp), fun h => by cases h⟩ hl
theorem rw_numsL (b : Nat) (tx : List UInt8) (w : Bool) (b2 : Nat) (T2 : TypeId) (ks : List (Nat)) (hn : ks.length ≤ 1000) (hu : ∀ y ∈ ks, y < 18446744073709551616) (hl : tx.length + (encUs ks).length ≤ 140737488350000) :
    Ct Try.prog 57 [.pointer (some ⟨b, 0, none⟩), .slice (some ⟨b2, 0, none⟩) ks.length ks.length] [(some b2, .cells (ks.map fun y : Nat => .int .u64 (y : Int)).toArray T2 (0, 0))] [(some b, .cells #[.string (bs (tx)), .bool w] 125 (0, 0))]
      (fun v post => v = .tuple #[] ∧ post = [(some b, .cells #[.string (bs (tx ++ encUs ks)), .bool w] 125 (0, 0))]) :=
  rw_nums b tx w (some b2) 0 ks.length _ T2 (0, 0) ks ⟨by simp, Nat.le_refl _, by omega, by rw [Nat.mul_one, List.drop_zero]; exact List.take_of_length_le (by simp), fun h => by cases h⟩ hu hl

theorem encB_is (n : Bool) : encB n = encIs [if n then 1 else 0] := by
  have h0 := encI_of (x := 0) (by omega) (by omega)
  have h1 := encI_of (x := 1) (by omega) (by omega)
  cases n <;> simp [encB, encIs, h0, h1]
end
end Go.Proofs.Ytjnaeoelnmhjfaa

set_option linter.unusedSimpArgs false
set_option linter.unusedVariables false
namespace Go.Proofs.Ytjnaeoelnmhjfaa
open Go Go.RowKit

section
set_option maxRecDepth 100000 in
set_option maxHeartbeats 1000000 in
theorem rw_flag (b : Nat) (tx : List UInt8) (w : Bool) (g : Bool) (hl : tx.length + (encB g).length ≤ 140737488350000) :
    Ct Try.prog 58 [.pointer (some ⟨b, 0, none⟩), .bool g] [] [(some b, .cells #[.string (bs (tx)), .bool w] 125 (0, 0))] fun v post => v = .tuple #[] ∧ post = [(some b, .cells #[.string (bs (tx ++ encB g)), .bool w] 125 (0, 0))] := by
 rw [encB_is] at hl
 refine Yv Try.func58 rfl rfl (fun w0 => ?_)
 show G _ _ [(0, _), (1, _)] _ _
 refine Zi ?_
 refine Zd (l := [0]) rfl ?_
 refine Za rfl rfl rfl rfl (Zc rfl rfl) ?_
 refine Zg ?_
 refine G_if rfl (fun hc1 => ?_) (fun hc1 => ?_)
 ·
  refine Zd (l := [0, 1, 2]) rfl ?_
  refine Za rfl rfl rfl rfl (Zc rfl rfl) ?_
  refine Yr rfl rfl rfl rfl (Zn (s := 1) (cs := [_]) rfl Try.underlying99 i_3 rfl rfl rfl rfl rfl rfl rfl rfl rfl) (fun b6 => ?_)
  refine Yh (L2 := [_]) rfl rfl rfl rfl rfl rfl Try.call59 (rw_intsL b tx w _ _ [1] (by simp) (by first | (subst g; simpa using hl) | simpa [*] using hl)) [1] [0] rfl rfl ?_
  rintro v post ⟨rfl, rfl⟩
  show G _ _ _ [_, _] _
  refine Zg ?_
  refine G_end (post := [_]) Try.func58 rfl Zo [0] rfl ?_
  dsimp only [packed]
  refine ⟨rfl, ?_⟩
  rw [encB_is]
  simp [badI, *]
 refine Zd (l := [0, 1, 2]) rfl ?_
 refine Za rfl rfl rfl rfl (Zc rfl rfl) ?_
 refine Yr rfl rfl rfl rfl (Zn (s := 1) (cs := [_]) rfl Try.underlying99 i_3 rfl rfl rfl rfl rfl rfl rfl rfl rfl) (fun b9 => ?_)
 refine Yh (L2 := [_]) rfl rfl rfl rfl rfl rfl Try.call59 (rw_intsL b tx w _ _ [0] (by simp) (by first | (subst g; simpa using hl) | simpa [*] using hl)) [1] [0] rfl rfl ?_
 rintro v post ⟨rfl, rfl⟩
 show G _ _ _ [_, _] _
 refine Zg ?_
 refine G_end (post := [_]) Try.func58 rfl Zo [0] rfl ?_
 dsimp only [packed]
 refine ⟨rfl, ?_⟩
 rw [encB_is]
 simp [badI, *]

set_option maxRecDepth 100000 in
set_option maxHeartbeats 1000000 in
theorem rw_count (b : Nat) (tx : List UInt8) (w : Bool) (n : Nat) (hn : n ≤ 1048576) (hl : tx.length + (chainI (n : Int)).length ≤ 140737488350000) :
    Ct Try.prog 61 [.pointer (some ⟨b, 0, none⟩), .int .i64 (n : Int)] [] [(some b, .cells #[.string (bs (tx)), .bool w] 125 (0, 0))] fun v post => v = .tuple #[] ∧ post = [(some b, .cells #[.string (bs (tx ++ chainI (n : Int))), .bool (w || decide (1000 < (n : Int)))] 125 (0, 0))] := by
 have e1 : encIs [(n : Int)] = chainI (n : Int) := by simp [encIs, encI_of (x := (n : Int)) (by omega) (by omega)]
 have e2 : badI (n : Int) = false := by unfold badI; exact decide_eq_false (by omega)
 refine Yv Try.func61 rfl rfl (fun w0 => ?_)
 show G _ _ [(0, _), (1, _)] _ _
 refine Zi ?_
 refine Zi ?_
 refine Zd (l := [0, 1]) rfl ?_
 refine Za rfl rfl rfl rfl (Zc rfl rfl) ?_
 refine Za rfl rfl rfl rfl (V_gtr rfl rfl rfl) ?_
 refine Zg ?_
 refine Yl rfl (fun hc1 => ?_) (fun hc1 => ?_)
 ·
  refine Zd (l := [0, 1, 2, 3]) rfl ?_
  refine Za rfl rfl rfl rfl (Zc rfl rfl) ?_
  refine Za rfl rfl rfl rfl (Ze rfl rfl) ?_
  refine Za rfl rfl rfl rfl (Zb (fo := 1) rfl Try.underlying125 rfl i_4 rfl rfl rfl) ?_
  refine Xl (l1 := []) (L' := [_]) rfl rfl rfl rfl (Zq rfl rfl rfl (Zf 0 rfl) (by first | exact of_decide_eq_true rfl | omega | (simp [cOp, cWk, cIv, cHr, cLt, cWt, cIt, cFl, cTn, cCl, cPo, cSt]; done) | (simp [cOp, cWk, cIv, cHr, cLt, cWt, cIt, cFl, cTn, cCl, cPo, cSt]; omega) | (simp [cOp, cWk, cIv, cHr, cLt, cWt, cIt, cFl, cTn, cCl, cPo, cSt] at *; omega)) i_4 rfl rfl) rfl ?_
  refine Zg ?_
  refine Zd (l := [0, 1, 2, 3]) rfl ?_
  refine Za rfl rfl rfl rfl (Zc rfl rfl) ?_
  refine Za rfl rfl rfl rfl (Zc rfl rfl) ?_
  refine Yr rfl rfl rfl rfl (Zn (s := 1) (cs := [_]) rfl Try.underlying99 i_3 rfl rfl rfl rfl rfl rfl rfl rfl rfl) (fun b11 => ?_)
  refine Yh (L2 := [_]) rfl rfl rfl rfl rfl rfl Try.call59 (rw_intsL b tx true _ _ [(n : Int)] (by simp) (by rw [e1]; exact hl)) [1] [0] rfl rfl ?_
  rintro v post ⟨rfl, rfl⟩
  show G _ _ _ [_, _] _
  refine Zg ?_
  refine G_end (post := [_]) Try.func61 rfl Zo [0] rfl ?_
  dsimp only [packed]
  refine ⟨rfl, ?_⟩
  rw [e1]
  simp [e2, *]
 refine Zu ?_
 refine Zd (l := [0, 1, 2, 3]) rfl ?_
 refine Za rfl rfl rfl rfl (Zc rfl rfl) ?_
 refine Za rfl rfl rfl rfl (Zc rfl rfl) ?_
 refine Yr rfl rfl rfl rfl (Zn (s := 1) (cs := [_]) rfl Try.underlying99 i_3 rfl rfl rfl rfl rfl rfl rfl rfl rfl) (fun b11 => ?_)
 refine Yh (L2 := [_]) rfl rfl rfl rfl rfl rfl Try.call59 (rw_intsL b tx w _ _ [(n : Int)] (by simp) (by rw [e1]; exact hl)) [1] [0] rfl rfl ?_
 rintro v post ⟨rfl, rfl⟩
 show G _ _ _ [_, _] _
 refine Zg ?_
 refine G_end (post := [_]) Try.func61 rfl Zo [0] rfl ?_
 dsimp only [packed]
 refine ⟨rfl, ?_⟩
 rw [e1]
 simp [e2, *]

end
end Go.Proofs.Ytjnaeoelnmhjfaa

set_option linter.unusedSimpArgs false
set_option linter.unusedVariables false
namespace Go.Proofs.Ytjnaeoelnmhjfaa
open Go Go.RowKit

section
set_option maxRecDepth 100000 in
set_option maxHeartbeats 2000000 in
theorem rw_ops (b : Nat) (tx : List UInt8) (w : Bool) (s : Ins Op) (hs : InsOk 18 cOp s) (hok : ∀ x ∈ s.l, OkOp x) (hl : tx.length + (encL encOp s.l).length ≤ 140737488350000) :
    Ct Try.prog 60 [.pointer (some ⟨b, 0, none⟩), .slice s.p s.l.length s.cap] [insK s] [(some b, .cells #[.string (bs (tx)), .bool w] 125 (0, 0))] fun v post => v = .tuple #[] ∧ post = [(some b, .cells #[.string (bs (tx ++ encL encOp s.l)), .bool (w || badL badOp s.l)] 125 (0, 0))] := by
 have hl1 := hs.le
 have hl2 := hs.max
 have hln := hs.n
 have hl_ := hl
 unfold encL at hl_
 simp only [List.length_append] at hl_
 refine Yv Try.func60 rfl rfl (fun w0 => ?_)
 show G _ _ [(0, _), (1, _)] _ _
 refine Zi ?_
 refine Zd (l := [0, 1, 2, 3]) rfl ?_
 refine Za rfl rfl rfl rfl (Zc rfl rfl) ?_
 refine Za rfl rfl rfl rfl (Zc rfl rfl) ?_
 refine Za rfl rfl rfl rfl (Yf rfl rfl Try.underlying24 rfl) ?_
 refine Yh (L2 := []) rfl rfl rfl rfl rfl rfl Try.call61 (rw_count b tx w s.l.length hs.n (by omega)) [0] [] rfl rfl ?_
 rintro v post ⟨rfl, rfl⟩
 show G _ _ _ [_] _
 refine Zg ?_
 refine Zi ?_
 refine Zd (l := [0]) rfl ?_
 refine Za rfl rfl rfl rfl (Zk rfl rfl) ?_
 refine Zg ?_
 refine Zp ?_
 refine Yc ?he2 [0] ?hl2 (Xc (X := Nat × List UInt8 × Bool) (fun x_ => match x_ with | ⟨i, t, v⟩ => i ≤ s.l.length ∧ t = tx ++ (chainI (s.l.length : Int) ++ (s.l.take i).flatMap encOp) ∧ v = (w || (decide (1000 < (s.l.length : Int)) || (s.l.take i).any badOp))) (fun x_ => match x_ with | ⟨i, t, v⟩ => s.l.length - i) (fun x_ => match x_ with | ⟨i, t, v⟩ => [(0, .pointer (some ⟨b, 0, none⟩)), (1, .slice s.p s.l.length s.cap), (4, .int .i64 (i : Int))]) (fun x_ => match x_ with | ⟨i, t, v⟩ => [(some b, .cells #[.string (bs (t)), .bool v] 125 (0, 0))]) ?round2 (0, tx ++ chainI (s.l.length : Int), (w || decide (1000 < (s.l.length : Int)))) ?h02)
 case he2 => exact (And.intro rfl (And.intro rfl (And.intro rfl trivial)))
 case hl2 => exact ⟨_, rfl⟩
 case h02 => exact ⟨Nat.zero_le _, by simp, by simp⟩
 case round2 =>
  intro x_ hJ ih
  try dsimp only at hJ ih
  obtain ⟨i, t, v⟩ := x_
  try dsimp only at hJ ih
  obtain ⟨hi, ht, hv⟩ := hJ
  show G _ _ [(0, .pointer (some ⟨b, 0, none⟩)), (1, .slice s.p s.l.length s.cap), (4, .int .i64 (i : Int))] [(some b, .cells #[.string (bs (t)), .bool v] 125 (0, 0))] _
  refine Zi ?_
  refine Zi ?_
  refine Zd (l := [0, 1, 2, 3]) rfl ?_
  refine Za rfl rfl rfl rfl (Zc rfl rfl) ?_
  refine Za rfl rfl rfl rfl (Zc rfl rfl) ?_
  refine Za rfl rfl rfl rfl (Yf rfl rfl Try.underlying24 rfl) ?_
  refine Za rfl rfl rfl rfl (Xh rfl rfl rfl) ?_
  refine Zg ?_
  refine Yl rfl (fun hc1 => ?_) (fun hc1 => ?_)
  ·
   refine Zu ?_
   refine Zi ?_
   refine Zp ?_
   refine Zi ?_
   obtain ⟨x, hx⟩ := Xv (show i < s.l.length by omega)
   obtain ⟨bi, hb1, hb2, hss⟩ := hs.isS (i := i) (by omega)
   have hxo := hok x (List.mem_of_getElem? hx)
   unfold OkOp at hxo
   have hfl := fmap_len encOp s.l (i + 1)
   rw [← Yw encOp hx, List.length_append] at hfl
   have hel : (encOp x).length = (encIs [x.v0, x.v1, x.v2, x.v6, x.v7, x.v8, x.v9, x.v10, x.v11, x.v12, x.v13, x.v14] ++ (encTs [x.v3, x.v4, x.v5] ++ (chainI (x.v15 : Int) ++ (chainI (x.v16 : Int) ++ (chainI (x.v17 : Int)))))).length := rfl
   simp only [List.length_append] at hel
   have htl := congrArg List.length ht
   simp only [List.length_append] at htl
   have hu3 : (encUs [x.v15, x.v16, x.v17]).length = (chainI (x.v15 : Int)).length + ((chainI (x.v16 : Int)).length + (chainI (x.v17 : Int)).length) := by simp [encUs]
   refine Zd (l := [0, 1, 2, 3, 4, 5]) rfl ?_
   refine Za rfl rfl rfl rfl (Zc rfl rfl) ?_
   rw [hb1]
   refine Za rfl rfl rfl rfl (Zc rfl rfl) ?_
   refine Za rfl rfl rfl rfl (Zl (s := 18) rfl Try.underlying24 i_137 rfl rfl rfl rfl (by omega)) ?_
   refine Za rfl rfl rfl rfl (Xm (s := 18) (vs := (cOp x).toArray) rfl rfl (by rw [← Yg hb2]; exact Zf 0 rfl) Try.underlying137 rfl i_137 rfl (hss.elem cOp_len hx) (by rfl)) ?_
   refine Yr rfl rfl rfl rfl (Xb rfl i_137 rfl) (fun b5 => ?_)
   refine Xl (l1 := []) (L' := [_, _]) rfl rfl rfl rfl (Xk (s := 18) rfl rfl rfl (Zf 0 rfl) (by rfl) i_137 rfl (by rfl) (by simp [Value.oneCell', cOp, cWk, cIv, cHr, cLt, cWt, cIt, cFl, cTn, cCl, cPo, cSt])) rfl ?_
   refine Zg ?_
   refine Zi ?_
   refine Zd (l := [0, 1, 2, 3, 4, 5, 6, 7, 8, 9, 10, 11, 12, 13, 14, 15, 16, 17, 18, 19, 20, 21, 22, 23, 24, 25, 26]) rfl ?_
   refine Za rfl rfl rfl rfl (Zc rfl rfl) ?_
   refine Za rfl rfl rfl rfl (Zb (fo := 0) rfl Try.underlying137 rfl i_3 rfl rfl rfl) ?_
   refine Za rfl rfl rfl rfl (Zj rfl rfl (Zf 1 rfl) rfl Try.underlying3 rfl) ?_
   refine Za rfl rfl rfl rfl (Zb (fo := 1) rfl Try.underlying137 rfl i_3 rfl rfl rfl) ?_
   refine Za rfl rfl rfl rfl (Zj rfl rfl (Zf 1 rfl) rfl Try.underlying3 rfl) ?_
   refine Za rfl rfl rfl rfl (Zb (fo := 2) rfl Try.underlying137 rfl i_3 rfl rfl rfl) ?_
   refine Za rfl rfl rfl rfl (Zj rfl rfl (Zf 1 rfl) rfl Try.underlying3 rfl) ?_
   refine Za rfl rfl rfl rfl (Zb (fo := 6) rfl Try.underlying137 rfl i_3 rfl rfl rfl) ?_
   refine Za rfl rfl rfl rfl (Zj rfl rfl (Zf 1 rfl) rfl Try.underlying3 rfl) ?_
   refine Za rfl rfl rfl rfl (Zb (fo := 7) rfl Try.underlying137 rfl i_3 rfl rfl rfl) ?_
   refine Za rfl rfl rfl rfl (Zj rfl rfl (Zf 1 rfl) rfl Try.underlying3 rfl) ?_
   refine Za rfl rfl rfl rfl (Zb (fo := 8) rfl Try.underlying137 rfl i_3 rfl rfl rfl) ?_
   refine Za rfl rfl rfl rfl (Zj rfl rfl (Zf 1 rfl) rfl Try.underlying3 rfl) ?_
   refine Za rfl rfl rfl rfl (Zb (fo := 9) rfl Try.underlying137 rfl i_3 rfl rfl rfl) ?_
   refine Za rfl rfl rfl rfl (Zj rfl rfl (Zf 1 rfl) rfl Try.underlying3 rfl) ?_
   refine Za rfl rfl rfl rfl (Zb (fo := 10) rfl Try.underlying137 rfl i_3 rfl rfl rfl) ?_
   refine Za rfl rfl rfl rfl (Zj rfl rfl (Zf 1 rfl) rfl Try.underlying3 rfl) ?_
   refine Za rfl rfl rfl rfl (Zb (fo := 11) rfl Try.underlying137 rfl i_3 rfl rfl rfl) ?_
   refine Za rfl rfl rfl rfl (Zj rfl rfl (Zf 1 rfl) rfl Try.underlying3 rfl) ?_
   refine Za rfl rfl rfl rfl (Zb (fo := 12) rfl Try.underlying137 rfl i_3 rfl rfl rfl) ?_
   refine Za rfl rfl rfl rfl (Zj rfl rfl (Zf 1 rfl) rfl Try.underlying3 rfl) ?_
   refine Za rfl rfl rfl rfl (Zb (fo := 13) rfl Try.underlying137 rfl i_3 rfl rfl rfl) ?_
   refine Za rfl rfl rfl rfl (Zj rfl rfl (Zf 1 rfl) rfl Try.underlying3 rfl) ?_
   refine Za rfl rfl rfl rfl (Zb (fo := 14) rfl Try.underlying137 rfl i_3 rfl rfl rfl) ?_
   refine Za rfl rfl rfl rfl (Zj rfl rfl (Zf 1 rfl) rfl Try.underlying3 rfl) ?_
   refine Yr rfl rfl rfl rfl (Zn (s := 1) (cs := [_, _, _, _, _, _, _, _, _, _, _, _]) rfl Try.underlying99 i_3 rfl rfl rfl rfl rfl rfl rfl rfl rfl) (fun b45 => ?_)
   refine Yh (L2 := [_, _]) rfl rfl rfl rfl rfl rfl Try.call59 (rw_intsL b _ _ _ _ [x.v0, x.v1, x.v2, x.v6, x.v7, x.v8, x.v9, x.v10, x.v11, x.v12, x.v13, x.v14] (by simp) (by (try simp only [List.length_append]); omega)) [2] [1] rfl rfl ?_
   rintro v post ⟨rfl, rfl⟩
   show G _ _ _ [_, _, _] _
   refine Zg ?_
   refine Zi ?_
   refine Zd (l := [0, 1, 2, 3, 4, 5, 6, 7, 8, 9, 10, 11]) rfl ?_
   refine Za rfl rfl rfl rfl (Zc rfl rfl) ?_
   refine Za rfl rfl rfl rfl (Zb (fo := 3) rfl Try.underlying137 rfl i_135 rfl rfl rfl) ?_
   refine Za rfl rfl rfl rfl (Zb (fo := 3) rfl Try.underlying135 rfl i_9 rfl rfl rfl) ?_
   refine Za rfl rfl rfl rfl (Zj rfl rfl (Zf 3 rfl) rfl Try.underlying9 rfl) ?_
   refine Za rfl rfl rfl rfl (Zb (fo := 3) rfl Try.underlying137 rfl i_135 rfl rfl rfl) ?_
   refine Za rfl rfl rfl rfl (Zb (fo := 4) rfl Try.underlying135 rfl i_9 rfl rfl rfl) ?_
   refine Za rfl rfl rfl rfl (Zj rfl rfl (Zf 3 rfl) rfl Try.underlying9 rfl) ?_
   refine Za rfl rfl rfl rfl (Zb (fo := 3) rfl Try.underlying137 rfl i_135 rfl rfl rfl) ?_
   refine Za rfl rfl rfl rfl (Zb (fo := 5) rfl Try.underlying135 rfl i_9 rfl rfl rfl) ?_
   refine Za rfl rfl rfl rfl (Zj rfl rfl (Zf 3 rfl) rfl Try.underlying9 rfl) ?_
   refine Yr rfl rfl rfl rfl (Zn (s := 1) (cs := [_, _, _]) rfl Try.underlying220 i_9 rfl rfl rfl rfl rfl rfl rfl rfl rfl) (fun b57 => ?_)
   refine Yh (L2 := [_, _, _]) rfl rfl rfl rfl rfl rfl Try.call62 (rw_textsL b _ _ _ _ [x.v3, x.v4, x.v5] (by simp) (by (try simp only [List.length_append]); omega)) [1] [1] rfl rfl ?_
   rintro v post ⟨rfl, rfl⟩
   show G _ _ _ [_, _, _, _] _
   refine Zg ?_
   refine Zd (l := [0, 1, 2, 3, 4, 5, 6, 7, 8]) rfl ?_
   refine Za rfl rfl rfl rfl (Zc rfl rfl) ?_
   refine Za rfl rfl rfl rfl (Zb (fo := 15) rfl Try.underlying137 rfl i_23 rfl rfl rfl) ?_
   refine Za rfl rfl rfl rfl (Zj rfl rfl (Zf 4 rfl) rfl Try.underlying23 rfl) ?_
   refine Za rfl rfl rfl rfl (Zb (fo := 16) rfl Try.underlying137 rfl i_23 rfl rfl rfl) ?_
   refine Za rfl rfl rfl rfl (Zj rfl rfl (Zf 4 rfl) rfl Try.underlying23 rfl) ?_
   refine Za rfl rfl rfl rfl (Zb (fo := 17) rfl Try.underlying137 rfl i_23 rfl rfl rfl) ?_
   refine Za rfl rfl rfl rfl (Zj rfl rfl (Zf 4 rfl) rfl Try.underlying23 rfl) ?_
   refine Yr rfl rfl rfl rfl (Zn (s := 1) (cs := [_, _, _]) rfl Try.underlying219 i_23 rfl rfl rfl rfl rfl rfl rfl rfl rfl) (fun b66 => ?_)
   refine Yh (L2 := [_, _, _, _]) rfl rfl rfl rfl rfl rfl Try.call57 (rw_numsL b _ _ _ _ [x.v15, x.v16, x.v17] (by simp) (by intro z hz; simp at hz; omega) (by (try simp only [List.length_append]); omega)) [1] [1] rfl rfl ?_
   rintro v post ⟨rfl, rfl⟩
   show G _ _ _ [_, _, _, _, _] _
   refine Zg ?_
   refine Zs ?_
   refine Zd (l := [0, 1, 2]) rfl ?_
   refine Za rfl rfl rfl rfl (Zc rfl rfl) ?_
   refine Za rfl rfl rfl rfl ((Yu rfl rfl rfl).int (Zv (by omega))) ?_
   refine Za rfl rfl rfl rfl (Zk rfl rfl) ?_
   refine Zg ?_
   refine Yc ?_ [0] ?_ (ih (i + 1, t ++ encIs [x.v0, x.v1, x.v2, x.v6, x.v7, x.v8, x.v9, x.v10, x.v11, x.v12, x.v13, x.v14] ++ encTs [x.v3, x.v4, x.v5] ++ encUs [x.v15, x.v16, x.v17], ((v || [x.v0, x.v1, x.v2, x.v6, x.v7, x.v8, x.v9, x.v10, x.v11, x.v12, x.v13, x.v14].any badI) || [x.v3, x.v4, x.v5].any badT)) ?_ ?_)
   · (refine (And.intro ?_ (And.intro ?_ (And.intro ?_ trivial))) <;> first | rfl | exact Zm (by omega) | (rw [hb1]; rfl))
   · exact ⟨_, rfl⟩
   · exact ⟨by omega, by rw [← Yw encOp hx, ht]; simp only [encOp, encUs, List.flatMap_cons, List.flatMap_nil, List.append_nil, List.append_assoc], by rw [hv, ← Xx hx]; unfold badOp; simp only [Bool.or_assoc]⟩
   · (first | omega | (dsimp only; omega))
  refine Yx rfl ?_
  refine G_end (post := [_]) Try.func60 rfl Zo [0] rfl ?_
  dsimp only [packed]
  have e : s.l.take i = s.l := List.take_of_length_le (by omega)
  rw [e] at ht hv
  subst ht hv
  exact ⟨rfl, rfl⟩

end
end Go.Proofs.Ytjnaeoelnmhjfaa

set_option linter.unusedSimpArgs false
set_option linter.unusedVariables false
namespace Go.Proofs.Ytjnaeoelnmhjfaa
open Go Go.RowKit

section



/-- A tenant that waits, as the document has it. -/
structure Dt where
  v0 : Int
  v1 : Int
  v2 : Int
  q : Int
  s : Ins Fl
  g : Bool
def cDt (x : Dt) : List Value := [.int .i64 x.v0, .int .i64 x.v1, .int .i64 x.v2, .int .i64 x.q, .slice x.s.p x.s.l.length x.s.cap, .bool x.g]
theorem cDt_len (x : Dt) : (cDt x).length = 6 := rfl
def OkDt (x : Dt) : Prop := InsOk 4 cFl x.s ∧ ∀ y ∈ x.s.l, OkFl y
def kDt (x : Dt) : List HBk := insK x.s :: x.s.l.flatMap kFl
/-- A share, as the document has it. -/
structure Ds where
  q : Int
  s : Ins Dt
  g : Bool
def cDs (x : Ds) : List Value := [.int .i64 x.q, .slice x.s.p x.s.l.length x.s.cap, .bool x.g]
theorem cDs_len (x : Ds) : (cDs x).length = 3 := rfl
def OkDs (x : Ds) : Prop := InsOk 6 cDt x.s ∧ ∀ y ∈ x.s.l, OkDt y
def kDs (x : Ds) : List HBk := insK x.s :: x.s.l.flatMap kDt


end
end Go.Proofs.Ytjnaeoelnmhjfaa

namespace Go.Proofs.Ytjnaeoelnmhjfaa
open Go Go.RowKit

def rdNum (l : List UInt8) (e : Nat) : Nat × List UInt8 × Nat :=
  if e ≠ 0 then (0, l, e) else
    match unchain l with
    | (v, n, e') => if e' ≠ 0 then (0, l, e') else (v, l.drop n, 0)
def rdInt (most : Int) (l : List UInt8) (e : Nat) : Nat × List UInt8 × Nat :=
  if e ≠ 0 then (0, l, e) else
    match unchain l with
    | (v, n, e') => if e' ≠ 0 then (0, l, e') else if most < 0 ∨ most < (v : Int) then (0, l, 4) else (v, l.drop n, 0)
def rdStr (most : Int) (l : List UInt8) (e : Nat) : List UInt8 × List UInt8 × Nat :=
  if e ≠ 0 then ([], l, e) else
    match untext l most with
    | (s, n, e') => if e' ≠ 0 then ([], l, e') else (s, l.drop n, 0)
def rdFlag (l : List UInt8) (e : Nat) : Bool × List UInt8 × Nat :=
  if e ≠ 0 then (false, l, e) else
    match unchain l with
    | (v, n, e') => if e' ≠ 0 then (false, l, e') else if 1 < v then (false, l, 3) else (v == 1, l.drop n, 0)
def rdEnd (l : List UInt8) (e : Nat) : Nat := if e ≠ 0 then e else if l = [] then 0 else 3

theorem rdNum_err (l : List UInt8) (e : Nat) (h : e ≠ 0) : rdNum l e = (0, l, e) := by simp [rdNum, h]
theorem rdNum_bad (l : List UInt8) (v n e : Nat) (hu : unchain l = (v, n, e)) (h : e ≠ 0) : rdNum l 0 = (0, l, e) := by simp [rdNum, hu, h]
theorem rdNum_ok (l : List UInt8) (v n : Nat) (hu : unchain l = (v, n, 0)) : rdNum l 0 = (v, l.drop n, 0) := by simp [rdNum, hu]
theorem rdInt_err (most : Int) (l : List UInt8) (e : Nat) (h : e ≠ 0) : rdInt most l e = (0, l, e) := by simp [rdInt, h]
theorem rdInt_bad (most : Int) (l : List UInt8) (v n e : Nat) (hu : unchain l = (v, n, e)) (h : e ≠ 0) : rdInt most l 0 = (0, l, e) := by simp [rdInt, hu, h]
theorem rdInt_long (most : Int) (l : List UInt8) (v n : Nat) (hu : unchain l = (v, n, 0)) (h : most < 0 ∨ most < (v : Int)) : rdInt most l 0 = (0, l, 4) := by simp [rdInt, hu, h]
theorem rdInt_ok (most : Int) (l : List UInt8) (v n : Nat) (hu : unchain l = (v, n, 0)) (h : ¬ (most < 0 ∨ most < (v : Int))) : rdInt most l 0 = (v, l.drop n, 0) := by
  unfold rdInt; rw [hu]; simp only [ne_eq, not_true_eq_false, if_false]; rw [if_neg h]
theorem rdStr_err (most : Int) (l : List UInt8) (e : Nat) (h : e ≠ 0) : rdStr most l e = ([], l, e) := by simp [rdStr, h]
theorem rdStr_bad (most : Int) (l : List UInt8) (s : List UInt8) (n e : Nat) (hu : untext l most = (s, n, e)) (h : e ≠ 0) : rdStr most l 0 = ([], l, e) := by simp [rdStr, hu, h]
theorem rdStr_ok (most : Int) (l : List UInt8) (s : List UInt8) (n : Nat) (hu : untext l most = (s, n, 0)) : rdStr most l 0 = (s, l.drop n, 0) := by simp [rdStr, hu]
theorem rdFlag_err (l : List UInt8) (e : Nat) (h : e ≠ 0) : rdFlag l e = (false, l, e) := by simp [rdFlag, h]
theorem rdFlag_bad (l : List UInt8) (v n e : Nat) (hu : unchain l = (v, n, e)) (h : e ≠ 0) : rdFlag l 0 = (false, l, e) := by simp [rdFlag, hu, h]
theorem rdFlag_long (l : List UInt8) (v n : Nat) (hu : unchain l = (v, n, 0)) (h : 1 < v) : rdFlag l 0 = (false, l, 3) := by simp [rdFlag, hu, h]
theorem rdFlag_ok (l : List UInt8) (v n : Nat) (hu : unchain l = (v, n, 0)) (h : ¬ 1 < v) : rdFlag l 0 = (v == 1, l.drop n, 0) := by
  unfold rdFlag; rw [hu]; simp only [ne_eq, not_true_eq_false, if_false]; rw [if_neg h]

theorem untext_ok (l : List UInt8) (most : Int) (s : List UInt8) (n e : Nat) (h : untext l most = (s, n, e)) : (e = 0 ∧ n ≤ l.length ∧ s.length ≤ l.length ∧ (s.length : Int) ≤ most) ∨ (s = [] ∧ n = 0 ∧ 2 ≤ e ∧ e ≤ 4) := by
  obtain ⟨v, k, e', hu⟩ : ∃ v k e', unchain l = (v, k, e') := ⟨_, _, _, rfl⟩
  have hok := unchain_ok l
  rw [hu] at hok
  obtain ⟨_, hok⟩ := hok
  simp only at hok
  by_cases he : e' = 0
  · subst he
    by_cases h1 : most < 0 ∨ most < (v : Int)
    · rw [untext_long _ _ _ _ hu h1] at h
      obtain ⟨rfl, rfl, rfl⟩ : [] = s ∧ 0 = n ∧ 4 = e := by simpa using h
      exact .inr ⟨rfl, rfl, by omega, by omega⟩
    · by_cases h2 : l.length - k < v
      · rw [untext_short _ _ _ _ hu h1 h2] at h
        obtain ⟨rfl, rfl, rfl⟩ : [] = s ∧ 0 = n ∧ 2 = e := by simpa using h
        exact .inr ⟨rfl, rfl, by omega, by omega⟩
      · rw [untext_yes _ _ _ _ hu h1 h2] at h
        obtain ⟨rfl, rfl, rfl⟩ : List.take v (List.drop k l) = s ∧ k + v = n ∧ 0 = e := by simpa using h
        refine .inl ⟨rfl, by omega, by simp; omega, by simp; omega⟩
  · rw [untext_err _ _ _ _ _ hu he] at h
    obtain ⟨rfl, rfl, rfl⟩ : [] = s ∧ 0 = n ∧ e' = e := by simpa using h
    exact .inr ⟨rfl, rfl, by omega, by omega⟩

end Go.Proofs.Ytjnaeoelnmhjfaa

set_option linter.unusedSimpArgs false
set_option linter.unusedVariables false
namespace Go.Proofs.Ytjnaeoelnmhjfaa
open Go Go.RowKit

section
theorem i_33 : Try.prog.info? 33 = some Try.t33 := by kernel_rfl
theorem i_169 : Try.prog.info? 169 = some Try.t169 := by kernel_rfl
theorem p_169 : placesOf Try.prog (Try.prog.fieldsOf 169) = some [(0, 1), (1, 1)] := by kernel_rfl


theorem ct_unchain (l : List UInt8) (v n e : Nat) (hu : unchain l = (v, n, e)) (h : l.length ≤ 9223372036854775807) : Ct Try.prog 131 [.string (bs l)] [] [] (fun r post => r = .tuple #[.int .u64 (v : Int), .int .i64 (n : Int), .int .i64 (e : Int)] ∧ post = []) :=
  ct_same (fun w => by
    have := unchain_any (bs l) w (by rw [bs_size]; omega)
    rw [bs_data, hu] at this
    exact this)
theorem ct_untext (l : List UInt8) (most : Int) (s : List UInt8) (n e : Nat) (hu : untext l most = (s, n, e)) (h : l.length ≤ 140737488351232) (hm : 0 ≤ most ∧ most ≤ 4611686018427387904) : Ct Try.prog 152 [.string (bs l), .int .i64 most] [] [] (fun r post => r = .tuple #[.string (bs s), .int .i64 (n : Int), .int .i64 (e : Int)] ∧ post = []) :=
  ct_same (fun w => by
    have := untext_any (bs l) most w (by rw [bs_size]; omega) (by omega) (by omega)
    rw [bs_data, hu] at this
    exact this)
theorem unchain_bd {l : List UInt8} {v n e : Nat} (h : unchain l = (v, n, e)) : v < 18446744073709551616 ∧ ((e = 0 ∧ n ≤ l.length ∧ n ≤ 10 ∧ 1 ≤ n) ∨ (0 < e ∧ e ≤ 3 ∧ v = 0)) := by
  have := unchain_ok l
  rw [h] at this
  obtain ⟨h1, h2⟩ := this
  simp only at h1 h2
  exact ⟨h1, by omega⟩

set_option maxRecDepth 100000 in
set_option maxHeartbeats 1000000 in
theorem rd_ok (b : Nat) (l : List UInt8) (e : Nat) :
    Ct Try.prog 130 [.pointer (some ⟨b, 0, none⟩)] [(some b, .cells #[.string (bs l), .int .i64 ((e : Nat) : Int)] 169 (0, 0))] [] fun v post => v = .bool (decide (e = 0)) ∧ post = [] := by
 refine Yv Try.func130 rfl rfl (fun w0 => ?_)
 show G _ _ [(0, _)] _ _
 refine Zi ?_
 refine Zd (l := [0]) rfl ?_
 refine Za rfl rfl rfl rfl (Zk rfl rfl) ?_
 refine Zg ?_
 refine Zi ?_
 refine Zd (l := [0, 1, 2, 3, 4, 5, 6, 7, 8, 9]) rfl ?_
 refine Za rfl rfl rfl rfl (Zc rfl rfl) ?_
 refine Za rfl rfl rfl rfl (V_pneqN rfl Try.underlying74 rfl rfl) ?_
 refine Za rfl rfl rfl rfl (Zc rfl rfl) ?_
 refine Za rfl rfl rfl rfl (Zc rfl rfl) ?_
 first
  | refine Za rfl rfl rfl rfl (Ze rfl rfl) ?_
  | refine Za rfl rfl rfl rfl (Yt rfl rfl) ?_
 refine Za rfl rfl rfl rfl (Zb (fo := 1) rfl Try.underlying169 rfl i_33 rfl rfl rfl) ?_
 refine Za rfl rfl rfl rfl (Zj rfl rfl (Zf 0 rfl) rfl Try.underlying33 rfl) ?_
 refine Za rfl rfl rfl rfl (V_eql rfl rfl rfl) ?_
 refine Za rfl rfl rfl rfl (Yk rfl rfl rfl) ?_
 refine Za rfl rfl rfl rfl (Zk rfl rfl) ?_
 refine Zg ?_
 refine Xa (post := []) Try.func130 rfl (Zy (Yy rfl) Zo) [] rfl ?_
 dsimp only [packed]
 refine ⟨bool_eq ?_, rfl⟩; simp

set_option maxRecDepth 100000 in
set_option maxHeartbeats 1000000 in
theorem rd_err (b : Nat) (l : List UInt8) (e : Nat) :
    Ct Try.prog 86 [.pointer (some ⟨b, 0, none⟩)] [(some b, .cells #[.string (bs l), .int .i64 ((e : Nat) : Int)] 169 (0, 0))] [] fun v post => v = .int .i64 (e : Int) ∧ post = [] := by
 refine Yv Try.func86 rfl rfl (fun w0 => ?_)
 show G _ _ [(0, _)] _ _
 refine Zi ?_
 refine Zd (l := [0]) rfl ?_
 refine Za rfl rfl rfl rfl (Zk rfl rfl) ?_
 refine Zg ?_
 refine Zi ?_
 refine Zi ?_
 refine Zd (l := [0, 1]) rfl ?_
 refine Za rfl rfl rfl rfl (Zc rfl rfl) ?_
 refine Za rfl rfl rfl rfl (V_peqlN rfl Try.underlying74 rfl rfl) ?_
 refine Zg ?_
 refine G_else rfl ?_
 refine Zu ?_
 refine Zi ?_
 refine Zd (l := [0, 1, 2, 3, 4]) rfl ?_
 refine Za rfl rfl rfl rfl (Zc rfl rfl) ?_
 first
  | refine Za rfl rfl rfl rfl (Ze rfl rfl) ?_
  | refine Za rfl rfl rfl rfl (Yt rfl rfl) ?_
 refine Za rfl rfl rfl rfl (Zb (fo := 1) rfl Try.underlying169 rfl i_33 rfl rfl rfl) ?_
 refine Za rfl rfl rfl rfl (Zj rfl rfl (Zf 0 rfl) rfl Try.underlying33 rfl) ?_
 refine Za rfl rfl rfl rfl (Zk rfl rfl) ?_
 refine Zg ?_
 refine Xa (post := []) Try.func86 rfl (Zy (Yy rfl) Zo) [] rfl ?_
 dsimp only [packed]
 exact ⟨rfl, rfl⟩

set_option maxRecDepth 100000 in
set_option maxHeartbeats 1000000 in
theorem rd_took1 (b : Nat) (l : List UInt8) (e n e1 : Nat) (hn : n ≤ l.length) (h1 : e1 = 0) :
    Ct Try.prog 132 [.pointer (some ⟨b, 0, none⟩), .int .i64 (n : Int), .int .i64 (e1 : Int)] [] [(some b, .cells #[.string (bs l), .int .i64 ((e : Nat) : Int)] 169 (0, 0))] fun v post => v = .bool true ∧ post = [(some b, .cells #[.string (bs (l.drop n)), .int .i64 ((e : Nat) : Int)] 169 (0, 0))] := by
 subst h1
 refine Yv Try.func132 rfl rfl (fun w0 => ?_)
 show G _ _ [(0, _), (1, _), (2, _)] _ _
 refine Zi ?_
 refine Zd (l := [0]) rfl ?_
 refine Za rfl rfl rfl rfl (Zk rfl rfl) ?_
 refine Zg ?_
 refine Zi ?_
 refine Zi ?_
 refine Zd (l := [0, 1]) rfl ?_
 refine Za rfl rfl rfl rfl (Zc rfl rfl) ?_
 refine Za rfl rfl rfl rfl (V_neq rfl rfl rfl) ?_
 refine Zg ?_
 refine Yl rfl (fun hc1 => ?_) (fun hc1 => ?_)
 · (first | (exact absurd rfl hc1) | (exfalso; omega))
 refine Zu ?_
 refine Zi ?_
 refine Zd (l := [0, 1, 2, 3, 4, 5, 6, 7, 8, 9]) rfl ?_
 refine Za rfl rfl rfl rfl (Zc rfl rfl) ?_
 refine Za rfl rfl rfl rfl (Zc rfl rfl) ?_
 first
  | refine Za rfl rfl rfl rfl (Ze rfl rfl) ?_
  | refine Za rfl rfl rfl rfl (Yt rfl rfl) ?_
 refine Za rfl rfl rfl rfl (Zb (fo := 0) rfl Try.underlying169 rfl i_9 rfl rfl rfl) ?_
 refine Za rfl rfl rfl rfl (Zj rfl rfl (Zf 0 rfl) rfl Try.underlying9 rfl) ?_
 refine Za rfl rfl rfl rfl (Zc rfl rfl) ?_
 first
  | refine Za rfl rfl rfl rfl (V_ssliceLN (lo := _) rfl Try.underlying9 rfl rfl rfl (by first | omega | (simp; done) | (simp; omega) | (simp at *; omega))) ?_
  | refine Za rfl rfl rfl rfl (V_ssliceL rfl Try.underlying9 rfl rfl (by first | omega | (simp; done) | (simp; omega) | (simp at *; omega)) (by first | omega | (simp; done) | (simp; omega) | (simp at *; omega))) ?_
 first
  | refine Za rfl rfl rfl rfl (Ze rfl rfl) ?_
  | refine Za rfl rfl rfl rfl (Yt rfl rfl) ?_
 refine Za rfl rfl rfl rfl (Zb (fo := 0) rfl Try.underlying169 rfl i_9 rfl rfl rfl) ?_
 refine Xl (l1 := []) (L' := [_]) rfl rfl rfl rfl (Zq rfl rfl rfl (Zf 0 rfl) (by first | exact of_decide_eq_true rfl | omega | (simp; done) | (simp; omega) | (simp at *; omega)) i_9 rfl rfl) rfl ?_
 refine Zg ?_
 refine Zi ?_
 refine Zd (l := [0]) rfl ?_
 refine Za rfl rfl rfl rfl (Zk rfl rfl) ?_
 refine Zg ?_
 refine Xa (post := [_]) Try.func132 rfl (Zy (Yy rfl) Zo) [0] rfl ?_
 dsimp only [packed]
 exact ⟨rfl, rfl⟩

set_option maxRecDepth 100000 in
set_option maxHeartbeats 1000000 in
theorem rd_took0 (b : Nat) (l : List UInt8) (e n e1 : Nat) (h1 : 0 < e1) :
    Ct Try.prog 132 [.pointer (some ⟨b, 0, none⟩), .int .i64 (n : Int), .int .i64 (e1 : Int)] [] [(some b, .cells #[.string (bs l), .int .i64 ((e : Nat) : Int)] 169 (0, 0))] fun v post => v = .bool false ∧ post = [(some b, .cells #[.string (bs l), .int .i64 ((e1 : Nat) : Int)] 169 (0, 0))] := by
 refine Yv Try.func132 rfl rfl (fun w0 => ?_)
 show G _ _ [(0, _), (1, _), (2, _)] _ _
 refine Zi ?_
 refine Zd (l := [0]) rfl ?_
 refine Za rfl rfl rfl rfl (Zk rfl rfl) ?_
 refine Zg ?_
 refine Zi ?_
 refine Zi ?_
 refine Zd (l := [0, 1]) rfl ?_
 refine Za rfl rfl rfl rfl (Zc rfl rfl) ?_
 refine Za rfl rfl rfl rfl (V_neq rfl rfl rfl) ?_
 refine Zg ?_
 refine Yl rfl (fun hc1 => ?_) (fun hc1 => ?_)
 rotate_left
 · (exfalso; omega)
 refine Zi ?_
 refine Zd (l := [0, 1, 2, 3, 4]) rfl ?_
 refine Za rfl rfl rfl rfl (Zc rfl rfl) ?_
 refine Za rfl rfl rfl rfl (Zc rfl rfl) ?_
 first
  | refine Za rfl rfl rfl rfl (Ze rfl rfl) ?_
  | refine Za rfl rfl rfl rfl (Yt rfl rfl) ?_
 refine Za rfl rfl rfl rfl (Zb (fo := 1) rfl Try.underlying169 rfl i_33 rfl rfl rfl) ?_
 refine Xl (l1 := []) (L' := [_]) rfl rfl rfl rfl (Zq rfl rfl rfl (Zf 0 rfl) (by first | exact of_decide_eq_true rfl | omega | (simp; done) | (simp; omega) | (simp at *; omega)) i_33 rfl rfl) rfl ?_
 refine Zg ?_
 refine Zi ?_
 refine Zd (l := [0]) rfl ?_
 refine Za rfl rfl rfl rfl (Zk rfl rfl) ?_
 refine Zg ?_
 refine Xa (post := [_]) Try.func132 rfl (Zy (Yy rfl) Zo) [0] rfl ?_
 dsimp only [packed]
 exact ⟨rfl, rfl⟩

set_option maxRecDepth 100000 in
set_option maxHeartbeats 1000000 in
theorem rd_num (b : Nat) (l : List UInt8) (e : Nat) (hl : l.length ≤ 140737488351232) (he : e ≤ 1000) :
    Ct Try.prog 133 [.pointer (some ⟨b, 0, none⟩)] [] [(some b, .cells #[.string (bs l), .int .i64 ((e : Nat) : Int)] 169 (0, 0))] fun r post => r = .int .u64 (((rdNum l e).1 : Nat) : Int) ∧ post = [(some b, .cells #[.string (bs (rdNum l e).2.1), .int .i64 (((rdNum l e).2.2 : Nat) : Int)] 169 (0, 0))] := by
 obtain ⟨v, n, e1, hu⟩ : ∃ v n e1, unchain l = (v, n, e1) := ⟨_, _, _, rfl⟩
 obtain ⟨hv, hb⟩ := unchain_bd hu
 refine Yv Try.func133 rfl rfl (fun w0 => ?_)
 show G _ _ [(0, _)] _ _
 refine Zi ?_
 refine Zd (l := [0]) rfl ?_
 refine Za rfl rfl rfl rfl (Zk rfl rfl) ?_
 refine Zg ?_
 refine Zi ?_
 refine Zi ?_
 refine Zd (l := [0, 1, 2]) rfl ?_
 refine Za rfl rfl rfl rfl (Zc rfl rfl) ?_
 refine Yh (L2 := [_]) rfl rfl rfl rfl rfl rfl Try.call130 (rd_ok _ _ _) [] [0] rfl rfl ?_
 rintro v post ⟨rfl, rfl⟩
 show G _ _ _ [_] _
 refine Za rfl rfl rfl rfl (V_notD rfl rfl) ?_
 refine Zg ?_
 refine Yl rfl (fun hc1 => ?_) (fun hc1 => ?_)
 ·
  refine Zi ?_
  refine Zd (l := [0]) rfl ?_
  refine Za rfl rfl rfl rfl (Zk rfl rfl) ?_
  refine Zg ?_
  refine Xa (post := [_]) Try.func133 rfl (Zy (Yy rfl) Zo) [0] rfl ?_
  dsimp only [packed]
  first
    | (rw [rdNum_err l e (by omega)]; exact ⟨rfl, rfl⟩)
    | (obtain rfl : e = 0 := by omega
       rw [rdNum_bad l v n e1 hu (by omega)]; subst h2; exact ⟨rfl, rfl⟩)
    | (obtain rfl : e = 0 := by omega
       subst h0; rw [rdNum_ok l v n hu]; exact ⟨rfl, rfl⟩)
 refine Zu ?_
 refine Zi ?_
 rcases hb with ⟨h0, h1, h2, h3⟩ | ⟨h0, h1, h2⟩
 ·
  refine Zd (l := [0, 1, 2, 3, 4, 5, 6, 7, 8, 9, 10, 11]) rfl ?_
  refine Za rfl rfl rfl rfl (Zc rfl rfl) ?_
  first
   | refine Za rfl rfl rfl rfl (Ze rfl rfl) ?_
   | refine Za rfl rfl rfl rfl (Yt rfl rfl) ?_
  refine Za rfl rfl rfl rfl (Zb (fo := 0) rfl Try.underlying169 rfl i_9 rfl rfl rfl) ?_
  refine Za rfl rfl rfl rfl (Zj rfl rfl (Zf 0 rfl) rfl Try.underlying9 rfl) ?_
  refine Yh (L2 := [_]) rfl rfl rfl rfl rfl rfl Try.call131 (ct_unchain _ v n e1 hu (by omega)) [] [] rfl rfl ?_
  rintro v post ⟨rfl, rfl⟩
  show G _ _ _ [_] _
  refine Za rfl rfl rfl rfl (Zc rfl rfl) ?_
  refine Za rfl rfl rfl rfl (Xe rfl rfl rfl) ?_
  refine Za rfl rfl rfl rfl (Xe rfl rfl rfl) ?_
  refine Za rfl rfl rfl rfl (Xe rfl rfl rfl) ?_
  refine Za rfl rfl rfl rfl (Zk rfl rfl) ?_
  refine Za rfl rfl rfl rfl (Zk rfl rfl) ?_
  refine Za rfl rfl rfl rfl (Zk rfl rfl) ?_
  refine Zg ?_
  refine Zi ?_
  refine Zi ?_
  refine Zd (l := [0, 1, 2, 3, 4]) rfl ?_
  refine Za rfl rfl rfl rfl (Zc rfl rfl) ?_
  refine Za rfl rfl rfl rfl (Zc rfl rfl) ?_
  refine Za rfl rfl rfl rfl (Zc rfl rfl) ?_
  refine Yh (L2 := []) rfl rfl rfl rfl rfl rfl Try.call132 (rd_took1 _ _ _ _ _ (by omega) (by omega)) [0] [] rfl rfl ?_
  rintro v post ⟨rfl, rfl⟩
  show G _ _ _ [_] _
  refine Za rfl rfl rfl rfl (V_not rfl rfl) ?_
  refine Zg ?_
  refine G_else rfl ?_
  refine Zu ?_
  refine Zi ?_
  refine Zd (l := [0, 1]) rfl ?_
  refine Za rfl rfl rfl rfl (Zc rfl rfl) ?_
  refine Za rfl rfl rfl rfl (Zk rfl rfl) ?_
  refine Zg ?_
  refine Xa (post := [_]) Try.func133 rfl (Zy (Yy rfl) Zo) [0] rfl ?_
  dsimp only [packed]
  first
    | (rw [rdNum_err l e (by omega)]; exact ⟨rfl, rfl⟩)
    | (obtain rfl : e = 0 := by omega
       rw [rdNum_bad l v n e1 hu (by omega)]; subst h2; exact ⟨rfl, rfl⟩)
    | (obtain rfl : e = 0 := by omega
       subst h0; rw [rdNum_ok l v n hu]; exact ⟨rfl, rfl⟩)
 ·
  refine Zd (l := [0, 1, 2, 3, 4, 5, 6, 7, 8, 9, 10, 11]) rfl ?_
  refine Za rfl rfl rfl rfl (Zc rfl rfl) ?_
  first
   | refine Za rfl rfl rfl rfl (Ze rfl rfl) ?_
   | refine Za rfl rfl rfl rfl (Yt rfl rfl) ?_
  refine Za rfl rfl rfl rfl (Zb (fo := 0) rfl Try.underlying169 rfl i_9 rfl rfl rfl) ?_
  refine Za rfl rfl rfl rfl (Zj rfl rfl (Zf 0 rfl) rfl Try.underlying9 rfl) ?_
  refine Yh (L2 := [_]) rfl rfl rfl rfl rfl rfl Try.call131 (ct_unchain _ v n e1 hu (by omega)) [] [] rfl rfl ?_
  rintro v post ⟨rfl, rfl⟩
  show G _ _ _ [_] _
  refine Za rfl rfl rfl rfl (Zc rfl rfl) ?_
  refine Za rfl rfl rfl rfl (Xe rfl rfl rfl) ?_
  refine Za rfl rfl rfl rfl (Xe rfl rfl rfl) ?_
  refine Za rfl rfl rfl rfl (Xe rfl rfl rfl) ?_
  refine Za rfl rfl rfl rfl (Zk rfl rfl) ?_
  refine Za rfl rfl rfl rfl (Zk rfl rfl) ?_
  refine Za rfl rfl rfl rfl (Zk rfl rfl) ?_
  refine Zg ?_
  refine Zi ?_
  refine Zi ?_
  refine Zd (l := [0, 1, 2, 3, 4]) rfl ?_
  refine Za rfl rfl rfl rfl (Zc rfl rfl) ?_
  refine Za rfl rfl rfl rfl (Zc rfl rfl) ?_
  refine Za rfl rfl rfl rfl (Zc rfl rfl) ?_
  refine Yh (L2 := []) rfl rfl rfl rfl rfl rfl Try.call132 (rd_took0 _ _ _ _ _ (by omega)) [0] [] rfl rfl ?_
  rintro v post ⟨rfl, rfl⟩
  show G _ _ _ [_] _
  refine Za rfl rfl rfl rfl (V_not rfl rfl) ?_
  refine Zg ?_
  refine G_then rfl ?_
  refine Zi ?_
  refine Zd (l := [0]) rfl ?_
  refine Za rfl rfl rfl rfl (Zk rfl rfl) ?_
  refine Zg ?_
  refine Xa (post := [_]) Try.func133 rfl (Zy (Yy rfl) Zo) [0] rfl ?_
  dsimp only [packed]
  first
    | (rw [rdNum_err l e (by omega)]; exact ⟨rfl, rfl⟩)
    | (obtain rfl : e = 0 := by omega
       rw [rdNum_bad l v n e1 hu (by omega)]; subst h2; exact ⟨rfl, rfl⟩)
    | (obtain rfl : e = 0 := by omega
       subst h0; rw [rdNum_ok l v n hu]; exact ⟨rfl, rfl⟩)

set_option maxRecDepth 100000 in
set_option maxHeartbeats 1000000 in
theorem rd_int (b : Nat) (l : List UInt8) (e : Nat) (most : Int) (hl : l.length ≤ 140737488351232) (he : e ≤ 1000) (hm : 0 ≤ most ∧ most ≤ 4611686018427387904) :
    Ct Try.prog 84 [.pointer (some ⟨b, 0, none⟩), .int .i64 most] [] [(some b, .cells #[.string (bs l), .int .i64 ((e : Nat) : Int)] 169 (0, 0))] fun r post => r = .int .i64 (((rdInt most l e).1 : Nat) : Int) ∧ post = [(some b, .cells #[.string (bs (rdInt most l e).2.1), .int .i64 (((rdInt most l e).2.2 : Nat) : Int)] 169 (0, 0))] := by
 obtain ⟨v, n, e1, hu⟩ : ∃ v n e1, unchain l = (v, n, e1) := ⟨_, _, _, rfl⟩
 obtain ⟨hv, hb⟩ := unchain_bd hu
 obtain ⟨hm0, hm1⟩ := hm
 refine Yv Try.func84 rfl rfl (fun w0 => ?_)
 show G _ _ [(0, _), (1, _)] _ _
 refine Zi ?_
 refine Zd (l := [0]) rfl ?_
 refine Za rfl rfl rfl rfl (Zk rfl rfl) ?_
 refine Zg ?_
 refine Zi ?_
 refine Zi ?_
 refine Zd (l := [0, 1, 2]) rfl ?_
 refine Za rfl rfl rfl rfl (Zc rfl rfl) ?_
 refine Yh (L2 := [_]) rfl rfl rfl rfl rfl rfl Try.call130 (rd_ok _ _ _) [] [0] rfl rfl ?_
 rintro v post ⟨rfl, rfl⟩
 show G _ _ _ [_] _
 refine Za rfl rfl rfl rfl (V_notD rfl rfl) ?_
 refine Zg ?_
 refine Yl rfl (fun hc1 => ?_) (fun hc1 => ?_)
 ·
  refine Zi ?_
  refine Zd (l := [0]) rfl ?_
  refine Za rfl rfl rfl rfl (Zk rfl rfl) ?_
  refine Zg ?_
  refine Xa (post := [_]) Try.func84 rfl (Zy (Yy rfl) Zo) [0] rfl ?_
  dsimp only [packed]
  first
    | (rw [rdInt_err most l e (by omega)]; exact ⟨rfl, rfl⟩)
    | (obtain rfl : e = 0 := by omega
       rw [rdInt_bad most l v n e1 hu (by omega)]; subst h2; exact ⟨rfl, rfl⟩)
    | (obtain rfl : e = 0 := by omega
       subst h0; rw [rdInt_long most l v n hu (.inr h2)]; exact ⟨rfl, rfl⟩)
    | (obtain rfl : e = 0 := by omega
       subst h0; rw [rdInt_ok most l v n hu (by omega)]; exact ⟨rfl, rfl⟩)
 refine Zu ?_
 refine Zi ?_
 rcases (by omega : (e1 = 0 ∧ n ≤ l.length ∧ most < (v : Int)) ∨ (e1 = 0 ∧ n ≤ l.length ∧ ¬ most < (v : Int)) ∨ (0 < e1 ∧ e1 ≤ 3 ∧ v = 0)) with ⟨h0, h1, h2⟩ | ⟨h0, h1, h2⟩ | ⟨h0, h1, h2⟩
 ·
  refine Zd (l := [0, 1, 2, 3, 4, 5, 6, 7, 8, 9, 10, 11]) rfl ?_
  refine Za rfl rfl rfl rfl (Zc rfl rfl) ?_
  first
   | refine Za rfl rfl rfl rfl (Ze rfl rfl) ?_
   | refine Za rfl rfl rfl rfl (Yt rfl rfl) ?_
  refine Za rfl rfl rfl rfl (Zb (fo := 0) rfl Try.underlying169 rfl i_9 rfl rfl rfl) ?_
  refine Za rfl rfl rfl rfl (Zj rfl rfl (Zf 0 rfl) rfl Try.underlying9 rfl) ?_
  refine Yh (L2 := [_]) rfl rfl rfl rfl rfl rfl Try.call131 (ct_unchain _ v n e1 hu (by omega)) [] [] rfl rfl ?_
  rintro v post ⟨rfl, rfl⟩
  show G _ _ _ [_] _
  refine Za rfl rfl rfl rfl (Zc rfl rfl) ?_
  refine Za rfl rfl rfl rfl (Xe rfl rfl rfl) ?_
  refine Za rfl rfl rfl rfl (Xe rfl rfl rfl) ?_
  refine Za rfl rfl rfl rfl (Xe rfl rfl rfl) ?_
  refine Za rfl rfl rfl rfl (Zk rfl rfl) ?_
  refine Za rfl rfl rfl rfl (Zk rfl rfl) ?_
  refine Za rfl rfl rfl rfl (Zk rfl rfl) ?_
  refine Zg ?_
  refine Zi ?_
  refine Zi ?_
  refine Zd (l := [0, 1, 2, 3, 4, 5, 6, 7, 8, 9, 10, 11]) rfl ?_
  refine Za rfl rfl rfl rfl (Zc rfl rfl) ?_
  refine Za rfl rfl rfl rfl (V_eql rfl rfl rfl) ?_
  refine Za rfl rfl rfl rfl (Zc rfl rfl) ?_
  refine Xr 22 rfl (fun hc2 => ?_) (fun hc2 => ?_)
  rotate_left
  · (exfalso; omega)
  refine Za rfl rfl rfl rfl (Zc rfl rfl) ?_
  refine Za rfl rfl rfl rfl (Xh rfl rfl rfl) ?_
  refine Za rfl rfl rfl rfl (Zc rfl rfl) ?_
  refine Xr 25 rfl (fun hc3 => ?_) (fun hc3 => ?_)
  · (exfalso; omega)
  refine Za rfl rfl rfl rfl (Zc rfl rfl) ?_
  refine Za rfl rfl rfl rfl (Zc rfl rfl) ?_
  first
   | refine Za rfl rfl rfl rfl ((V_conv rfl rfl Try.underlying3 Try.underlying23).int (Xs (by omega))) ?_
   | refine Za rfl rfl rfl rfl (V_conv rfl rfl Try.underlying3 Try.underlying23) ?_
  refine Za rfl rfl rfl rfl (V_gtr rfl rfl rfl) ?_
  refine Za rfl rfl rfl rfl (Xu rfl rfl rfl) ?_
  refine Za rfl rfl rfl rfl (Yk rfl rfl rfl) ?_
  refine Zg ?_
  refine Yl rfl (fun hc4 => ?_) (fun hc4 => ?_)
  rotate_left
  · (exfalso; omega)
  refine Zd (l := [0]) rfl ?_
  refine Za rfl rfl rfl rfl (Zk rfl rfl) ?_
  refine Zg ?_
  refine Zi ?_
  refine Zi ?_
  refine Zd (l := [0, 1, 2, 3, 4]) rfl ?_
  refine Za rfl rfl rfl rfl (Zc rfl rfl) ?_
  refine Za rfl rfl rfl rfl (Zc rfl rfl) ?_
  refine Za rfl rfl rfl rfl (Zc rfl rfl) ?_
  refine Yh (L2 := []) rfl rfl rfl rfl rfl rfl Try.call132 (rd_took0 _ _ _ _ 4 (by omega)) [0] [] rfl rfl ?_
  rintro v post ⟨rfl, rfl⟩
  show G _ _ _ [_] _
  refine Za rfl rfl rfl rfl (V_not rfl rfl) ?_
  refine Zg ?_
  refine G_then rfl ?_
  refine Zi ?_
  refine Zd (l := [0]) rfl ?_
  refine Za rfl rfl rfl rfl (Zk rfl rfl) ?_
  refine Zg ?_
  refine Xa (post := [_]) Try.func84 rfl (Zy (Yy rfl) Zo) [0] rfl ?_
  dsimp only [packed]
  first
    | (rw [rdInt_err most l e (by omega)]; exact ⟨rfl, rfl⟩)
    | (obtain rfl : e = 0 := by omega
       rw [rdInt_bad most l v n e1 hu (by omega)]; subst h2; exact ⟨rfl, rfl⟩)
    | (obtain rfl : e = 0 := by omega
       subst h0; rw [rdInt_long most l v n hu (.inr h2)]; exact ⟨rfl, rfl⟩)
    | (obtain rfl : e = 0 := by omega
       subst h0; rw [rdInt_ok most l v n hu (by omega)]; exact ⟨rfl, rfl⟩)
 ·
  refine Zd (l := [0, 1, 2, 3, 4, 5, 6, 7, 8, 9, 10, 11]) rfl ?_
  refine Za rfl rfl rfl rfl (Zc rfl rfl) ?_
  first
   | refine Za rfl rfl rfl rfl (Ze rfl rfl) ?_
   | refine Za rfl rfl rfl rfl (Yt rfl rfl) ?_
  refine Za rfl rfl rfl rfl (Zb (fo := 0) rfl Try.underlying169 rfl i_9 rfl rfl rfl) ?_
  refine Za rfl rfl rfl rfl (Zj rfl rfl (Zf 0 rfl) rfl Try.underlying9 rfl) ?_
  refine Yh (L2 := [_]) rfl rfl rfl rfl rfl rfl Try.call131 (ct_unchain _ v n e1 hu (by omega)) [] [] rfl rfl ?_
  rintro v post ⟨rfl, rfl⟩
  show G _ _ _ [_] _
  refine Za rfl rfl rfl rfl (Zc rfl rfl) ?_
  refine Za rfl rfl rfl rfl (Xe rfl rfl rfl) ?_
  refine Za rfl rfl rfl rfl (Xe rfl rfl rfl) ?_
  refine Za rfl rfl rfl rfl (Xe rfl rfl rfl) ?_
  refine Za rfl rfl rfl rfl (Zk rfl rfl) ?_
  refine Za rfl rfl rfl rfl (Zk rfl rfl) ?_
  refine Za rfl rfl rfl rfl (Zk rfl rfl) ?_
  refine Zg ?_
  refine Zi ?_
  refine Zi ?_
  refine Zd (l := [0, 1, 2, 3, 4, 5, 6, 7, 8, 9, 10, 11]) rfl ?_
  refine Za rfl rfl rfl rfl (Zc rfl rfl) ?_
  refine Za rfl rfl rfl rfl (V_eql rfl rfl rfl) ?_
  refine Za rfl rfl rfl rfl (Zc rfl rfl) ?_
  refine Xr 22 rfl (fun hc2 => ?_) (fun hc2 => ?_)
  rotate_left
  · (exfalso; omega)
  refine Za rfl rfl rfl rfl (Zc rfl rfl) ?_
  refine Za rfl rfl rfl rfl (Xh rfl rfl rfl) ?_
  refine Za rfl rfl rfl rfl (Zc rfl rfl) ?_
  refine Xr 25 rfl (fun hc3 => ?_) (fun hc3 => ?_)
  · (exfalso; omega)
  refine Za rfl rfl rfl rfl (Zc rfl rfl) ?_
  refine Za rfl rfl rfl rfl (Zc rfl rfl) ?_
  first
   | refine Za rfl rfl rfl rfl ((V_conv rfl rfl Try.underlying3 Try.underlying23).int (Xs (by omega))) ?_
   | refine Za rfl rfl rfl rfl (V_conv rfl rfl Try.underlying3 Try.underlying23) ?_
  refine Za rfl rfl rfl rfl (V_gtr rfl rfl rfl) ?_
  refine Za rfl rfl rfl rfl (Xu rfl rfl rfl) ?_
  refine Za rfl rfl rfl rfl (Yk rfl rfl rfl) ?_
  refine Zg ?_
  refine Yl rfl (fun hc4 => ?_) (fun hc4 => ?_)
  · (exfalso; omega)
  refine Zu ?_
  refine Zi ?_
  refine Zi ?_
  refine Zd (l := [0, 1, 2, 3, 4]) rfl ?_
  refine Za rfl rfl rfl rfl (Zc rfl rfl) ?_
  refine Za rfl rfl rfl rfl (Zc rfl rfl) ?_
  refine Za rfl rfl rfl rfl (Zc rfl rfl) ?_
  refine Yh (L2 := []) rfl rfl rfl rfl rfl rfl Try.call132 (rd_took1 _ _ _ _ _ (by omega) (by omega)) [0] [] rfl rfl ?_
  rintro v post ⟨rfl, rfl⟩
  show G _ _ _ [_] _
  refine Za rfl rfl rfl rfl (V_not rfl rfl) ?_
  refine Zg ?_
  refine G_else rfl ?_
  refine Zu ?_
  refine Zi ?_
  refine Zd (l := [0, 1, 2]) rfl ?_
  refine Za rfl rfl rfl rfl (Zc rfl rfl) ?_
  first
   | refine Za rfl rfl rfl rfl ((V_conv rfl rfl Try.underlying23 Try.underlying3).int (Zv (by omega))) ?_
   | refine Za rfl rfl rfl rfl (V_conv rfl rfl Try.underlying23 Try.underlying3) ?_
  refine Za rfl rfl rfl rfl (Zk rfl rfl) ?_
  refine Zg ?_
  refine Xa (post := [_]) Try.func84 rfl (Zy (Yy rfl) Zo) [0] rfl ?_
  dsimp only [packed]
  first
    | (rw [rdInt_err most l e (by omega)]; exact ⟨rfl, rfl⟩)
    | (obtain rfl : e = 0 := by omega
       rw [rdInt_bad most l v n e1 hu (by omega)]; subst h2; exact ⟨rfl, rfl⟩)
    | (obtain rfl : e = 0 := by omega
       subst h0; rw [rdInt_long most l v n hu (.inr h2)]; exact ⟨rfl, rfl⟩)
    | (obtain rfl : e = 0 := by omega
       subst h0; rw [rdInt_ok most l v n hu (by omega)]; exact ⟨rfl, rfl⟩)
 ·
  refine Zd (l := [0, 1, 2, 3, 4, 5, 6, 7, 8, 9, 10, 11]) rfl ?_
  refine Za rfl rfl rfl rfl (Zc rfl rfl) ?_
  first
   | refine Za rfl rfl rfl rfl (Ze rfl rfl) ?_
   | refine Za rfl rfl rfl rfl (Yt rfl rfl) ?_
  refine Za rfl rfl rfl rfl (Zb (fo := 0) rfl Try.underlying169 rfl i_9 rfl rfl rfl) ?_
  refine Za rfl rfl rfl rfl (Zj rfl rfl (Zf 0 rfl) rfl Try.underlying9 rfl) ?_
  refine Yh (L2 := [_]) rfl rfl rfl rfl rfl rfl Try.call131 (ct_unchain _ v n e1 hu (by omega)) [] [] rfl rfl ?_
  rintro v post ⟨rfl, rfl⟩
  show G _ _ _ [_] _
  refine Za rfl rfl rfl rfl (Zc rfl rfl) ?_
  refine Za rfl rfl rfl rfl (Xe rfl rfl rfl) ?_
  refine Za rfl rfl rfl rfl (Xe rfl rfl rfl) ?_
  refine Za rfl rfl rfl rfl (Xe rfl rfl rfl) ?_
  refine Za rfl rfl rfl rfl (Zk rfl rfl) ?_
  refine Za rfl rfl rfl rfl (Zk rfl rfl) ?_
  refine Za rfl rfl rfl rfl (Zk rfl rfl) ?_
  refine Zg ?_
  refine Zi ?_
  refine Zi ?_
  refine Zd (l := [0, 1, 2, 3, 4, 5, 6, 7, 8, 9, 10, 11]) rfl ?_
  refine Za rfl rfl rfl rfl (Zc rfl rfl) ?_
  refine Za rfl rfl rfl rfl (V_eql rfl rfl rfl) ?_
  refine Za rfl rfl rfl rfl (Zc rfl rfl) ?_
  refine Xr 22 rfl (fun hc2 => ?_) (fun hc2 => ?_)
  · (exfalso; omega)
  refine Zt rfl rfl rfl rfl ?_
  refine Zt rfl rfl rfl rfl ?_
  refine Zt rfl rfl rfl rfl ?_
  refine Zt rfl rfl rfl rfl ?_
  refine Zt rfl rfl rfl rfl ?_
  refine Zt rfl rfl rfl rfl ?_
  refine Zt rfl rfl rfl rfl ?_
  refine Zt rfl rfl rfl rfl ?_
  refine Za rfl rfl rfl rfl (Xu rfl rfl rfl) ?_
  refine Zg ?_
  refine G_else rfl ?_
  refine Zu ?_
  refine Zi ?_
  refine Zi ?_
  refine Zd (l := [0, 1, 2, 3, 4]) rfl ?_
  refine Za rfl rfl rfl rfl (Zc rfl rfl) ?_
  refine Za rfl rfl rfl rfl (Zc rfl rfl) ?_
  refine Za rfl rfl rfl rfl (Zc rfl rfl) ?_
  refine Yh (L2 := []) rfl rfl rfl rfl rfl rfl Try.call132 (rd_took0 _ _ _ _ _ (by omega)) [0] [] rfl rfl ?_
  rintro v post ⟨rfl, rfl⟩
  show G _ _ _ [_] _
  refine Za rfl rfl rfl rfl (V_not rfl rfl) ?_
  refine Zg ?_
  refine G_then rfl ?_
  refine Zi ?_
  refine Zd (l := [0]) rfl ?_
  refine Za rfl rfl rfl rfl (Zk rfl rfl) ?_
  refine Zg ?_
  refine Xa (post := [_]) Try.func84 rfl (Zy (Yy rfl) Zo) [0] rfl ?_
  dsimp only [packed]
  first
    | (rw [rdInt_err most l e (by omega)]; exact ⟨rfl, rfl⟩)
    | (obtain rfl : e = 0 := by omega
       rw [rdInt_bad most l v n e1 hu (by omega)]; subst h2; exact ⟨rfl, rfl⟩)
    | (obtain rfl : e = 0 := by omega
       subst h0; rw [rdInt_long most l v n hu (.inr h2)]; exact ⟨rfl, rfl⟩)
    | (obtain rfl : e = 0 := by omega
       subst h0; rw [rdInt_ok most l v n hu (by omega)]; exact ⟨rfl, rfl⟩)

set_option maxRecDepth 100000 in
set_option maxHeartbeats 1000000 in
theorem rd_str (b : Nat) (l : List UInt8) (e : Nat) (most : Int) (hl : l.length ≤ 140737488351232) (he : e ≤ 1000) (hm : 0 ≤ most ∧ most ≤ 4611686018427387904) :
    Ct Try.prog 134 [.pointer (some ⟨b, 0, none⟩), .int .i64 most] [] [(some b, .cells #[.string (bs l), .int .i64 ((e : Nat) : Int)] 169 (0, 0))] fun r post => r = .string (bs (rdStr most l e).1) ∧ post = [(some b, .cells #[.string (bs (rdStr most l e).2.1), .int .i64 (((rdStr most l e).2.2 : Nat) : Int)] 169 (0, 0))] := by
 obtain ⟨s, n, e1, hu⟩ : ∃ s n e1, untext l most = (s, n, e1) := ⟨_, _, _, rfl⟩
 refine Yv Try.func134 rfl rfl (fun w0 => ?_)
 show G _ _ [(0, _), (1, _)] _ _
 refine Zi ?_
 refine Zd (l := [0]) rfl ?_
 refine Za rfl rfl rfl rfl (Zk rfl rfl) ?_
 refine Zg ?_
 refine Zi ?_
 refine Zi ?_
 refine Zd (l := [0, 1, 2]) rfl ?_
 refine Za rfl rfl rfl rfl (Zc rfl rfl) ?_
 refine Yh (L2 := [_]) rfl rfl rfl rfl rfl rfl Try.call130 (rd_ok _ _ _) [] [0] rfl rfl ?_
 rintro v post ⟨rfl, rfl⟩
 show G _ _ _ [_] _
 refine Za rfl rfl rfl rfl (V_notD rfl rfl) ?_
 refine Zg ?_
 refine Yl rfl (fun hc1 => ?_) (fun hc1 => ?_)
 ·
  refine Zi ?_
  refine Zd (l := [0]) rfl ?_
  refine Za rfl rfl rfl rfl (Zk rfl rfl) ?_
  refine Zg ?_
  refine Xa (post := [_]) Try.func134 rfl (Zy (Yy rfl) Zo) [0] rfl ?_
  dsimp only [packed]
  first
    | (rw [rdStr_err most l e (by omega)]; exact ⟨rfl, rfl⟩)
    | (obtain rfl : e = 0 := by omega
       rw [rdStr_bad most l s n e1 hu (by omega)]; subst h0; exact ⟨rfl, rfl⟩)
    | (obtain rfl : e = 0 := by omega
       subst h0; rw [rdStr_ok most l s n hu]; exact ⟨rfl, rfl⟩)
 refine Zu ?_
 refine Zi ?_
 rcases untext_ok l most s n e1 hu with ⟨h0, h1, h2, h3⟩ | ⟨h0, h1, h2, h3⟩
 ·
  refine Zd (l := [0, 1, 2, 3, 4, 5, 6, 7, 8, 9, 10, 11, 12]) rfl ?_
  refine Za rfl rfl rfl rfl (Zc rfl rfl) ?_
  first
   | refine Za rfl rfl rfl rfl (Ze rfl rfl) ?_
   | refine Za rfl rfl rfl rfl (Yt rfl rfl) ?_
  refine Za rfl rfl rfl rfl (Zb (fo := 0) rfl Try.underlying169 rfl i_9 rfl rfl rfl) ?_
  refine Za rfl rfl rfl rfl (Zj rfl rfl (Zf 0 rfl) rfl Try.underlying9 rfl) ?_
  refine Za rfl rfl rfl rfl (Zc rfl rfl) ?_
  refine Yh (L2 := [_]) rfl rfl rfl rfl rfl rfl Try.call152 (ct_untext _ _ s n e1 hu (by omega) hm) [] [] rfl rfl ?_
  rintro v post ⟨rfl, rfl⟩
  show G _ _ _ [_] _
  refine Za rfl rfl rfl rfl (Zc rfl rfl) ?_
  refine Za rfl rfl rfl rfl (Xe rfl rfl rfl) ?_
  refine Za rfl rfl rfl rfl (Xe rfl rfl rfl) ?_
  refine Za rfl rfl rfl rfl (Xe rfl rfl rfl) ?_
  refine Za rfl rfl rfl rfl (Zk rfl rfl) ?_
  refine Za rfl rfl rfl rfl (Zk rfl rfl) ?_
  refine Za rfl rfl rfl rfl (Zk rfl rfl) ?_
  refine Zg ?_
  refine Zi ?_
  refine Zd (l := [0, 1, 2, 3]) rfl ?_
  refine Za rfl rfl rfl rfl (Zc rfl rfl) ?_
  refine Za rfl rfl rfl rfl (Zc rfl rfl) ?_
  refine Za rfl rfl rfl rfl (Zc rfl rfl) ?_
  refine Yh (L2 := []) rfl rfl rfl rfl rfl rfl Try.call132 (rd_took1 _ _ _ _ _ (by omega) (by omega)) [0] [] rfl rfl ?_
  rintro v post ⟨rfl, rfl⟩
  show G _ _ _ [_] _
  refine Zg ?_
  refine Zi ?_
  refine Zd (l := [0, 1]) rfl ?_
  refine Za rfl rfl rfl rfl (Zc rfl rfl) ?_
  refine Za rfl rfl rfl rfl (Zk rfl rfl) ?_
  refine Zg ?_
  refine Xa (post := [_]) Try.func134 rfl (Zy (Yy rfl) Zo) [0] rfl ?_
  dsimp only [packed]
  first
    | (rw [rdStr_err most l e (by omega)]; exact ⟨rfl, rfl⟩)
    | (obtain rfl : e = 0 := by omega
       rw [rdStr_bad most l s n e1 hu (by omega)]; subst h0; exact ⟨rfl, rfl⟩)
    | (obtain rfl : e = 0 := by omega
       subst h0; rw [rdStr_ok most l s n hu]; exact ⟨rfl, rfl⟩)
 ·
  refine Zd (l := [0, 1, 2, 3, 4, 5, 6, 7, 8, 9, 10, 11, 12]) rfl ?_
  refine Za rfl rfl rfl rfl (Zc rfl rfl) ?_
  first
   | refine Za rfl rfl rfl rfl (Ze rfl rfl) ?_
   | refine Za rfl rfl rfl rfl (Yt rfl rfl) ?_
  refine Za rfl rfl rfl rfl (Zb (fo := 0) rfl Try.underlying169 rfl i_9 rfl rfl rfl) ?_
  refine Za rfl rfl rfl rfl (Zj rfl rfl (Zf 0 rfl) rfl Try.underlying9 rfl) ?_
  refine Za rfl rfl rfl rfl (Zc rfl rfl) ?_
  refine Yh (L2 := [_]) rfl rfl rfl rfl rfl rfl Try.call152 (ct_untext _ _ s n e1 hu (by omega) hm) [] [] rfl rfl ?_
  rintro v post ⟨rfl, rfl⟩
  show G _ _ _ [_] _
  refine Za rfl rfl rfl rfl (Zc rfl rfl) ?_
  refine Za rfl rfl rfl rfl (Xe rfl rfl rfl) ?_
  refine Za rfl rfl rfl rfl (Xe rfl rfl rfl) ?_
  refine Za rfl rfl rfl rfl (Xe rfl rfl rfl) ?_
  refine Za rfl rfl rfl rfl (Zk rfl rfl) ?_
  refine Za rfl rfl rfl rfl (Zk rfl rfl) ?_
  refine Za rfl rfl rfl rfl (Zk rfl rfl) ?_
  refine Zg ?_
  refine Zi ?_
  refine Zd (l := [0, 1, 2, 3]) rfl ?_
  refine Za rfl rfl rfl rfl (Zc rfl rfl) ?_
  refine Za rfl rfl rfl rfl (Zc rfl rfl) ?_
  refine Za rfl rfl rfl rfl (Zc rfl rfl) ?_
  refine Yh (L2 := []) rfl rfl rfl rfl rfl rfl Try.call132 (rd_took0 _ _ _ _ _ (by omega)) [0] [] rfl rfl ?_
  rintro v post ⟨rfl, rfl⟩
  show G _ _ _ [_] _
  refine Zg ?_
  refine Zi ?_
  refine Zd (l := [0, 1]) rfl ?_
  refine Za rfl rfl rfl rfl (Zc rfl rfl) ?_
  refine Za rfl rfl rfl rfl (Zk rfl rfl) ?_
  refine Zg ?_
  refine Xa (post := [_]) Try.func134 rfl (Zy (Yy rfl) Zo) [0] rfl ?_
  dsimp only [packed]
  first
    | (rw [rdStr_err most l e (by omega)]; exact ⟨rfl, rfl⟩)
    | (obtain rfl : e = 0 := by omega
       rw [rdStr_bad most l s n e1 hu (by omega)]; subst h0; exact ⟨rfl, rfl⟩)
    | (obtain rfl : e = 0 := by omega
       subst h0; rw [rdStr_ok most l s n hu]; exact ⟨rfl, rfl⟩)

set_option maxRecDepth 100000 in
set_option maxHeartbeats 1000000 in
theorem rd_flag (b : Nat) (l : List UInt8) (e : Nat) (hl : l.length ≤ 140737488351232) (he : e ≤ 1000) :
    Ct Try.prog 141 [.pointer (some ⟨b, 0, none⟩)] [] [(some b, .cells #[.string (bs l), .int .i64 ((e : Nat) : Int)] 169 (0, 0))] fun r post => r = .bool (rdFlag l e).1 ∧ post = [(some b, .cells #[.string (bs (rdFlag l e).2.1), .int .i64 (((rdFlag l e).2.2 : Nat) : Int)] 169 (0, 0))] := by
 obtain ⟨v, n, e1, hu⟩ : ∃ v n e1, unchain l = (v, n, e1) := ⟨_, _, _, rfl⟩
 obtain ⟨hv, hb⟩ := unchain_bd hu
 refine Yv Try.func141 rfl rfl (fun w0 => ?_)
 show G _ _ [(0, _)] _ _
 refine Zi ?_
 refine Zd (l := [0]) rfl ?_
 refine Za rfl rfl rfl rfl (Zk rfl rfl) ?_
 refine Zg ?_
 refine Zi ?_
 refine Zi ?_
 refine Zd (l := [0, 1, 2]) rfl ?_
 refine Za rfl rfl rfl rfl (Zc rfl rfl) ?_
 refine Yh (L2 := [_]) rfl rfl rfl rfl rfl rfl Try.call130 (rd_ok _ _ _) [] [0] rfl rfl ?_
 rintro v post ⟨rfl, rfl⟩
 show G _ _ _ [_] _
 refine Za rfl rfl rfl rfl (V_notD rfl rfl) ?_
 refine Zg ?_
 refine Yl rfl (fun hc1 => ?_) (fun hc1 => ?_)
 ·
  refine Zi ?_
  refine Zd (l := [0]) rfl ?_
  refine Za rfl rfl rfl rfl (Zk rfl rfl) ?_
  refine Zg ?_
  refine Xa (post := [_]) Try.func141 rfl (Zy (Yy rfl) Zo) [0] rfl ?_
  dsimp only [packed]
  first
    | (rw [rdFlag_err l e (by omega)]; exact ⟨rfl, rfl⟩)
    | (obtain rfl : e = 0 := by omega
       rw [rdFlag_bad l v n e1 hu (by omega)]; exact ⟨rfl, rfl⟩)
    | (obtain rfl : e = 0 := by omega
       subst h0; rw [rdFlag_long l v n hu h2]; exact ⟨rfl, rfl⟩)
    | (obtain rfl : e = 0 := by omega
       subst h0; rw [rdFlag_ok l v n hu h2]; refine ⟨bool_eq (Bool.eq_iff_iff.2 ?_), rfl⟩; first | (simp; done) | (simp; omega) | (simp [*]; done))
 refine Zu ?_
 refine Zi ?_
 rcases (by omega : (e1 = 0 ∧ n ≤ l.length ∧ 1 < v) ∨ (e1 = 0 ∧ n ≤ l.length ∧ ¬ 1 < v) ∨ (0 < e1 ∧ e1 ≤ 3 ∧ v = 0)) with ⟨h0, h1, h2⟩ | ⟨h0, h1, h2⟩ | ⟨h0, h1, h2⟩
 ·
  refine Zd (l := [0, 1, 2, 3, 4, 5, 6, 7, 8, 9, 10, 11]) rfl ?_
  refine Za rfl rfl rfl rfl (Zc rfl rfl) ?_
  first
   | refine Za rfl rfl rfl rfl (Ze rfl rfl) ?_
   | refine Za rfl rfl rfl rfl (Yt rfl rfl) ?_
  refine Za rfl rfl rfl rfl (Zb (fo := 0) rfl Try.underlying169 rfl i_9 rfl rfl rfl) ?_
  refine Za rfl rfl rfl rfl (Zj rfl rfl (Zf 0 rfl) rfl Try.underlying9 rfl) ?_
  refine Yh (L2 := [_]) rfl rfl rfl rfl rfl rfl Try.call131 (ct_unchain _ v n e1 hu (by omega)) [] [] rfl rfl ?_
  rintro v post ⟨rfl, rfl⟩
  show G _ _ _ [_] _
  refine Za rfl rfl rfl rfl (Zc rfl rfl) ?_
  refine Za rfl rfl rfl rfl (Xe rfl rfl rfl) ?_
  refine Za rfl rfl rfl rfl (Xe rfl rfl rfl) ?_
  refine Za rfl rfl rfl rfl (Xe rfl rfl rfl) ?_
  refine Za rfl rfl rfl rfl (Zk rfl rfl) ?_
  refine Za rfl rfl rfl rfl (Zk rfl rfl) ?_
  refine Za rfl rfl rfl rfl (Zk rfl rfl) ?_
  refine Zg ?_
  refine Zi ?_
  refine Zi ?_
  refine Zd (l := [0, 1, 2, 3, 4, 5]) rfl ?_
  refine Za rfl rfl rfl rfl (Zc rfl rfl) ?_
  refine Za rfl rfl rfl rfl (V_eql rfl rfl rfl) ?_
  refine Za rfl rfl rfl rfl (Zc rfl rfl) ?_
  refine Xr 20 rfl (fun hc2 => ?_) (fun hc2 => ?_)
  rotate_left
  · (exfalso; omega)
  refine Za rfl rfl rfl rfl (Zc rfl rfl) ?_
  refine Za rfl rfl rfl rfl (V_gtr rfl rfl rfl) ?_
  refine Za rfl rfl rfl rfl (Yk rfl rfl rfl) ?_
  refine Zg ?_
  refine Yl rfl (fun hc3 => ?_) (fun hc3 => ?_)
  rotate_left
  · (exfalso; omega)
  refine Zd (l := [0]) rfl ?_
  refine Za rfl rfl rfl rfl (Zk rfl rfl) ?_
  refine Zg ?_
  refine Zi ?_
  refine Zd (l := [0, 1, 2, 3, 4, 5, 6, 7, 8]) rfl ?_
  refine Za rfl rfl rfl rfl (Zc rfl rfl) ?_
  refine Za rfl rfl rfl rfl (Zc rfl rfl) ?_
  refine Za rfl rfl rfl rfl (Zc rfl rfl) ?_
  refine Yh (L2 := []) rfl rfl rfl rfl rfl rfl Try.call132 (rd_took0 _ _ _ _ 3 (by omega)) [0] [] rfl rfl ?_
  rintro v post ⟨rfl, rfl⟩
  show G _ _ _ [_] _
  refine Za rfl rfl rfl rfl (Zc rfl rfl) ?_
  refine Zt rfl rfl rfl rfl ?_
  refine Zt rfl rfl rfl rfl ?_
  refine Za rfl rfl rfl rfl (Xu rfl rfl rfl) ?_
  refine Za rfl rfl rfl rfl (Zk rfl rfl) ?_
  refine Zg ?_
  refine Xa (post := [_]) Try.func141 rfl (Zy (Yy rfl) Zo) [0] rfl ?_
  dsimp only [packed]
  first
    | (rw [rdFlag_err l e (by omega)]; exact ⟨rfl, rfl⟩)
    | (obtain rfl : e = 0 := by omega
       rw [rdFlag_bad l v n e1 hu (by omega)]; exact ⟨rfl, rfl⟩)
    | (obtain rfl : e = 0 := by omega
       subst h0; rw [rdFlag_long l v n hu h2]; exact ⟨rfl, rfl⟩)
    | (obtain rfl : e = 0 := by omega
       subst h0; rw [rdFlag_ok l v n hu h2]; refine ⟨bool_eq (Bool.eq_iff_iff.2 ?_), rfl⟩; first | (simp; done) | (simp; omega) | (simp [*]; done))
 ·
  refine Zd (l := [0, 1, 2, 3, 4, 5, 6, 7, 8, 9, 10, 11]) rfl ?_
  refine Za rfl rfl rfl rfl (Zc rfl rfl) ?_
  first
   | refine Za rfl rfl rfl rfl (Ze rfl rfl) ?_
   | refine Za rfl rfl rfl rfl (Yt rfl rfl) ?_
  refine Za rfl rfl rfl rfl (Zb (fo := 0) rfl Try.underlying169 rfl i_9 rfl rfl rfl) ?_
  refine Za rfl rfl rfl rfl (Zj rfl rfl (Zf 0 rfl) rfl Try.underlying9 rfl) ?_
  refine Yh (L2 := [_]) rfl rfl rfl rfl rfl rfl Try.call131 (ct_unchain _ v n e1 hu (by omega)) [] [] rfl rfl ?_
  rintro v post ⟨rfl, rfl⟩
  show G _ _ _ [_] _
  refine Za rfl rfl rfl rfl (Zc rfl rfl) ?_
  refine Za rfl rfl rfl rfl (Xe rfl rfl rfl) ?_
  refine Za rfl rfl rfl rfl (Xe rfl rfl rfl) ?_
  refine Za rfl rfl rfl rfl (Xe rfl rfl rfl) ?_
  refine Za rfl rfl rfl rfl (Zk rfl rfl) ?_
  refine Za rfl rfl rfl rfl (Zk rfl rfl) ?_
  refine Za rfl rfl rfl rfl (Zk rfl rfl) ?_
  refine Zg ?_
  refine Zi ?_
  refine Zi ?_
  refine Zd (l := [0, 1, 2, 3, 4, 5]) rfl ?_
  refine Za rfl rfl rfl rfl (Zc rfl rfl) ?_
  refine Za rfl rfl rfl rfl (V_eql rfl rfl rfl) ?_
  refine Za rfl rfl rfl rfl (Zc rfl rfl) ?_
  refine Xr 20 rfl (fun hc2 => ?_) (fun hc2 => ?_)
  rotate_left
  · (exfalso; omega)
  refine Za rfl rfl rfl rfl (Zc rfl rfl) ?_
  refine Za rfl rfl rfl rfl (V_gtr rfl rfl rfl) ?_
  refine Za rfl rfl rfl rfl (Yk rfl rfl rfl) ?_
  refine Zg ?_
  refine Yl rfl (fun hc3 => ?_) (fun hc3 => ?_)
  · (exfalso; omega)
  refine Zu ?_
  refine Zi ?_
  refine Zd (l := [0, 1, 2, 3, 4, 5, 6, 7, 8]) rfl ?_
  refine Za rfl rfl rfl rfl (Zc rfl rfl) ?_
  refine Za rfl rfl rfl rfl (Zc rfl rfl) ?_
  refine Za rfl rfl rfl rfl (Zc rfl rfl) ?_
  refine Yh (L2 := []) rfl rfl rfl rfl rfl rfl Try.call132 (rd_took1 _ _ _ _ _ (by omega) (by omega)) [0] [] rfl rfl ?_
  rintro v post ⟨rfl, rfl⟩
  show G _ _ _ [_] _
  refine Za rfl rfl rfl rfl (Zc rfl rfl) ?_
  refine Za rfl rfl rfl rfl (Zc rfl rfl) ?_
  refine Za rfl rfl rfl rfl (V_eql rfl rfl rfl) ?_
  refine Za rfl rfl rfl rfl (Yk rfl rfl rfl) ?_
  refine Za rfl rfl rfl rfl (Zk rfl rfl) ?_
  refine Zg ?_
  refine Xa (post := [_]) Try.func141 rfl (Zy (Yy rfl) Zo) [0] rfl ?_
  dsimp only [packed]
  first
    | (rw [rdFlag_err l e (by omega)]; exact ⟨rfl, rfl⟩)
    | (obtain rfl : e = 0 := by omega
       rw [rdFlag_bad l v n e1 hu (by omega)]; exact ⟨rfl, rfl⟩)
    | (obtain rfl : e = 0 := by omega
       subst h0; rw [rdFlag_long l v n hu h2]; exact ⟨rfl, rfl⟩)
    | (obtain rfl : e = 0 := by omega
       subst h0; rw [rdFlag_ok l v n hu h2]; refine ⟨bool_eq (Bool.eq_iff_iff.2 ?_), rfl⟩; first | (simp; done) | (simp; omega) | (simp [*]; done))
 ·
  refine Zd (l := [0, 1, 2, 3, 4, 5, 6, 7, 8, 9, 10, 11]) rfl ?_
  refine Za rfl rfl rfl rfl (Zc rfl rfl) ?_
  first
   | refine Za rfl rfl rfl rfl (Ze rfl rfl) ?_
   | refine Za rfl rfl rfl rfl (Yt rfl rfl) ?_
  refine Za rfl rfl rfl rfl (Zb (fo := 0) rfl Try.underlying169 rfl i_9 rfl rfl rfl) ?_
  refine Za rfl rfl rfl rfl (Zj rfl rfl (Zf 0 rfl) rfl Try.underlying9 rfl) ?_
  refine Yh (L2 := [_]) rfl rfl rfl rfl rfl rfl Try.call131 (ct_unchain _ v n e1 hu (by omega)) [] [] rfl rfl ?_
  rintro v post ⟨rfl, rfl⟩
  show G _ _ _ [_] _
  refine Za rfl rfl rfl rfl (Zc rfl rfl) ?_
  refine Za rfl rfl rfl rfl (Xe rfl rfl rfl) ?_
  refine Za rfl rfl rfl rfl (Xe rfl rfl rfl) ?_
  refine Za rfl rfl rfl rfl (Xe rfl rfl rfl) ?_
  refine Za rfl rfl rfl rfl (Zk rfl rfl) ?_
  refine Za rfl rfl rfl rfl (Zk rfl rfl) ?_
  refine Za rfl rfl rfl rfl (Zk rfl rfl) ?_
  refine Zg ?_
  refine Zi ?_
  refine Zi ?_
  refine Zd (l := [0, 1, 2, 3, 4, 5]) rfl ?_
  refine Za rfl rfl rfl rfl (Zc rfl rfl) ?_
  refine Za rfl rfl rfl rfl (V_eql rfl rfl rfl) ?_
  refine Za rfl rfl rfl rfl (Zc rfl rfl) ?_
  refine Xr 20 rfl (fun hc2 => ?_) (fun hc2 => ?_)
  · (exfalso; omega)
  refine Zt rfl rfl rfl rfl ?_
  refine Zt rfl rfl rfl rfl ?_
  refine Za rfl rfl rfl rfl (Xu rfl rfl rfl) ?_
  refine Zg ?_
  refine G_else rfl ?_
  refine Zu ?_
  refine Zi ?_
  refine Zd (l := [0, 1, 2, 3, 4, 5, 6, 7, 8]) rfl ?_
  refine Za rfl rfl rfl rfl (Zc rfl rfl) ?_
  refine Za rfl rfl rfl rfl (Zc rfl rfl) ?_
  refine Za rfl rfl rfl rfl (Zc rfl rfl) ?_
  refine Yh (L2 := []) rfl rfl rfl rfl rfl rfl Try.call132 (rd_took0 _ _ _ _ _ (by omega)) [0] [] rfl rfl ?_
  rintro v post ⟨rfl, rfl⟩
  show G _ _ _ [_] _
  refine Za rfl rfl rfl rfl (Zc rfl rfl) ?_
  refine Zt rfl rfl rfl rfl ?_
  refine Zt rfl rfl rfl rfl ?_
  refine Za rfl rfl rfl rfl (Xu rfl rfl rfl) ?_
  refine Za rfl rfl rfl rfl (Zk rfl rfl) ?_
  refine Zg ?_
  refine Xa (post := [_]) Try.func141 rfl (Zy (Yy rfl) Zo) [0] rfl ?_
  dsimp only [packed]
  first
    | (rw [rdFlag_err l e (by omega)]; exact ⟨rfl, rfl⟩)
    | (obtain rfl : e = 0 := by omega
       rw [rdFlag_bad l v n e1 hu (by omega)]; exact ⟨rfl, rfl⟩)
    | (obtain rfl : e = 0 := by omega
       subst h0; rw [rdFlag_long l v n hu h2]; exact ⟨rfl, rfl⟩)
    | (obtain rfl : e = 0 := by omega
       subst h0; rw [rdFlag_ok l v n hu h2]; refine ⟨bool_eq (Bool.eq_iff_iff.2 ?_), rfl⟩; first | (simp; done) | (simp; omega) | (simp [*]; done))

set_option maxRecDepth 100000 in
set_option maxHeartbeats 1000000 in
theorem rd_end (b : Nat) (l : List UInt8) (e : Nat) :
    Ct Try.prog 35 [.pointer (some ⟨b, 0, none⟩)] [(some b, .cells #[.string (bs l), .int .i64 ((e : Nat) : Int)] 169 (0, 0))] [] fun r post => r = .int .i64 ((rdEnd l e : Nat) : Int) ∧ post = [] := by
 refine Yv Try.func35 rfl rfl (fun w0 => ?_)
 show G _ _ [(0, _)] _ _
 refine Zi ?_
 refine Zd (l := [0]) rfl ?_
 refine Za rfl rfl rfl rfl (Zk rfl rfl) ?_
 refine Zg ?_
 refine Zi ?_
 refine Zi ?_
 refine Zd (l := [0, 1, 2]) rfl ?_
 refine Za rfl rfl rfl rfl (Zc rfl rfl) ?_
 refine Yh (L2 := []) rfl rfl rfl rfl rfl rfl Try.call86 (rd_err _ _ _) [] [0] rfl rfl ?_
 rintro v post ⟨rfl, rfl⟩
 refine Za rfl rfl rfl rfl (Zk rfl rfl) ?_
 refine Zg ?_
 refine Zi ?_
 refine Zd (l := [0, 1]) rfl ?_
 refine Za rfl rfl rfl rfl (Zc rfl rfl) ?_
 refine Za rfl rfl rfl rfl (V_neq rfl rfl rfl) ?_
 refine Zg ?_
 refine Yl rfl (fun hc1 => ?_) (fun hc1 => ?_)
 ·
  refine Zi ?_
  refine Zd (l := [0, 1]) rfl ?_
  refine Za rfl rfl rfl rfl (Zc rfl rfl) ?_
  refine Za rfl rfl rfl rfl (Zk rfl rfl) ?_
  refine Zg ?_
  refine Xa (post := []) Try.func35 rfl (Zy (Yy rfl) Zo) [] rfl ?_
  dsimp only [packed]
  refine ⟨?_, rfl⟩; unfold rdEnd; first | (rw [if_pos (by omega)]; done) | (rw [if_neg (by omega), if_neg (by assumption)]; rfl) | (rw [if_neg (by omega), if_pos (Classical.not_not.1 (by assumption))]; rfl) | (rw [if_neg (by omega), if_pos (by assumption)]; rfl)
 refine Zu ?_
 refine Zi ?_
 refine Zi ?_
 refine Zd (l := [0, 1, 2, 3, 4]) rfl ?_
 refine Za rfl rfl rfl rfl (Zc rfl rfl) ?_
 first
  | refine Za rfl rfl rfl rfl (Ze rfl rfl) ?_
  | refine Za rfl rfl rfl rfl (Yt rfl rfl) ?_
 refine Za rfl rfl rfl rfl (Zb (fo := 0) rfl Try.underlying169 rfl i_9 rfl rfl rfl) ?_
 refine Za rfl rfl rfl rfl (Zj rfl rfl (Zf 0 rfl) rfl Try.underlying9 rfl) ?_
 refine Za rfl rfl rfl rfl (V_sneq rfl rfl rfl) ?_
 refine Zg ?_
 refine Yl rfl (fun hc2 => ?_) (fun hc2 => ?_)
 ·
  refine Zi ?_
  refine Zd (l := [0]) rfl ?_
  refine Za rfl rfl rfl rfl (Zk rfl rfl) ?_
  refine Zg ?_
  refine Xa (post := []) Try.func35 rfl (Zy (Yy rfl) Zo) [] rfl ?_
  dsimp only [packed]
  refine ⟨?_, rfl⟩; unfold rdEnd; first | (rw [if_pos (by omega)]; done) | (rw [if_neg (by omega), if_neg (by assumption)]; rfl) | (rw [if_neg (by omega), if_pos (Classical.not_not.1 (by assumption))]; rfl) | (rw [if_neg (by omega), if_pos (by assumption)]; rfl)
 refine Zu ?_
 refine Zi ?_
 refine Zd (l := [0]) rfl ?_
 refine Za rfl rfl rfl rfl (Zk rfl rfl) ?_
 refine Zg ?_
 refine Xa (post := []) Try.func35 rfl (Zy (Yy rfl) Zo) [] rfl ?_
 dsimp only [packed]
 refine ⟨?_, rfl⟩; unfold rdEnd; first | (rw [if_pos (by omega)]; done) | (rw [if_neg (by omega), if_neg (by assumption)]; rfl) | (rw [if_neg (by omega), if_pos (Classical.not_not.1 (by assumption))]; rfl) | (rw [if_neg (by omega), if_pos (by assumption)]; rfl)

set_option maxRecDepth 100000 in
set_option maxHeartbeats 1000000 in
theorem rd_new (l : List UInt8) :
    Ct Try.prog 33 [.string (bs l)] [] [] fun r post => ∃ b, r = .pointer (some ⟨b, 0, none⟩) ∧ post = [(some b, .cells #[.string (bs l), .int .i64 ((0 : Nat) : Int)] 169 (0, 0))] := by
 refine Yv Try.func33 rfl rfl (fun w0 => ?_)
 show G _ _ [(0, _)] _ _
 refine Zi ?_
 refine Zd (l := [0]) rfl ?_
 refine Za rfl rfl rfl rfl (Zk rfl rfl) ?_
 refine Zg ?_
 refine Zi ?_
 refine Zd (l := [0, 1, 2, 3]) rfl ?_
 refine Za rfl rfl rfl rfl (Zc rfl rfl) ?_
 refine Za rfl rfl rfl rfl (V_buildS (cs := [_, _]) rfl Try.underlying169 i_169 rfl p_169 rfl rfl rfl) ?_
 refine Yr rfl rfl rfl rfl (N_boxA rfl rfl) (fun b5 => ?_)
 refine Za rfl rfl rfl rfl (Zk rfl rfl) ?_
 refine Zg ?_
 refine Xa (post := [_]) Try.func33 rfl (Zy (Yy rfl) Zo) [0] rfl ?_
 dsimp only [packed]
 exact ⟨_, rfl, rfl⟩

end
end Go.Proofs.Ytjnaeoelnmhjfaa

set_option linter.unusedSimpArgs false
set_option linter.unusedVariables false
namespace Go.Proofs.Ytjnaeoelnmhjfaa
open Go Go.RowKit

section



theorem rdNum_bd (l : List UInt8) (e : Nat) (he : e ≤ 1000) : (rdNum l e).1 < 18446744073709551616 ∧ (rdNum l e).2.1.length ≤ l.length ∧ (rdNum l e).2.2 ≤ 1000 := by
  obtain ⟨v, n, e1, hu⟩ : ∃ v n e1, unchain l = (v, n, e1) := ⟨_, _, _, rfl⟩
  obtain ⟨hv, hb⟩ := unchain_bd hu
  by_cases h : e = 0
  · subst h
    rcases hb with ⟨h0, h1, _, _⟩ | ⟨h0, h1, h2⟩
    · subst h0
      rw [rdNum_ok l v n hu]
      exact ⟨hv, by simp, by simp⟩
    · rw [rdNum_bad l v n e1 hu (by omega)]
      exact ⟨by simp, by simp, by simp only; omega⟩
  · rw [rdNum_err l e h]
    exact ⟨by simp, by simp, he⟩
theorem rdInt_bd (most : Int) (l : List UInt8) (e : Nat) (he : e ≤ 1000) (hm : 0 ≤ most) : (((rdInt most l e).1 : Nat) : Int) ≤ most ∧ (rdInt most l e).2.1.length ≤ l.length ∧ (rdInt most l e).2.2 ≤ 1000 := by
  obtain ⟨v, n, e1, hu⟩ : ∃ v n e1, unchain l = (v, n, e1) := ⟨_, _, _, rfl⟩
  obtain ⟨hv, hb⟩ := unchain_bd hu
  by_cases h : e = 0
  · subst h
    rcases hb with ⟨h0, h1, _, _⟩ | ⟨h0, h1, h2⟩
    · subst h0
      by_cases hl : most < (v : Int)
      · rw [rdInt_long most l v n hu (.inr hl)]
        exact ⟨by simpa using hm, by simp, by simp⟩
      · rw [rdInt_ok most l v n hu (by omega)]
        exact ⟨by simp only; omega, by simp, by simp⟩
    · rw [rdInt_bad most l v n e1 hu (by omega)]
      exact ⟨by simpa using hm, by simp, by simp only; omega⟩
  · rw [rdInt_err most l e h]
    exact ⟨by simpa using hm, by simp, he⟩
theorem rdStr_bd (most : Int) (l : List UInt8) (e : Nat) (he : e ≤ 1000) (hm : 0 ≤ most) : (((rdStr most l e).1.length : Nat) : Int) ≤ most ∧ (rdStr most l e).2.1.length ≤ l.length ∧ (rdStr most l e).2.2 ≤ 1000 := by
  obtain ⟨s, n, e1, hu⟩ : ∃ v n e1, untext l most = (v, n, e1) := ⟨_, _, _, rfl⟩
  by_cases h : e = 0
  · subst h
    rcases untext_ok l most s n e1 hu with ⟨h0, h1, h2, h3⟩ | ⟨h0, h1, h2, h3⟩
    · subst h0
      rw [rdStr_ok most l s n hu]
      exact ⟨h3, by simp, by simp⟩
    · rw [rdStr_bad most l s n e1 hu (by omega)]
      exact ⟨by simpa using hm, by simp, by simp only; omega⟩
  · rw [rdStr_err most l e h]
    exact ⟨by simpa using hm, by simp, he⟩
end
end Go.Proofs.Ytjnaeoelnmhjfaa

set_option linter.unusedSimpArgs false
set_option linter.unusedVariables false
namespace Go.Proofs.Ytjnaeoelnmhjfaa
open Go Go.RowKit

section



theorem untext_back (l : List UInt8) (most : Int) (s : List UInt8) (n : Nat) (h : untext l most = (s, n, 0)) : l = text s ++ l.drop n := by
  obtain ⟨v, k, e, hu⟩ : ∃ v n e, unchain l = (v, n, e) := ⟨_, _, _, rfl⟩
  obtain ⟨_, hb⟩ := unchain_bd hu
  by_cases he : e = 0
  · subst he
    by_cases hm : most < 0 ∨ most < (v : Int)
    · rw [untext_long l most v k hu hm] at h; simp at h
    · by_cases hs : l.length - k < v
      · rw [untext_short l most v k hu hm hs] at h; simp at h
      · rw [untext_yes l most v k hu hm hs] at h
        simp only [Prod.mk.injEq, and_true] at h
        obtain ⟨rfl, rfl⟩ := h
        have hc := chain_unchain l v k hu
        have hl : ((l.drop k).take v).length = v := by simp; omega
        unfold text
        rw [hl, hc, List.append_assoc, ← List.drop_drop, List.take_append_drop, List.take_append_drop]
  · rw [untext_err l most v k e hu he] at h
    simp only [Prod.mk.injEq] at h
    exact absurd h.2.2 he
theorem rdStr_back {most : Int} {l : List UInt8} {e : Nat} (h : (rdStr most l e).2.2 = 0) : e = 0 ∧ l = text (rdStr most l e).1 ++ (rdStr most l e).2.1 := by
  by_cases he : e = 0
  · subst he
    refine ⟨rfl, ?_⟩
    obtain ⟨s, n, e1, hu⟩ : ∃ v n e1, untext l most = (v, n, e1) := ⟨_, _, _, rfl⟩
    by_cases h1 : e1 = 0
    · subst h1
      rw [rdStr_ok most l s n hu]
      exact untext_back l most s n hu
    · rw [rdStr_bad most l s n e1 hu h1] at h; exact absurd h h1
  · rw [rdStr_err most l e he] at h; exact absurd h he
theorem rdNum_back {l : List UInt8} {e : Nat} (h : (rdNum l e).2.2 = 0) : e = 0 ∧ l = chainI ((rdNum l e).1 : Nat) ++ (rdNum l e).2.1 := by
  by_cases he : e = 0
  · subst he
    refine ⟨rfl, ?_⟩
    obtain ⟨v, n, e1, hu⟩ : ∃ v n e1, unchain l = (v, n, e1) := ⟨_, _, _, rfl⟩
    by_cases h1 : e1 = 0
    · subst h1
      rw [rdNum_ok l v n hu]
      show l = chain v ++ l.drop n
      rw [chain_unchain l v n hu, List.take_append_drop]
    · rw [rdNum_bad l v n e1 hu h1] at h; exact absurd h h1
  · rw [rdNum_err l e he] at h; exact absurd h he
theorem rdInt_back {most : Int} {l : List UInt8} {e : Nat} (h : (rdInt most l e).2.2 = 0) : e = 0 ∧ l = chainI ((rdInt most l e).1 : Nat) ++ (rdInt most l e).2.1 := by
  by_cases he : e = 0
  · subst he
    refine ⟨rfl, ?_⟩
    obtain ⟨v, n, e1, hu⟩ : ∃ v n e1, unchain l = (v, n, e1) := ⟨_, _, _, rfl⟩
    by_cases h1 : e1 = 0
    · subst h1
      by_cases hl : most < 0 ∨ most < (v : Int)
      · rw [rdInt_long most l v n hu hl] at h; simp at h
      · rw [rdInt_ok most l v n hu hl]
        show l = chain v ++ l.drop n
        rw [chain_unchain l v n hu, List.take_append_drop]
    · rw [rdInt_bad most l v n e1 hu h1] at h; exact absurd h h1
  · rw [rdInt_err most l e he] at h; exact absurd h he
theorem rdFlag_back {l : List UInt8} {e : Nat} (h : (rdFlag l e).2.2 = 0) : e = 0 ∧ l = chainI (if (rdFlag l e).1 then 1 else 0) ++ (rdFlag l e).2.1 := by
  by_cases he : e = 0
  · subst he
    refine ⟨rfl, ?_⟩
    obtain ⟨v, n, e1, hu⟩ : ∃ v n e1, unchain l = (v, n, e1) := ⟨_, _, _, rfl⟩
    by_cases h1 : e1 = 0
    · subst h1
      by_cases hl : 1 < v
      · rw [rdFlag_long l v n hu hl] at h; simp at h
      · rw [rdFlag_ok l v n hu hl]
        have hv : chainI (if (v == 1) = true then 1 else 0) = chain v := by
          rcases (by omega : v = 0 ∨ v = 1) with rfl | rfl <;> rfl
        simp only
        rw [hv, chain_unchain l v n hu, List.take_append_drop]
    · rw [rdFlag_bad l v n e1 hu h1] at h; exact absurd h h1
  · rw [rdFlag_err l e he] at h; exact absurd h he
theorem rdEnd_back {l : List UInt8} {e : Nat} (h : rdEnd l e = 0) : e = 0 ∧ l = [] := by
  unfold rdEnd at h
  by_cases he : e = 0
  · rw [if_neg (by omega)] at h
    by_cases hl : l = []
    · exact ⟨he, hl⟩
    · rw [if_neg hl] at h; omega
  · rw [if_pos he] at h; exact absurd h he
theorem rdStr_text (most : Int) (s rest : List UInt8) (h : (s.length : Int) ≤ most) (h64 : s.length < 18446744073709551616) : rdStr most (text s ++ rest) 0 = (s, rest, 0) := by
  rw [rdStr_ok most _ s (text s).length (untext_text s rest most h h64), List.drop_left]
theorem rdInt_chain (most x : Int) (rest : List UInt8) (h0 : 0 ≤ x) (h1 : x ≤ most) (h2 : x < 18446744073709551616) : rdInt most (chainI x ++ rest) 0 = (x.toNat, rest, 0) := by
  unfold chainI
  rw [rdInt_ok most _ x.toNat (chain x.toNat).length (unchain_chain x.toNat rest (by unfold U64; omega)) (by omega), List.drop_left]
theorem rdNum_chain (n : Nat) (rest : List UInt8) (h : n < 18446744073709551616) : rdNum (chainI (n : Int) ++ rest) 0 = (n, rest, 0) := by
  have e : chainI (n : Int) = chain n := rfl
  rw [e, rdNum_ok _ n (chain n).length (unchain_chain n rest h), List.drop_left]
theorem rdFlag_chain (b : Bool) (rest : List UInt8) : rdFlag (chainI (if b then 1 else 0) ++ rest) 0 = (b, rest, 0) := by
  cases b
  · have e : chainI (if false = true then 1 else 0) = chain 0 := rfl
    rw [e, rdFlag_ok _ 0 (chain 0).length (unchain_chain 0 rest (by unfold U64; omega)) (by omega), List.drop_left]; rfl
  · have e : chainI (if true = true then 1 else 0) = chain 1 := rfl
    rw [e, rdFlag_ok _ 1 (chain 1).length (unchain_chain 1 rest (by unfold U64; omega)) (by omega), List.drop_left]; rfl

end
end Go.Proofs.Ytjnaeoelnmhjfaa

set_option linter.unusedSimpArgs false
set_option linter.unusedVariables false
namespace Go.Proofs.Ytjnaeoelnmhjfaa
open Go Go.RowKit

section



def encNum (n : Nat) : List UInt8 := chainI (n : Int)
/-- Of the bytes l, behind the error e, v is told; l' is left, behind the error e'. -/
structure Rdg {α : Type} (enc : α → List UInt8) (good : α → Prop) (l : List UInt8) (e : Nat) (v : α) (l' : List UInt8) (e' : Nat) : Prop where
  back : e' = 0 → e = 0 ∧ good v ∧ l = enc v ++ l'
  forth : ∀ w r, e = 0 → good w → l = enc w ++ r → e' = 0 ∧ v = w ∧ l' = r
  len : l'.length ≤ l.length
  err : e' ≤ 1000
/-- What is told of bytes that are none's. -/
theorem Rdg.bad {α : Type} {enc : α → List UInt8} {good : α → Prop} {l l' : List UInt8} {e e' : Nat} {v : α} (h : Rdg enc good l e v l' e') (he : e' ≠ 0) (u : α) : Rdg enc good l e u l' e' :=
  ⟨fun h0 => absurd h0 he, fun w r h1 h2 h3 => absurd (h.forth w r h1 h2 h3).1 he, h.len, h.err⟩
theorem Rdg.seq {α β γ : Type} {ea : α → List UInt8} {eb : β → List UInt8} {ga : α → Prop} {gb : β → Prop} {l l1 l2 : List UInt8} {e e1 e2 : Nat} {a : α} {b : β} (h1 : Rdg ea ga l e a l1 e1) (h2 : Rdg eb gb l1 e1 b l2 e2)
    {ec : γ → List UInt8} {gc : γ → Prop} {c : γ} (pa : γ → α) (pb : γ → β) (ha : pa c = a) (hb : pb c = b) (hc : ∀ x y, gc x → gc y → pa x = pa y → pb x = pb y → x = y) (hg : ∀ x, gc x → ga (pa x) ∧ gb (pb x)) (hg' : ga a → gb b → gc c) (he : ∀ x, gc x → ec x = ea (pa x) ++ eb (pb x)) : Rdg ec gc l e c l2 e2 := by
  subst ha hb
  refine ⟨fun h0 => ?_, fun w r h0 hw hl => ?_, Nat.le_trans h2.len h1.len, h2.err⟩
  · obtain ⟨x1, x2, x3⟩ := h2.back h0
    obtain ⟨y1, y2, y3⟩ := h1.back x1
    exact ⟨y1, hg' y2 x2, by rw [y3, he _ (hg' y2 x2), List.append_assoc, ← x3]⟩
  · obtain ⟨k1, k2⟩ := hg _ hw
    rw [he _ hw, List.append_assoc] at hl
    obtain ⟨x1, x2, x3⟩ := h1.forth _ _ h0 k1 hl
    obtain ⟨y1, y2, y3⟩ := h2.forth _ _ x1 k2 x3
    have z1 := (h1.back x1).2.1
    have z2 := (h2.back y1).2.1
    exact ⟨y1, hc _ _ (hg' z1 z2) hw x2 y2, y3⟩
theorem Rdg.pair {α β : Type} {ea : α → List UInt8} {eb : β → List UInt8} {ga : α → Prop} {gb : β → Prop} {l l1 l2 : List UInt8} {e e1 e2 : Nat} {a : α} {b : β} (h1 : Rdg ea ga l e a l1 e1) (h2 : Rdg eb gb l1 e1 b l2 e2) :
    Rdg (fun p : α × β => ea p.1 ++ eb p.2) (fun p => ga p.1 ∧ gb p.2) l e (a, b) l2 e2 :=
  h1.seq h2 Prod.fst Prod.snd rfl rfl (fun _ _ _ _ x y => Prod.ext x y) (fun _ h => h) (fun x y => ⟨x, y⟩) (fun _ _ => rfl)
/-- Of a number that no element begins with. -/
theorem Rdg.none {γ : Type} {g0 : Nat → Prop} {l l1 : List UInt8} {e e1 n : Nat} (h1 : Rdg encNum g0 l e n l1 e1) {ec : γ → List UInt8} {gc : γ → Prop} (kd : γ → Nat) (tail : γ → List UInt8) (he : ∀ x, gc x → ec x = encNum (kd x) ++ tail x) (hk : ∀ x, gc x → g0 (kd x)) (hn : ∀ x, gc x → kd x ≠ n) :
    ∀ w r, e = 0 → gc w → l ≠ ec w ++ r := by
  intro w r h0 hw hl
  rw [he _ hw, List.append_assoc] at hl
  exact hn _ hw (h1.forth _ _ h0 (hk _ hw) hl).2.1.symm
/-- The same, under another name of what is told. -/
theorem Rdg.to {α β : Type} {ea : α → List UInt8} {ga : α → Prop} {l l1 : List UInt8} {e e1 : Nat} {a : α} (h : Rdg ea ga l e a l1 e1) {eb : β → List UInt8} {gb : β → Prop} {b : β} (f : α → β) (g : β → α) (hfg : ∀ b, gb b → f (g b) = b) (hgf : ga a → g (f a) = a) (hb : e1 = 0 → b = f a) (hbad : e1 ≠ 0 ∨ e1 = 0) (hg : ∀ x, gb x → ga (g x)) (hg' : ga a → gb (f a)) (he : ∀ x, gb x → eb x = ea (g x)) : Rdg eb gb l e b l1 e1 := by
  refine ⟨fun h0 => ?_, fun w r h0 hw hl => ?_, h.len, h.err⟩
  · obtain ⟨x1, x2, x3⟩ := h.back h0
    rw [hb h0]
    exact ⟨x1, hg' x2, by rw [he _ (hg' x2), hgf x2]; exact x3⟩
  · rw [he w hw] at hl
    obtain ⟨x1, x2, x3⟩ := h.forth _ _ h0 (hg w hw) hl
    exact ⟨x1, by rw [hb x1, x2, hfg w hw], x3⟩
def goodNum (n : Nat) : Prop := n < 18446744073709551616
def goodInt (most : Int) (n : Nat) : Prop := (n : Int) ≤ most
def goodStr (most : Int) (s : List UInt8) : Prop := (s.length : Int) ≤ most
def encFlag (b : Bool) : List UInt8 := chainI (if b then 1 else 0)
theorem rdg_num (l : List UInt8) (e : Nat) (he : e ≤ 1000) : Rdg encNum goodNum l e (rdNum l e).1 (rdNum l e).2.1 (rdNum l e).2.2 := by
  obtain ⟨b1, b2, b3⟩ := rdNum_bd l e he
  refine ⟨fun h0 => ?_, fun w r h0 hw hl => ?_, b2, b3⟩
  · obtain ⟨x1, x2⟩ := rdNum_back h0
    exact ⟨x1, b1, x2⟩
  · subst h0 hl
    rw [show rdNum (encNum w ++ r) 0 = (w, r, 0) from rdNum_chain w r hw]
    exact ⟨rfl, rfl, rfl⟩
theorem rdg_int (most : Int) (l : List UInt8) (e : Nat) (he : e ≤ 1000) (hm : 0 ≤ most ∧ most < 18446744073709551616) : Rdg encNum (goodInt most) l e (rdInt most l e).1 (rdInt most l e).2.1 (rdInt most l e).2.2 := by
  obtain ⟨b1, b2, b3⟩ := rdInt_bd most l e he hm.1
  refine ⟨fun h0 => ?_, fun w r h0 hw hl => ?_, b2, b3⟩
  · obtain ⟨x1, x2⟩ := rdInt_back h0
    exact ⟨x1, b1, x2⟩
  · subst h0 hl
    unfold goodInt at hw
    rw [show rdInt most (encNum w ++ r) 0 = ((w : Int).toNat, r, 0) from rdInt_chain most w r (by omega) hw (by omega)]
    exact ⟨rfl, by simp, rfl⟩
theorem rdg_str (most : Int) (l : List UInt8) (e : Nat) (he : e ≤ 1000) (hm : 0 ≤ most ∧ most < 18446744073709551616) : Rdg text (goodStr most) l e (rdStr most l e).1 (rdStr most l e).2.1 (rdStr most l e).2.2 := by
  obtain ⟨b1, b2, b3⟩ := rdStr_bd most l e he hm.1
  refine ⟨fun h0 => ?_, fun w r h0 hw hl => ?_, b2, b3⟩
  · obtain ⟨x1, x2⟩ := rdStr_back h0
    exact ⟨x1, b1, x2⟩
  · subst h0 hl
    unfold goodStr at hw
    rw [show rdStr most (text w ++ r) 0 = (w, r, 0) from rdStr_text most w r hw (by omega)]
    exact ⟨rfl, rfl, rfl⟩
theorem rdgFlag_bd (l : List UInt8) (e : Nat) (he : e ≤ 1000) : (rdFlag l e).2.1.length ≤ l.length ∧ (rdFlag l e).2.2 ≤ 1000 := by
  obtain ⟨v, n, e1, hu⟩ : ∃ v n e1, unchain l = (v, n, e1) := ⟨_, _, _, rfl⟩
  obtain ⟨hv, hb⟩ := unchain_bd hu
  by_cases h : e = 0
  · subst h
    rcases hb with ⟨h0, h1, _, _⟩ | ⟨h0, h1, h2⟩
    · subst h0
      by_cases hl : 1 < v
      · rw [rdFlag_long l v n hu hl]
        exact ⟨by simp, by simp⟩
      · rw [rdFlag_ok l v n hu hl]
        exact ⟨by simp, by simp⟩
    · rw [rdFlag_bad l v n e1 hu (by omega)]
      exact ⟨by simp, by simp only; omega⟩
  · rw [rdFlag_err l e h]
    exact ⟨by simp, he⟩
theorem rdg_flag (l : List UInt8) (e : Nat) (he : e ≤ 1000) : Rdg encFlag (fun _ => True) l e (rdFlag l e).1 (rdFlag l e).2.1 (rdFlag l e).2.2 := by
  obtain ⟨b2, b3⟩ := rdgFlag_bd l e he
  refine ⟨fun h0 => ?_, fun w r h0 hw hl => ?_, b2, b3⟩
  · obtain ⟨x1, x2⟩ := rdFlag_back h0
    exact ⟨x1, trivial, x2⟩
  · subst h0 hl
    rw [show rdFlag (encFlag w ++ r) 0 = (w, r, 0) from rdFlag_chain w r]
    exact ⟨rfl, rfl, rfl⟩
/-- The first ones of so many elements. -/
structure RdgL {α : Type} (enc : α → List UInt8) (good : α → Prop) (n : Nat) (l : List UInt8) (e : Nat) (i : Nat) (vs : List α) (l' : List UInt8) (e' : Nat) : Prop where
  num : vs.length = i
  back : e' = 0 → e = 0 ∧ (∀ v ∈ vs, good v) ∧ l = vs.flatMap enc ++ l'
  forth : ∀ (ws : List α) (r : List UInt8), e = 0 → ws.length = n → (∀ w ∈ ws, good w) → l = ws.flatMap enc ++ r → e' = 0 ∧ vs = ws.take i ∧ l' = (ws.drop i).flatMap enc ++ r
  len : l'.length ≤ l.length
  err : e' ≤ 1000
theorem RdgL.zero {α : Type} {enc : α → List UInt8} {good : α → Prop} {n : Nat} {l : List UInt8} {e : Nat} (he : e ≤ 1000) : RdgL enc good n l e 0 [] l e :=
  ⟨rfl, fun h => ⟨h, by simp, by simp⟩, fun ws r h0 _ _ hl => ⟨h0, by simp, by simpa using hl⟩, Nat.le_refl _, he⟩
theorem RdgL.next {α : Type} {enc : α → List UInt8} {good : α → Prop} {n i : Nat} {l l1 l2 : List UInt8} {e e1 e2 : Nat} {vs : List α} {v : α} (h : RdgL enc good n l e i vs l1 e1) (h1 : Rdg enc good l1 e1 v l2 e2) (hi : i < n) : RdgL enc good n l e (i + 1) (vs ++ [v]) l2 e2 := by
  refine ⟨by simp [h.num], fun h0 => ?_, fun ws r h0 hn hg hl => ?_, Nat.le_trans h1.len h.len, h1.err⟩
  · obtain ⟨x1, x2, x3⟩ := h1.back h0
    obtain ⟨y1, y2, y3⟩ := h.back x1
    refine ⟨y1, fun u hu => ?_, by rw [y3, x3]; simp⟩
    rcases List.mem_append.1 hu with hu | hu
    · exact y2 u hu
    · rw [List.mem_singleton.1 hu]; exact x2
  · obtain ⟨x1, x2, x3⟩ := h.forth ws r h0 hn hg hl
    have hd : ws.drop i = ws[i]'(by omega) :: ws.drop (i + 1) := List.drop_eq_getElem_cons (by omega)
    rw [hd, List.flatMap_cons, List.append_assoc] at x3
    obtain ⟨y1, y2, y3⟩ := h1.forth _ _ x1 (hg _ (List.getElem_mem (by omega))) x3
    refine ⟨y1, ?_, y3⟩
    rw [x2, y2, List.take_succ_eq_append_getElem (by omega)]
theorem RdgL.done {α : Type} {enc : α → List UInt8} {good : α → Prop} {n : Nat} {l l1 : List UInt8} {e e1 : Nat} {vs : List α} (h : RdgL enc good n l e n vs l1 e1) : Rdg (fun vs => vs.flatMap enc) (fun vs => vs.length = n ∧ ∀ v ∈ vs, good v) l e vs l1 e1 := by
  refine ⟨fun h0 => ?_, fun ws r h0 hw hl => ?_, h.len, h.err⟩
  · obtain ⟨x1, x2, x3⟩ := h.back h0
    exact ⟨x1, ⟨h.num, x2⟩, x3⟩
  · obtain ⟨x1, x2, x3⟩ := h.forth ws r h0 hw.1 hw.2 hl
    exact ⟨x1, by rw [x2, List.take_of_length_le (by omega)], by rw [x3, List.drop_eq_nil_of_le (by omega)]; rfl⟩
theorem RdgL.bad {α : Type} {enc : α → List UInt8} {good : α → Prop} {n i : Nat} {l l1 : List UInt8} {e e1 : Nat} {vs us : List α} (h : RdgL enc good n l e i vs l1 e1) (he : e1 ≠ 0) : Rdg (fun vs => vs.flatMap enc) (fun vs => vs.length = n ∧ ∀ v ∈ vs, good v) l e us l1 e1 :=
  ⟨fun h0 => absurd h0 he, fun w r h0 h2 h3 => absurd (h.forth w r h0 h2.1 h2.2 h3).1 he, h.len, h.err⟩
/-- A list with its length ahead. -/
def encList {α : Type} (enc : α → List UInt8) (vs : List α) : List UInt8 := chainI (vs.length : Int) ++ vs.flatMap enc
theorem rdg_list {α : Type} {enc : α → List UInt8} {good : α → Prop} {most : Int} {l l1 l2 : List UInt8} {e e1 e2 n : Nat} {vs : List α} (h0 : Rdg encNum (goodInt most) l e n l1 e1)
    (h : Rdg (fun vs => vs.flatMap enc) (fun vs => vs.length = n ∧ ∀ v ∈ vs, good v) l1 e1 vs l2 e2) : Rdg (encList enc) (fun vs => (vs.length : Int) ≤ most ∧ ∀ v ∈ vs, good v) l e vs l2 e2 := by
  refine ⟨fun hz => ?_, fun ws r hz hw hl => ?_, Nat.le_trans h.len h0.len, h.err⟩
  · obtain ⟨x1, ⟨x2, x3⟩, x4⟩ := h.back hz
    obtain ⟨y1, y2, y3⟩ := h0.back x1
    refine ⟨y1, ⟨by rw [x2]; exact y2, x3⟩, ?_⟩
    rw [y3, x4, ← x2]
    simp [encList, encNum]
  · have hl' : l = encNum ws.length ++ (ws.flatMap enc ++ r) := by rw [hl]; simp [encList, encNum]
    obtain ⟨x1, x2, x3⟩ := h0.forth _ _ hz hw.1 hl'
    subst x2
    exact h.forth ws r x1 ⟨rfl, hw.2⟩ x3
/-- All of the bytes. -/
structure Whole {α : Type} (enc : α → List UInt8) (good : α → Prop) (l : List UInt8) (v : α) (ok : Prop) : Prop where
  back : ok → good v ∧ enc v = l
  forth : ∀ w, good w → enc w = l → ok ∧ v = w
theorem Rdg.whole {α : Type} {enc : α → List UInt8} {good : α → Prop} {l l' : List UInt8} {e' : Nat} {v : α} (h : Rdg enc good l 0 v l' e') : Whole enc good l v (rdEnd l' e' = 0) := by
  refine ⟨fun h0 => ?_, fun w hw hl => ?_⟩
  · obtain ⟨x1, x2⟩ := rdEnd_back h0
    obtain ⟨y1, y2, y3⟩ := h.back x1
    exact ⟨y2, by rw [y3, x2, List.append_nil]⟩
  · obtain ⟨x1, x2, x3⟩ := h.forth w [] rfl hw (by rw [hl, List.append_nil])
    subst x1 x3
    exact ⟨rfl, x2⟩

end
end Go.Proofs.Ytjnaeoelnmhjfaa

set_option linter.unusedSimpArgs false
set_option linter.unusedVariables false
namespace Go.Proofs.Ytjnaeoelnmhjfaa
open Go Go.RowKit

section



theorem Rdg.map {α β : Type} {ea : α → List UInt8} {ga : α → Prop} {l l1 : List UInt8} {e e1 : Nat} {a : α} (h : Rdg ea ga l e a l1 e1) {eb : β → List UInt8} {gb : β → Prop} (b : β) (g : β → α) (hb : g b = a) (hi : ∀ x y, gb x → gb y → g x = g y → x = y) (hg : ∀ x, gb x → ga (g x)) (hg' : ga (g b) → gb b) (he : ∀ x, gb x → eb x = ea (g x)) : Rdg eb gb l e b l1 e1 := by
  subst hb
  refine ⟨fun h0 => ?_, fun w r h0 hw hl => ?_, h.len, h.err⟩
  · obtain ⟨x1, x2, x3⟩ := h.back h0
    exact ⟨x1, hg' x2, by rw [he _ (hg' x2)]; exact x3⟩
  · rw [he w hw] at hl
    obtain ⟨x1, x2, x3⟩ := h.forth _ _ h0 (hg w hw) hl
    exact ⟨x1, hi _ _ (hg' (h.back x1).2.1) hw x2, x3⟩
def GI (x : Int) : Prop := badI x = false
def GT (s : List UInt8) : Prop := badT s = false
def GU (n : Nat) : Prop := n < 18446744073709551616
def encU (n : Nat) : List UInt8 := chainI (n : Int)
theorem GI_iff {x : Int} : GI x ↔ 0 ≤ x ∧ x ≤ 1099511627776 := by unfold GI badI; rw [decide_eq_false_iff_not]; omega
theorem GT_iff {s : List UInt8} : GT s ↔ s.length ≤ 200 := by unfold GT badT; rw [decide_eq_false_iff_not]; omega
theorem rdg_I {l l1 : List UInt8} {e e1 n : Nat} (he : e ≤ 1000) (h : rdInt 1099511627776 l e = (n, l1, e1)) : Rdg encI GI l e (n : Int) l1 e1 := by
  have r := rdg_int 1099511627776 l e he (by omega)
  rw [h] at r
  refine ⟨fun h0 => ?_, fun w r' h0 hw hl => ?_, r.len, r.err⟩
  · obtain ⟨x1, x2, x3⟩ := r.back h0
    have x2 : (n : Int) ≤ 1099511627776 := x2
    refine ⟨x1, GI_iff.2 ⟨by omega, x2⟩, ?_⟩
    rw [encI_of (by omega) (by omega)]; exact x3
  · obtain ⟨g1, g2⟩ := GI_iff.1 hw
    obtain ⟨k, rfl⟩ := Int.eq_ofNat_of_zero_le g1
    rw [encI_of (by omega) (by omega)] at hl
    obtain ⟨x1, x2, x3⟩ := r.forth k r' h0 g2 hl
    exact ⟨x1, congrArg (fun z : Nat => (z : Int)) x2, x3⟩
theorem rdg_T {l l1 s : List UInt8} {e e1 : Nat} (he : e ≤ 1000) (h : rdStr 200 l e = (s, l1, e1)) : Rdg text GT l e s l1 e1 := by
  have r := rdg_str 200 l e he (by omega)
  rw [h] at r
  refine ⟨fun h0 => ?_, fun w r' h0 hw hl => ?_, r.len, r.err⟩
  · obtain ⟨x1, x2, x3⟩ := r.back h0
    have x2 : (s.length : Int) ≤ 200 := x2
    exact ⟨x1, GT_iff.2 (by omega), x3⟩
  · exact r.forth w r' h0 (by have := GT_iff.1 hw; show (w.length : Int) ≤ 200; omega) hl
theorem rdg_U {l l1 : List UInt8} {e e1 n : Nat} (he : e ≤ 1000) (h : rdNum l e = (n, l1, e1)) : Rdg encU GU l e n l1 e1 := by
  have r := rdg_num l e he
  rw [h] at r
  exact r
theorem rdg_B {l l1 : List UInt8} {e e1 : Nat} {b : Bool} (he : e ≤ 1000) (h : rdFlag l e = (b, l1, e1)) : Rdg encB (fun _ => True) l e b l1 e1 := by
  have r := rdg_flag l e he
  rw [h] at r
  exact r
def GIs (n : Nat) (xs : List Int) : Prop := xs.length = n ∧ ∀ x ∈ xs, GI x
def GTs (n : Nat) (xs : List (List UInt8)) : Prop := xs.length = n ∧ ∀ x ∈ xs, GT x
theorem rdg_Is {n : Nat} {xs : List Int} {l l1 : List UInt8} {e e1 : Nat} (h : RdgL encI GI n l e n xs l1 e1) : Rdg encIs (GIs n) l e xs l1 e1 := h.done
theorem rdg_Ts {n : Nat} {xs : List (List UInt8)} {l l1 : List UInt8} {e e1 : Nat} (h : RdgL text GT n l e n xs l1 e1) : Rdg encTs (GTs n) l e xs l1 e1 := h.done
theorem Xj {xs : List Int} : (∀ x ∈ xs, GI x) ↔ xs.any badI = false := by simp [List.any_eq_false, GI]
theorem gts_any {xs : List (List UInt8)} : (∀ x ∈ xs, GT x) ↔ xs.any badT = false := by simp [List.any_eq_false, GT]
def GL {α : Type} (g : α → Prop) (l : List α) : Prop := (l.length : Int) ≤ 1000 ∧ ∀ x ∈ l, g x
theorem rdg_L {α : Type} {enc : α → List UInt8} {g : α → Prop} {n : Nat} {vs : List α} {l l0 l1 : List UInt8} {e e0 e1 : Nat} (he : e ≤ 1000) (h0 : rdInt 1000 l e = (n, l0, e0)) (h : RdgL enc g n l0 e0 n vs l1 e1) : Rdg (encL enc) (GL g) l e vs l1 e1 := by
  have r := rdg_int 1000 l e he (by omega)
  rw [h0] at r
  exact rdg_list r h.done
theorem rdg_Lbad {α : Type} {enc : α → List UInt8} {g : α → Prop} {n i : Nat} {vs : List α} {l l0 l1 : List UInt8} {e e0 e1 : Nat} (he : e ≤ 1000) (h0 : rdInt 1000 l e = (n, l0, e0)) (h : RdgL enc g n l0 e0 i vs l1 e1) (h1 : e1 ≠ 0) (us : List α) : Rdg (encL enc) (GL g) l e us l1 e1 := by
  have r := rdg_int 1000 l e he (by omega)
  rw [h0] at r
  exact rdg_list r (h.bad h1)
theorem rd_n {l l1 : List UInt8} {e e1 n : Nat} (he : e ≤ 1000) (h : rdInt 1000 l e = (n, l1, e1)) : n ≤ 1000 ∧ l1.length ≤ l.length ∧ e1 ≤ 1000 := by
  have := rdInt_bd 1000 l e he (by omega)
  rw [h] at this
  obtain ⟨a, b, c⟩ := this
  exact ⟨by omega, b, c⟩
theorem badL_iff {α : Type} {f : α → Bool} {l : List α} : badL f l = false ↔ (l.length : Int) ≤ 1000 ∧ ∀ x ∈ l, f x = false := by
  unfold badL
  rw [Bool.or_eq_false_iff, decide_eq_false_iff_not]
  simp [List.any_eq_false, Int.not_lt]

def GOp (x : Op) : Prop := badOp x = false ∧ OkOp x
theorem gOp_iff {x : Op} : GOp x ↔ ([x.v0, x.v1, x.v2, x.v6, x.v7, x.v8, x.v9, x.v10, x.v11, x.v12, x.v13, x.v14].any badI = false ∧ [x.v3, x.v4, x.v5].any badT = false) ∧ OkOp x := by
  unfold GOp badOp
  simp only [Bool.or_eq_false_iff, and_assoc]
theorem rdgOp {l l1 l2 l3 l4 l5 : List UInt8} {e e1 e2 e3 e4 e5 : Nat} {x : Op} (r0 : Rdg encIs (GIs 12) l e [x.v0, x.v1, x.v2, x.v6, x.v7, x.v8, x.v9, x.v10, x.v11, x.v12, x.v13, x.v14] l1 e1) (r1 : Rdg encTs (GTs 3) l1 e1 [x.v3, x.v4, x.v5] l2 e2) (r2 : Rdg encU (GU) l2 e2 x.v15 l3 e3) (r3 : Rdg encU (GU) l3 e3 x.v16 l4 e4) (r4 : Rdg encU (GU) l4 e4 x.v17 l5 e5) : Rdg encOp GOp l e x l5 e5 := by
  refine Rdg.map ((((r0.pair r1).pair r2).pair r3).pair r4) x (fun x => (((([x.v0, x.v1, x.v2, x.v6, x.v7, x.v8, x.v9, x.v10, x.v11, x.v12, x.v13, x.v14], [x.v3, x.v4, x.v5]), x.v15), x.v16), x.v17)) rfl (fun x y _ _ h => ?_) (fun x h => ?_) (fun h => ?_) (fun x _ => ?_)
  · obtain ⟨x0, x1, x2, x3, x4, x5, x6, x7, x8, x9, x10, x11, x12, x13, x14, x15, x16, x17⟩ := x
    obtain ⟨y0, y1, y2, y3, y4, y5, y6, y7, y8, y9, y10, y11, y12, y13, y14, y15, y16, y17⟩ := y
    simp only [Prod.mk.injEq, List.cons.injEq, and_true] at h
    simp only [Op.mk.injEq]
    grind
  · obtain ⟨⟨b0, b1⟩, ⟨u2, u3, u4⟩⟩ := gOp_iff.1 h
    exact ⟨⟨⟨⟨⟨rfl, Xj.2 b0⟩, ⟨rfl, gts_any.2 b1⟩⟩, u2⟩, u3⟩, u4⟩
  · obtain ⟨⟨⟨⟨a0, a1⟩, a2⟩, a3⟩, a4⟩ := h
    exact gOp_iff.2 ⟨⟨Xj.1 a0.2, gts_any.1 a1.2⟩, ⟨a2, a3, a4⟩⟩
  · simp only [encOp, encU, List.append_assoc]
def GWk (x : Wk) : Prop := badWk x = false ∧ OkWk x
theorem gWk_iff {x : Wk} : GWk x ↔ ([x.v0, x.v1, x.v2].any badI = false ∧ [x.v3, x.v4].any badT = false) ∧ OkWk x := by
  unfold GWk badWk
  simp only [Bool.or_eq_false_iff, and_assoc]
theorem rdgWk {l l1 l2 l3 l4 : List UInt8} {e e1 e2 e3 e4 : Nat} {x : Wk} (r0 : Rdg encIs (GIs 3) l e [x.v0, x.v1, x.v2] l1 e1) (r1 : Rdg encTs (GTs 2) l1 e1 [x.v3, x.v4] l2 e2) (r2 : Rdg encB (fun _ => True) l2 e2 x.v5 l3 e3) (r3 : Rdg encU (GU) l3 e3 x.v6 l4 e4) : Rdg encWk GWk l e x l4 e4 := by
  refine Rdg.map (((r0.pair r1).pair r2).pair r3) x (fun x => ((([x.v0, x.v1, x.v2], [x.v3, x.v4]), x.v5), x.v6)) rfl (fun x y _ _ h => ?_) (fun x h => ?_) (fun h => ?_) (fun x _ => ?_)
  · obtain ⟨x0, x1, x2, x3, x4, x5, x6⟩ := x
    obtain ⟨y0, y1, y2, y3, y4, y5, y6⟩ := y
    simp only [Prod.mk.injEq, List.cons.injEq, and_true] at h
    simp only [Wk.mk.injEq]
    grind
  · obtain ⟨⟨b0, b1⟩, u3⟩ := gWk_iff.1 h
    exact ⟨⟨⟨⟨rfl, Xj.2 b0⟩, ⟨rfl, gts_any.2 b1⟩⟩, trivial⟩, u3⟩
  · obtain ⟨⟨⟨a0, a1⟩, a2⟩, a3⟩ := h
    exact gWk_iff.2 ⟨⟨Xj.1 a0.2, gts_any.1 a1.2⟩, a3⟩
  · simp only [encWk, encU, List.append_assoc]
def GIv (x : Iv) : Prop := badIv x = false ∧ OkIv x
theorem gIv_iff {x : Iv} : GIv x ↔ ([x.v0, x.v1, x.v3, x.v4].any badI = false ∧ [x.v2].any badT = false) ∧ OkIv x := by
  unfold GIv badIv
  simp only [Bool.or_eq_false_iff, and_assoc]
theorem rdgIv {l l1 l2 : List UInt8} {e e1 e2 : Nat} {x : Iv} (r0 : Rdg encIs (GIs 4) l e [x.v0, x.v1, x.v3, x.v4] l1 e1) (r1 : Rdg encTs (GTs 1) l1 e1 [x.v2] l2 e2) : Rdg encIv GIv l e x l2 e2 := by
  refine Rdg.map (r0.pair r1) x (fun x => ([x.v0, x.v1, x.v3, x.v4], [x.v2])) rfl (fun x y _ _ h => ?_) (fun x h => ?_) (fun h => ?_) (fun x _ => ?_)
  · obtain ⟨x0, x1, x2, x3, x4⟩ := x
    obtain ⟨y0, y1, y2, y3, y4⟩ := y
    simp only [Prod.mk.injEq, List.cons.injEq, and_true] at h
    simp only [Iv.mk.injEq]
    grind
  · obtain ⟨⟨b0, b1⟩, _⟩ := gIv_iff.1 h
    exact ⟨⟨rfl, Xj.2 b0⟩, ⟨rfl, gts_any.2 b1⟩⟩
  · obtain ⟨a0, a1⟩ := h
    exact gIv_iff.2 ⟨⟨Xj.1 a0.2, gts_any.1 a1.2⟩, trivial⟩
  · simp only [encIv, encU, List.append_assoc]
def GHr (x : Hr) : Prop := badHr x = false ∧ OkHr x
theorem gHr_iff {x : Hr} : GHr x ↔ ([x.v0].any badT = false ∧ [x.v1, x.v2, x.v3, x.v4, x.v5, x.v6, x.v7, x.v8, x.v9, x.v10, x.v11, x.v12, x.v13, x.v14, x.v15, x.v16].any badI = false) ∧ OkHr x := by
  unfold GHr badHr
  simp only [Bool.or_eq_false_iff, and_assoc]
theorem rdgHr {l l1 l2 : List UInt8} {e e1 e2 : Nat} {x : Hr} (r0 : Rdg encTs (GTs 1) l e [x.v0] l1 e1) (r1 : Rdg encIs (GIs 16) l1 e1 [x.v1, x.v2, x.v3, x.v4, x.v5, x.v6, x.v7, x.v8, x.v9, x.v10, x.v11, x.v12, x.v13, x.v14, x.v15, x.v16] l2 e2) : Rdg encHr GHr l e x l2 e2 := by
  refine Rdg.map (r0.pair r1) x (fun x => ([x.v0], [x.v1, x.v2, x.v3, x.v4, x.v5, x.v6, x.v7, x.v8, x.v9, x.v10, x.v11, x.v12, x.v13, x.v14, x.v15, x.v16])) rfl (fun x y _ _ h => ?_) (fun x h => ?_) (fun h => ?_) (fun x _ => ?_)
  · obtain ⟨x0, x1, x2, x3, x4, x5, x6, x7, x8, x9, x10, x11, x12, x13, x14, x15, x16⟩ := x
    obtain ⟨y0, y1, y2, y3, y4, y5, y6, y7, y8, y9, y10, y11, y12, y13, y14, y15, y16⟩ := y
    simp only [Prod.mk.injEq, List.cons.injEq, and_true] at h
    simp only [Hr.mk.injEq]
    grind
  · obtain ⟨⟨b0, b1⟩, _⟩ := gHr_iff.1 h
    exact ⟨⟨rfl, gts_any.2 b0⟩, ⟨rfl, Xj.2 b1⟩⟩
  · obtain ⟨a0, a1⟩ := h
    exact gHr_iff.2 ⟨⟨gts_any.1 a0.2, Xj.1 a1.2⟩, trivial⟩
  · simp only [encHr, encU, List.append_assoc]
def GLt (x : Lt) : Prop := badLt x = false ∧ OkLt x
theorem gLt_iff {x : Lt} : GLt x ↔ ([x.v0, x.v1, x.v2, x.v3].any badI = false ∧ [x.v4].any badT = false) ∧ OkLt x := by
  unfold GLt badLt
  simp only [Bool.or_eq_false_iff, and_assoc]
theorem rdgLt {l l1 l2 l3 : List UInt8} {e e1 e2 e3 : Nat} {x : Lt} (r0 : Rdg encIs (GIs 4) l e [x.v0, x.v1, x.v2, x.v3] l1 e1) (r1 : Rdg encTs (GTs 1) l1 e1 [x.v4] l2 e2) (r2 : Rdg encU (GU) l2 e2 x.v5 l3 e3) : Rdg encLt GLt l e x l3 e3 := by
  refine Rdg.map ((r0.pair r1).pair r2) x (fun x => (([x.v0, x.v1, x.v2, x.v3], [x.v4]), x.v5)) rfl (fun x y _ _ h => ?_) (fun x h => ?_) (fun h => ?_) (fun x _ => ?_)
  · obtain ⟨x0, x1, x2, x3, x4, x5⟩ := x
    obtain ⟨y0, y1, y2, y3, y4, y5⟩ := y
    simp only [Prod.mk.injEq, List.cons.injEq, and_true] at h
    simp only [Lt.mk.injEq]
    grind
  · obtain ⟨⟨b0, b1⟩, u2⟩ := gLt_iff.1 h
    exact ⟨⟨⟨rfl, Xj.2 b0⟩, ⟨rfl, gts_any.2 b1⟩⟩, u2⟩
  · obtain ⟨⟨a0, a1⟩, a2⟩ := h
    exact gLt_iff.2 ⟨⟨Xj.1 a0.2, gts_any.1 a1.2⟩, a2⟩
  · simp only [encLt, encU, List.append_assoc]
def GWt (x : Wt) : Prop := badWt x = false ∧ OkWt x
theorem gWt_iff {x : Wt} : GWt x ↔ ([x.v0].any badT = false ∧ [x.v1].any badI = false) ∧ OkWt x := by
  unfold GWt badWt
  simp only [Bool.or_eq_false_iff, and_assoc]
theorem rdgWt {l l1 l2 : List UInt8} {e e1 e2 : Nat} {x : Wt} (r0 : Rdg encTs (GTs 1) l e [x.v0] l1 e1) (r1 : Rdg encIs (GIs 1) l1 e1 [x.v1] l2 e2) : Rdg encWt GWt l e x l2 e2 := by
  refine Rdg.map (r0.pair r1) x (fun x => ([x.v0], [x.v1])) rfl (fun x y _ _ h => ?_) (fun x h => ?_) (fun h => ?_) (fun x _ => ?_)
  · obtain ⟨x0, x1⟩ := x
    obtain ⟨y0, y1⟩ := y
    simp only [Prod.mk.injEq, List.cons.injEq, and_true] at h
    simp only [Wt.mk.injEq]
    grind
  · obtain ⟨⟨b0, b1⟩, _⟩ := gWt_iff.1 h
    exact ⟨⟨rfl, gts_any.2 b0⟩, ⟨rfl, Xj.2 b1⟩⟩
  · obtain ⟨a0, a1⟩ := h
    exact gWt_iff.2 ⟨⟨gts_any.1 a0.2, Xj.1 a1.2⟩, trivial⟩
  · simp only [encWt, encU, List.append_assoc]
def GIt (x : It) : Prop := badIt x = false ∧ OkIt x
theorem gIt_iff {x : It} : GIt x ↔ ([x.v0, x.v1].any badI = false) ∧ OkIt x := by
  unfold GIt badIt
  exact Iff.rfl
theorem rdgIt {l l1 : List UInt8} {e e1 : Nat} {x : It} (r0 : Rdg encIs (GIs 2) l e [x.v0, x.v1] l1 e1) : Rdg encIt GIt l e x l1 e1 := by
  refine Rdg.map r0 x (fun x => [x.v0, x.v1]) rfl (fun x y _ _ h => ?_) (fun x h => ?_) (fun h => ?_) (fun x _ => ?_)
  · obtain ⟨x0, x1⟩ := x
    obtain ⟨y0, y1⟩ := y
    simp only [Prod.mk.injEq, List.cons.injEq, and_true] at h
    simp only [It.mk.injEq]
    grind
  · obtain ⟨b0, _⟩ := gIt_iff.1 h
    exact ⟨rfl, Xj.2 b0⟩
  · have a0 := h
    exact gIt_iff.2 ⟨Xj.1 a0.2, trivial⟩
  · simp only [encIt, encU, List.append_assoc]


/-- What a dump tells, plainly. -/
structure PF where
  v0 : Int
  v1 : Int
  v2 : Int
  l : List It
structure PT where
  v0 : Int
  v1 : Int
  v2 : Int
  g : Bool
  l : List PF
structure PC where
  v0 : Int
  g : Bool
  l : List PT
structure PP where
  n : List UInt8
  u : Int
  ev : Bool
  l : List PC
structure PS where
  v0 : Nat
  g : Bool
  v2 : Int
  v3 : Int
  v4 : Int
  v5 : Int
  v6 : Int
  li : List Op
  en : List Op
  wo : List Wk
  iv : List Iv
  po : List PP
  hi : List Hr
  le : List Lt
  wa : List Wt
def encPF (x : PF) : List UInt8 := encIs [x.v0, x.v1, x.v2] ++ encL encIt x.l
def badPF (x : PF) : Bool := [x.v0, x.v1, x.v2].any badI || badL badIt x.l
def encPT (x : PT) : List UInt8 := encIs [x.v0, x.v1, x.v2] ++ (encB x.g ++ encL encPF x.l)
def badPT (x : PT) : Bool := [x.v0, x.v1, x.v2].any badI || badL badPF x.l
def encPC (x : PC) : List UInt8 := encIs [x.v0] ++ (encB x.g ++ encL encPT x.l)
def badPC (x : PC) : Bool := [x.v0].any badI || badL badPT x.l
def encPP (x : PP) : List UInt8 := encTs [x.n] ++ (encIs [x.u] ++ (if x.ev then encL encPC x.l else []))
def badPP (x : PP) : Bool := [x.n].any badT || ([x.u].any badI || (if x.ev then badL badPC x.l else true))
def encPS (x : PS) : List UInt8 := encU x.v0 ++ (encB x.g ++ (encIs [x.v2, x.v3, x.v4, x.v5, x.v6] ++ (encL encOp x.li ++ (encL encOp x.en ++ (encL encWk x.wo ++ (encL encIv x.iv ++ (encL encPP x.po ++ (encL encHr x.hi ++ (encL encLt x.le ++ encL encWt x.wa)))))))))
def badPS (x : PS) : Bool := [x.v2, x.v3, x.v4, x.v5, x.v6].any badI || (badL badOp x.li || (badL badOp x.en || (badL badWk x.wo || (badL badIv x.iv || (badL badPP x.po || (badL badHr x.hi || (badL badLt x.le || badL badWt x.wa)))))))
def OkPS (x : PS) : Prop := x.v0 < 18446744073709551616 ∧ (∀ y ∈ x.li, OkOp y) ∧ (∀ y ∈ x.en, OkOp y) ∧ (∀ y ∈ x.wo, OkWk y) ∧ (∀ y ∈ x.le, OkLt y)
def GPF (x : PF) : Prop := badPF x = false
def GPT (x : PT) : Prop := badPT x = false
def GPC (x : PC) : Prop := badPC x = false
def GPP (x : PP) : Prop := badPP x = false ∧ x.ev = true
def GPS (x : PS) : Prop := badPS x = false ∧ OkPS x
theorem gl_it {l : List It} : GL GIt l ↔ badL badIt l = false := by rw [badL_iff]; exact ⟨fun h => ⟨h.1, fun x hx => (h.2 x hx).1⟩, fun h => ⟨h.1, fun x hx => ⟨h.2 x hx, trivial⟩⟩⟩
theorem gl_bad {α : Type} {f : α → Bool} {l : List α} : GL (fun x => f x = false) l ↔ badL f l = false := badL_iff.symm
theorem gl_iff {α : Type} {f : α → Bool} {ok : α → Prop} {l : List α} : GL (fun x => f x = false ∧ ok x) l ↔ badL f l = false ∧ ∀ x ∈ l, ok x := by
  rw [badL_iff]; exact ⟨fun h => ⟨⟨h.1, fun x hx => (h.2 x hx).1⟩, fun x hx => (h.2 x hx).2⟩, fun h => ⟨h.1.1, fun x hx => ⟨h.1.2 x hx, h.2 x hx⟩⟩⟩
theorem gl_pp {l : List PP} : GL GPP l ↔ badL badPP l = false := by
  refine gl_iff.trans ⟨fun h => h.1, fun h => ⟨h, fun x hx => ?_⟩⟩
  have := (badL_iff.1 h).2 x hx
  unfold badPP at this
  cases hev : x.ev with
  | true => rfl
  | false => rw [hev] at this; simp at this
theorem gPF_iff {x : PF} : GPF x ↔ [x.v0, x.v1, x.v2].any badI = false ∧ GL GIt x.l := by rw [gl_it]; unfold GPF badPF; rw [Bool.or_eq_false_iff]
theorem gPT_iff {x : PT} : GPT x ↔ [x.v0, x.v1, x.v2].any badI = false ∧ GL GPF x.l := by rw [show GL GPF x.l ↔ _ from gl_bad]; unfold GPT badPT; rw [Bool.or_eq_false_iff]
theorem gPC_iff {x : PC} : GPC x ↔ [x.v0].any badI = false ∧ GL GPT x.l := by rw [show GL GPT x.l ↔ _ from gl_bad]; unfold GPC badPC; rw [Bool.or_eq_false_iff]
theorem gPP_iff {x : PP} : GPP x ↔ [x.n].any badT = false ∧ [x.u].any badI = false ∧ GL GPC x.l ∧ x.ev = true := by
  rw [show GL GPC x.l ↔ _ from gl_bad]; unfold GPP badPP
  cases hev : x.ev <;> simp [Bool.or_eq_false_iff, and_assoc]
theorem rdgPF {l l1 l2 : List UInt8} {e e1 e2 : Nat} {x : PF} (r0 : Rdg encIs (GIs 3) l e [x.v0, x.v1, x.v2] l1 e1) (r1 : Rdg (encL encIt) (GL GIt) l1 e1 x.l l2 e2) : Rdg encPF GPF l e x l2 e2 := by
  refine Rdg.map (r0.pair r1) x (fun x => ([x.v0, x.v1, x.v2], x.l)) rfl (fun x y _ _ h => ?_) (fun x h => ?_) (fun h => ?_) (fun x _ => rfl)
  · obtain ⟨x0, x1, x2, x3⟩ := x
    obtain ⟨y0, y1, y2, y3⟩ := y
    simp only [Prod.mk.injEq, List.cons.injEq, and_true] at h
    simp only [PF.mk.injEq]; grind
  · obtain ⟨b0, b1⟩ := gPF_iff.1 h
    exact ⟨⟨rfl, Xj.2 b0⟩, b1⟩
  · exact gPF_iff.2 ⟨Xj.1 h.1.2, h.2⟩
theorem rdgPT {l l1 l2 l3 : List UInt8} {e e1 e2 e3 : Nat} {x : PT} (r0 : Rdg encIs (GIs 3) l e [x.v0, x.v1, x.v2] l1 e1) (r1 : Rdg encB (fun _ => True) l1 e1 x.g l2 e2) (r2 : Rdg (encL encPF) (GL GPF) l2 e2 x.l l3 e3) : Rdg encPT GPT l e x l3 e3 := by
  refine Rdg.map ((r0.pair r1).pair r2) x (fun x => (([x.v0, x.v1, x.v2], x.g), x.l)) rfl (fun x y _ _ h => ?_) (fun x h => ?_) (fun h => ?_) (fun x _ => by simp only [encPT, List.append_assoc])
  · obtain ⟨x0, x1, x2, x3, x4⟩ := x
    obtain ⟨y0, y1, y2, y3, y4⟩ := y
    simp only [Prod.mk.injEq, List.cons.injEq, and_true] at h
    simp only [PT.mk.injEq]; grind
  · obtain ⟨b0, b1⟩ := gPT_iff.1 h
    exact ⟨⟨⟨rfl, Xj.2 b0⟩, trivial⟩, b1⟩
  · exact gPT_iff.2 ⟨Xj.1 h.1.1.2, h.2⟩
theorem rdgPC {l l1 l2 l3 : List UInt8} {e e1 e2 e3 : Nat} {x : PC} (r0 : Rdg encIs (GIs 1) l e [x.v0] l1 e1) (r1 : Rdg encB (fun _ => True) l1 e1 x.g l2 e2) (r2 : Rdg (encL encPT) (GL GPT) l2 e2 x.l l3 e3) : Rdg encPC GPC l e x l3 e3 := by
  refine Rdg.map ((r0.pair r1).pair r2) x (fun x => (([x.v0], x.g), x.l)) rfl (fun x y _ _ h => ?_) (fun x h => ?_) (fun h => ?_) (fun x _ => by simp only [encPC, List.append_assoc])
  · obtain ⟨x0, x3, x4⟩ := x
    obtain ⟨y0, y3, y4⟩ := y
    simp only [Prod.mk.injEq, List.cons.injEq, and_true] at h
    simp only [PC.mk.injEq]; grind
  · obtain ⟨b0, b1⟩ := gPC_iff.1 h
    exact ⟨⟨⟨rfl, Xj.2 b0⟩, trivial⟩, b1⟩
  · exact gPC_iff.2 ⟨Xj.1 h.1.1.2, h.2⟩
theorem rdgPP {l l1 l2 l3 : List UInt8} {e e1 e2 e3 : Nat} {x : PP} (hx : x.ev = true) (r0 : Rdg encTs (GTs 1) l e [x.n] l1 e1) (r1 : Rdg encIs (GIs 1) l1 e1 [x.u] l2 e2) (r2 : Rdg (encL encPC) (GL GPC) l2 e2 x.l l3 e3) : Rdg encPP GPP l e x l3 e3 := by
  refine Rdg.map ((r0.pair r1).pair r2) x (fun x => (([x.n], [x.u]), x.l)) rfl (fun x y hx hy h => ?_) (fun x h => ?_) (fun h => ?_) (fun x h => by simp only [encPP, if_pos h.2, List.append_assoc])
  · obtain ⟨x0, x3, x4, x5⟩ := x
    obtain ⟨y0, y3, y4, y5⟩ := y
    have h1 := hx.2
    have h2 := hy.2
    simp only [Prod.mk.injEq, List.cons.injEq, and_true] at h h1 h2
    simp only [PP.mk.injEq]; grind
  · obtain ⟨b0, b1, b2, b3⟩ := gPP_iff.1 h
    exact ⟨⟨⟨rfl, gts_any.2 b0⟩, ⟨rfl, Xj.2 b1⟩⟩, b2⟩
  · exact gPP_iff.2 ⟨gts_any.1 h.1.1.2, Xj.1 h.1.2.2, h.2, hx⟩
theorem gl_op {l : List Op} : GL GOp l ↔ badL badOp l = false ∧ ∀ x ∈ l, OkOp x := gl_iff
theorem gl_wk {l : List Wk} : GL GWk l ↔ badL badWk l = false ∧ ∀ x ∈ l, OkWk x := gl_iff
theorem gl_lt {l : List Lt} : GL GLt l ↔ badL badLt l = false ∧ ∀ x ∈ l, OkLt x := gl_iff
theorem gl_iv {l : List Iv} : GL GIv l ↔ badL badIv l = false := gl_iff.trans ⟨fun h => h.1, fun h => ⟨h, fun _ _ => trivial⟩⟩
theorem gl_hr {l : List Hr} : GL GHr l ↔ badL badHr l = false := gl_iff.trans ⟨fun h => h.1, fun h => ⟨h, fun _ _ => trivial⟩⟩
theorem gl_wt {l : List Wt} : GL GWt l ↔ badL badWt l = false := gl_iff.trans ⟨fun h => h.1, fun h => ⟨h, fun _ _ => trivial⟩⟩
theorem gPS_iff {x : PS} : GPS x ↔ GU x.v0 ∧ [x.v2, x.v3, x.v4, x.v5, x.v6].any badI = false ∧ GL GOp x.li ∧ GL GOp x.en ∧ GL GWk x.wo ∧ GL GIv x.iv ∧ GL GPP x.po ∧ GL GHr x.hi ∧ GL GLt x.le ∧ GL GWt x.wa := by
  rw [gl_op, gl_op, gl_wk, gl_iv, gl_pp, gl_hr, gl_lt, gl_wt]
  unfold GPS badPS OkPS GU
  simp only [Bool.or_eq_false_iff]
  constructor
  · rintro ⟨⟨a0, a1, a2, a3, a4, a5, a6, a7, a8⟩, b0, b1, b2, b3, b4⟩
    exact ⟨b0, a0, ⟨a1, b1⟩, ⟨a2, b2⟩, ⟨a3, b3⟩, a4, a5, a6, ⟨a7, b4⟩, a8⟩
  · rintro ⟨b0, a0, ⟨a1, b1⟩, ⟨a2, b2⟩, ⟨a3, b3⟩, a4, a5, a6, ⟨a7, b4⟩, a8⟩
    exact ⟨⟨a0, a1, a2, a3, a4, a5, a6, a7, a8⟩, b0, b1, b2, b3, b4⟩
theorem rdgPS {l l1 l2 l3 l4 l5 l6 l7 l8 l9 la lb : List UInt8} {e e1 e2 e3 e4 e5 e6 e7 e8 e9 ea eb : Nat} {x : PS} (r0 : Rdg encU GU l e x.v0 l1 e1) (r1 : Rdg encB (fun _ => True) l1 e1 x.g l2 e2) (r2 : Rdg encIs (GIs 5) l2 e2 [x.v2, x.v3, x.v4, x.v5, x.v6] l3 e3)
    (r3 : Rdg (encL encOp) (GL GOp) l3 e3 x.li l4 e4) (r4 : Rdg (encL encOp) (GL GOp) l4 e4 x.en l5 e5) (r5 : Rdg (encL encWk) (GL GWk) l5 e5 x.wo l6 e6) (r6 : Rdg (encL encIv) (GL GIv) l6 e6 x.iv l7 e7) (r7 : Rdg (encL encPP) (GL GPP) l7 e7 x.po l8 e8) (r8 : Rdg (encL encHr) (GL GHr) l8 e8 x.hi l9 e9) (r9 : Rdg (encL encLt) (GL GLt) l9 e9 x.le la ea) (r10 : Rdg (encL encWt) (GL GWt) la ea x.wa lb eb) : Rdg encPS GPS l e x lb eb := by
  refine Rdg.map ((((((((((r0.pair r1).pair r2).pair r3).pair r4).pair r5).pair r6).pair r7).pair r8).pair r9).pair r10) x (fun x => ((((((((((x.v0, x.g), [x.v2, x.v3, x.v4, x.v5, x.v6]), x.li), x.en), x.wo), x.iv), x.po), x.hi), x.le), x.wa)) rfl (fun x y hx hy h => ?_) (fun x h => ?_) (fun h => ?_) (fun x h => by simp only [encPS, List.append_assoc])
  · obtain ⟨x0, x1, x2, x3, x4, x5, x6, x7, x8, x9, x10, x11, x12, x13, x14⟩ := x
    obtain ⟨y0, y1, y2, y3, y4, y5, y6, y7, y8, y9, y10, y11, y12, y13, y14⟩ := y
    simp only [Prod.mk.injEq, List.cons.injEq, and_true] at h
    simp only [PS.mk.injEq]; grind
  · obtain ⟨a0, a1, a2, a3, a4, a5, a6, a7, a8, a9⟩ := gPS_iff.1 h
    exact ⟨⟨⟨⟨⟨⟨⟨⟨⟨⟨a0, trivial⟩, ⟨rfl, Xj.2 a1⟩⟩, a2⟩, a3⟩, a4⟩, a5⟩, a6⟩, a7⟩, a8⟩, a9⟩
  · obtain ⟨⟨⟨⟨⟨⟨⟨⟨⟨⟨a0, _⟩, a1⟩, a2⟩, a3⟩, a4⟩, a5⟩, a6⟩, a7⟩, a8⟩, a9⟩ := h
    exact gPS_iff.2 ⟨a0, Xj.1 a1.2, a2, a3, a4, a5, a6, a7, a8, a9⟩

end
end Go.Proofs.Ytjnaeoelnmhjfaa

set_option linter.unusedSimpArgs false
set_option linter.unusedVariables false
namespace Go.Proofs.Ytjnaeoelnmhjfaa
open Go Go.RowKit

section



def vFl (x : Fl) : PF := ⟨x.v0, x.v1, x.v2, x.s.l⟩
def vTn (x : Tn) : PT := ⟨x.v0, x.v1, x.v2, x.g, x.s.l.map vFl⟩
def vCl (x : Cl) : PC := ⟨x.v0, x.g, x.s.l.map vTn⟩
def vPo (x : Po) : PP := ⟨x.n, x.u, decide (EvenPo x), if EvenPo x then (clsOf x).map vCl else []⟩
def vSt (x : St) : PS := ⟨x.v0, x.g, x.v2, x.v3, x.v4, x.v5, x.v6, x.li.l, x.en.l, x.wo.l, x.iv.l, x.po.l.map vPo, x.hi.l, x.le.l, x.wa.l⟩
theorem encL_map {α β : Type} {v : α → β} {f : α → List UInt8} {g : β → List UInt8} (h : ∀ x, f x = g (v x)) (l : List α) : encL f l = encL g (l.map v) := by
  have : f = g ∘ v := funext h
  unfold encL; rw [List.length_map, List.flatMap_map, this]; rfl
theorem badL_map {α β : Type} {v : α → β} {f : α → Bool} {g : β → Bool} (h : ∀ x, f x = g (v x)) (l : List α) : badL f l = badL g (l.map v) := by
  have : f = g ∘ v := funext h
  unfold badL; rw [List.length_map, List.any_map, this]
theorem encFl_v (x : Fl) : encFl x = encPF (vFl x) := rfl
theorem badFl_v (x : Fl) : badFl x = badPF (vFl x) := rfl
theorem encTn_v (x : Tn) : encTn x = encPT (vTn x) := by unfold encTn encPT vTn; rw [encL_map encFl_v]
theorem badTn_v (x : Tn) : badTn x = badPT (vTn x) := by unfold badTn badPT vTn; rw [badL_map badFl_v]
theorem encCl_v (x : Cl) : encCl x = encPC (vCl x) := by unfold encCl encPC vCl; rw [encL_map encTn_v]
theorem badCl_v (x : Cl) : badCl x = badPC (vCl x) := by unfold badCl badPC vCl; rw [badL_map badTn_v]
theorem encPo_v (x : Po) : encPo x = encPP (vPo x) := by
  unfold encPo encPP vPo
  by_cases h : EvenPo x
  · simp only [if_pos h, decide_eq_true h, if_true]; rw [encL_map encCl_v]
  · simp only [if_neg h, decide_eq_false h]; rfl
theorem badPo_v (x : Po) : badPo x = badPP (vPo x) := by
  unfold badPo badPP vPo
  by_cases h : EvenPo x
  · simp only [if_pos h, decide_eq_true h, if_true]; rw [badL_map badCl_v]
  · simp only [if_neg h, decide_eq_false h]; rfl
theorem encSt_v (x : St) : encSt x = encPS (vSt x) := by unfold encSt encPS vSt encU; rw [encL_map encPo_v]
theorem badSt_v (x : St) : badSt x = badPS (vSt x) := by unfold badSt badPS vSt; rw [badL_map badPo_v]
def dumpP (x : PS) : Value := if badPS x then .tuple #[.string (bs []), .int .i64 1] else .tuple #[.string (bs (encPS x)), .int .i64 0]
theorem dumpE_v (x : St) : dumpE x = dumpP (vSt x) := by unfold dumpE dumpP; rw [badSt_v, encSt_v]
theorem dumpP_bad {x : PS} (h : badPS x = true) : dumpP x = .tuple #[.string (bs []), .int .i64 1] := by unfold dumpP; rw [if_pos h]
theorem dumpP_ok {x : PS} (h : badPS x = false) : dumpP x = .tuple #[.string (bs (encPS x)), .int .i64 0] := by unfold dumpP; rw [h]; rfl
/-- A slice that is nil. -/
def zIns (α : Type) : Ins α := ⟨none, none, 0, 0, #[], 0, (0, 0), []⟩
theorem zIns_ok {α : Type} (sz : Nat) (f : α → List Value) : InsOk sz f (zIns α) := ⟨Nat.le_refl _, by simp [zIns], by simp [zIns], .inr ⟨rfl, rfl⟩⟩
/-- A slice that the call has, as one of memory. -/
def insOf {α : Type} (u : Sl) (T : TypeId) (ms : List α) : Ins α := ⟨u.ob.map fun b => ⟨b, 0, none⟩, u.ob, 0, u.cap, u.cs, T, u.fz, ms⟩
theorem insOf_k {α : Type} (u : Sl) (T : TypeId) (ms : List α) : insK (insOf u T ms) = (u.ob, .cells u.cs T u.fz) := rfl
theorem Xp {α : Type} (u : Sl) (T : TypeId) (ms : List α) : insV (insOf u T ms) = u.v ms.length := rfl
theorem Xd {α : Type} {sz : Nat} {f : α → List Value} {u : Sl} {T : TypeId} {ms : List α} (h : Own sz u (ms.flatMap f) ms.length) (hn : ms.length ≤ 1048576) : InsOk sz f (insOf u T ms) := ⟨h.le, h.max, hn, .inl ⟨rfl, h.sees⟩⟩
/-- Cells, of which some are written. -/
def putAll {α : Type} (f : α → Value) : Array Value → List Nat → List α → Array Value
  | cs, k :: ks, v :: vs => putAll f (cs.setIfInBounds k (f v)) ks vs
  | cs, _, _ => cs
theorem putAll_snoc {α : Type} (f : α → Value) : ∀ (cs : Array Value) (ks : List Nat) (vs : List α) (k : Nat) (v : α), ks.length = vs.length → putAll f cs (ks ++ [k]) (vs ++ [v]) = (putAll f cs ks vs).setIfInBounds k (f v)
  | cs, [], [], k, v, _ => rfl
  | cs, a :: ks, b :: vs, k, v, h => by
    show putAll f (cs.setIfInBounds a (f b)) (ks ++ [k]) (vs ++ [v]) = _
    rw [putAll_snoc f _ ks vs k v (by simpa using h)]
    rfl
theorem putAll_size {α : Type} (f : α → Value) : ∀ (cs : Array Value) (ks : List Nat) (vs : List α), (putAll f cs ks vs).size = cs.size
  | cs, [], vs => by simp [putAll]
  | cs, a :: ks, [] => by simp [putAll]
  | cs, a :: ks, b :: vs => by
    show (putAll f (cs.setIfInBounds a (f b)) ks vs).size = _
    rw [putAll_size f _ ks vs]; simp
theorem putAll_cons {α : Type} (f : α → Value) (l : List Value) (k : Nat) (ks : List Nat) (v : α) (vs : List α) : putAll f l.toArray (k :: ks) (v :: vs) = putAll f (l.set k (f v)).toArray ks vs := by
  show putAll f (l.toArray.setIfInBounds k (f v)) ks vs = _
  rw [List.setIfInBounds_toArray]
theorem putAll_nil {α : Type} (f : α → Value) (cs : Array Value) : putAll f cs [] [] = cs := rfl
theorem perm_all {α : Type} (M : List α) : M.Perm (M ++ []) := by simp
theorem set_at {cs : Array Value} {k : Nat} (v : Value) (h : k < cs.size) : (cs.setIfInBounds k v)[k]? = some v := by simp [h]
theorem set_set {cs : Array Value} {k : Nat} (v w : Value) : (cs.setIfInBounds k v).setIfInBounds k w = cs.setIfInBounds k w := by simp
theorem len_1 {α : Type} {xs : List α} (h : xs.length = 1) : ∃ a0, xs = [a0] := by
  match xs, h with
  | [a0], _ => exact ⟨_, rfl⟩
theorem len_2 {α : Type} {xs : List α} (h : xs.length = 2) : ∃ a0 a1, xs = [a0, a1] := by
  match xs, h with
  | [a0, a1], _ => exact ⟨_, _, rfl⟩
theorem len_3 {α : Type} {xs : List α} (h : xs.length = 3) : ∃ a0 a1 a2, xs = [a0, a1, a2] := by
  match xs, h with
  | [a0, a1, a2], _ => exact ⟨_, _, _, rfl⟩
theorem len_4 {α : Type} {xs : List α} (h : xs.length = 4) : ∃ a0 a1 a2 a3, xs = [a0, a1, a2, a3] := by
  match xs, h with
  | [a0, a1, a2, a3], _ => exact ⟨_, _, _, _, rfl⟩
theorem len_5 {α : Type} {xs : List α} (h : xs.length = 5) : ∃ a0 a1 a2 a3 a4, xs = [a0, a1, a2, a3, a4] := by
  match xs, h with
  | [a0, a1, a2, a3, a4], _ => exact ⟨_, _, _, _, _, rfl⟩
theorem len_12 {α : Type} {xs : List α} (h : xs.length = 12) : ∃ a0 a1 a2 a3 a4 a5 a6 a7 a8 a9 a10 a11, xs = [a0, a1, a2, a3, a4, a5, a6, a7, a8, a9, a10, a11] := by
  match xs, h with
  | [a0, a1, a2, a3, a4, a5, a6, a7, a8, a9, a10, a11], _ => exact ⟨_, _, _, _, _, _, _, _, _, _, _, _, rfl⟩

end
end Go.Proofs.Ytjnaeoelnmhjfaa
