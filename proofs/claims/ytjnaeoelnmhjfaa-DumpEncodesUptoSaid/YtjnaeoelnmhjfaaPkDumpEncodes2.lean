/- What the law DumpEncodes needs, part 2.  -/
import Derived.Test.YtjnaeoelnmhjfaaPkDumpEncodes1


set_option linter.unusedSimpArgs false
set_option linter.unusedVariables false
namespace Go.Proofs.Ytjnaeoelnmhjfaa
open Go Go.RowKit

section
theorem i_3 : Try.prog.info? 3 = some Try.t3 := by kernel_rfl
theorem i_9 : Try.prog.info? 9 = some Try.t9 := by kernel_rfl
theorem i_23 : Try.prog.info? 23 = some Try.t23 := by kernel_rfl
theorem i_135 : Try.prog.info? 135 = some Try.t135 := by kernel_rfl
theorem i_139 : Try.prog.info? 139 = some Try.t139 := by kernel_rfl
def AllAt {α : Type} (f : α → Value) (cs : Array Value) : List (Nat × α) → Prop
  | [] => True
  | y :: r => cs[y.1]? = some (f y.2) ∧ AllAt f cs r
theorem allAt {α : Type} {f : α → Value} {cs : Array Value} : ∀ {l : List (Nat × α)}, AllAt f cs l → ∀ y ∈ l, cs[y.1]? = some (f y.2)
  | [], _ => by simp
  | z :: r, h => by
    intro y hy
    rcases List.mem_cons.1 hy with rfl | hy
    · exact h.1
    · exact allAt h.2 y hy
structure Op where
  v0 : Int
  v1 : Int
  v2 : Int
  v3 : List UInt8
  v4 : List UInt8
  v5 : List UInt8
  v6 : Int
  v7 : Int
  v8 : Int
  v9 : Int
  v10 : Int
  v11 : Int
  v12 : Int
  v13 : Int
  v14 : Int
  v15 : Nat
  v16 : Nat
  v17 : Nat
def cOp (x : Op) : List Value := [.int .i64 x.v0, .int .i64 x.v1, .int .i64 x.v2, .string (bs x.v3), .string (bs x.v4), .string (bs x.v5), .int .i64 x.v6, .int .i64 x.v7, .int .i64 x.v8, .int .i64 x.v9, .int .i64 x.v10, .int .i64 x.v11, .int .i64 x.v12, .int .i64 x.v13, .int .i64 x.v14, .int .u64 (x.v15 : Int), .int .u64 (x.v16 : Int), .int .u64 (x.v17 : Int)]
theorem cOp_len (x : Op) : (cOp x).length = 18 := rfl
def encOp (x : Op) : List UInt8 := encIs [x.v0, x.v1, x.v2, x.v6, x.v7, x.v8, x.v9, x.v10, x.v11, x.v12, x.v13, x.v14] ++ (encTs [x.v3, x.v4, x.v5] ++ (chainI (x.v15 : Int) ++ (chainI (x.v16 : Int) ++ (chainI (x.v17 : Int)))))
def badOp (x : Op) : Bool := [x.v0, x.v1, x.v2, x.v6, x.v7, x.v8, x.v9, x.v10, x.v11, x.v12, x.v13, x.v14].any badI || [x.v3, x.v4, x.v5].any badT
def OkOp (x : Op) : Prop := x.v15 < 18446744073709551616 ∧ x.v16 < 18446744073709551616 ∧ x.v17 < 18446744073709551616
instance : Inhabited Op := ⟨⟨0, 0, 0, [], [], [], 0, 0, 0, 0, 0, 0, 0, 0, 0, 0, 0, 0⟩⟩
structure Wk where
  v0 : Int
  v1 : Int
  v2 : Int
  v3 : List UInt8
  v4 : List UInt8
  v5 : Bool
  v6 : Nat
def cWk (x : Wk) : List Value := [.int .i64 x.v0, .int .i64 x.v1, .int .i64 x.v2, .string (bs x.v3), .string (bs x.v4), .bool x.v5, .int .u64 (x.v6 : Int)]
theorem cWk_len (x : Wk) : (cWk x).length = 7 := rfl
def encWk (x : Wk) : List UInt8 := encIs [x.v0, x.v1, x.v2] ++ (encTs [x.v3, x.v4] ++ (encB x.v5 ++ (chainI (x.v6 : Int))))
def badWk (x : Wk) : Bool := [x.v0, x.v1, x.v2].any badI || [x.v3, x.v4].any badT
def OkWk (x : Wk) : Prop := x.v6 < 18446744073709551616
instance : Inhabited Wk := ⟨⟨0, 0, 0, [], [], false, 0⟩⟩
structure Iv where
  v0 : Int
  v1 : Int
  v2 : List UInt8
  v3 : Int
  v4 : Int
def cIv (x : Iv) : List Value := [.int .i64 x.v0, .int .i64 x.v1, .string (bs x.v2), .int .i64 x.v3, .int .i64 x.v4]
theorem cIv_len (x : Iv) : (cIv x).length = 5 := rfl
def encIv (x : Iv) : List UInt8 := encIs [x.v0, x.v1, x.v3, x.v4] ++ (encTs [x.v2])
def badIv (x : Iv) : Bool := [x.v0, x.v1, x.v3, x.v4].any badI || [x.v2].any badT
def OkIv (x : Iv) : Prop := True
instance : Inhabited Iv := ⟨⟨0, 0, [], 0, 0⟩⟩
structure Hr where
  v0 : List UInt8
  v1 : Int
  v2 : Int
  v3 : Int
  v4 : Int
  v5 : Int
  v6 : Int
  v7 : Int
  v8 : Int
  v9 : Int
  v10 : Int
  v11 : Int
  v12 : Int
  v13 : Int
  v14 : Int
  v15 : Int
  v16 : Int
def cHr (x : Hr) : List Value := [.string (bs x.v0), .int .i64 x.v1, .int .i64 x.v2, .int .i64 x.v3, .int .i64 x.v4, .int .i64 x.v5, .int .i64 x.v6, .int .i64 x.v7, .int .i64 x.v8, .int .i64 x.v9, .int .i64 x.v10, .int .i64 x.v11, .int .i64 x.v12, .int .i64 x.v13, .int .i64 x.v14, .int .i64 x.v15, .int .i64 x.v16]
theorem cHr_len (x : Hr) : (cHr x).length = 17 := rfl
def encHr (x : Hr) : List UInt8 := encTs [x.v0] ++ (encIs [x.v1, x.v2, x.v3, x.v4, x.v5, x.v6, x.v7, x.v8, x.v9, x.v10, x.v11, x.v12, x.v13, x.v14, x.v15, x.v16])
def badHr (x : Hr) : Bool := [x.v0].any badT || [x.v1, x.v2, x.v3, x.v4, x.v5, x.v6, x.v7, x.v8, x.v9, x.v10, x.v11, x.v12, x.v13, x.v14, x.v15, x.v16].any badI
def OkHr (x : Hr) : Prop := True
instance : Inhabited Hr := ⟨⟨[], 0, 0, 0, 0, 0, 0, 0, 0, 0, 0, 0, 0, 0, 0, 0, 0⟩⟩
structure Lt where
  v0 : Int
  v1 : Int
  v2 : Int
  v3 : Int
  v4 : List UInt8
  v5 : Nat
def cLt (x : Lt) : List Value := [.int .i64 x.v0, .int .i64 x.v1, .int .i64 x.v2, .int .i64 x.v3, .string (bs x.v4), .int .u64 (x.v5 : Int)]
theorem cLt_len (x : Lt) : (cLt x).length = 6 := rfl
def encLt (x : Lt) : List UInt8 := encIs [x.v0, x.v1, x.v2, x.v3] ++ (encTs [x.v4] ++ (chainI (x.v5 : Int)))
def badLt (x : Lt) : Bool := [x.v0, x.v1, x.v2, x.v3].any badI || [x.v4].any badT
def OkLt (x : Lt) : Prop := x.v5 < 18446744073709551616
instance : Inhabited Lt := ⟨⟨0, 0, 0, 0, [], 0⟩⟩
structure Wt where
  v0 : List UInt8
  v1 : Int
def cWt (x : Wt) : List Value := [.string (bs x.v0), .int .i64 x.v1]
theorem cWt_len (x : Wt) : (cWt x).length = 2 := rfl
def encWt (x : Wt) : List UInt8 := encTs [x.v0] ++ (encIs [x.v1])
def badWt (x : Wt) : Bool := [x.v0].any badT || [x.v1].any badI
def OkWt (x : Wt) : Prop := True
instance : Inhabited Wt := ⟨⟨[], 0⟩⟩
structure It where
  v0 : Int
  v1 : Int
def cIt (x : It) : List Value := [.int .i64 x.v0, .int .i64 x.v1]
theorem cIt_len (x : It) : (cIt x).length = 2 := rfl
def encIt (x : It) : List UInt8 := encIs [x.v0, x.v1]
def badIt (x : It) : Bool := [x.v0, x.v1].any badI
def OkIt (x : It) : Prop := True
instance : Inhabited It := ⟨⟨0, 0⟩⟩

theorem cw_intsL (b : Nat) (p : Value) (u : Sl) (tx : List UInt8) (w : Bool) (hp : UsedOr b p) (hu : Txt u tx) (b2 : Nat) (T2 : TypeId) (bx : Nat) (cs : Array Value) (T : TypeId) (fz : Nat × Nat) (ks : List (Nat × Int)) (hn : ks.length ≤ 1000) (hk : AllAt (fun z : Int => .int .i64 z) cs ks) (hl : tx.length + (encIs (ks.map Prod.snd)).length ≤ 140737488350000) :
    Ct Try.prog 96 [.pointer (some ⟨b, 0, none⟩), .slice (some ⟨b2, 0, none⟩) ks.length ks.length] [(some b2, .cells (ks.map fun y => Value.pointer (some ⟨bx, y.1, none⟩)).toArray T2 (0, 0)), (some bx, .cells cs T fz)] [(some b, .cells #[p, u.v (tx).length, .pointer none, .bool w] 80 (0, 0)), (u.ob, .cells u.cs 5 u.fz)]
      (fun v post => v = .tuple #[] ∧ ∃ p1 u1, UsedOr b p1 ∧ Txt u1 (tx ++ encIs (ks.map Prod.snd)) ∧ post = [(some b, .cells #[p1, u1.v (tx ++ encIs (ks.map Prod.snd)).length, .pointer none, .bool (w || (ks.map Prod.snd).any badI)] 80 (0, 0)), (u1.ob, .cells u1.cs 5 u1.fz)]) :=
  cw_ints b p u tx w hp hu (some b2) 0 ks.length _ T2 (0, 0) bx cs T fz ks ⟨by simp, Nat.le_refl _, by omega, by rw [Nat.mul_one, List.drop_zero]; exact List.take_of_length_le (by simp), fun h => by cases h⟩ (allAt hk) hl
theorem cw_textsL (b : Nat) (p : Value) (u : Sl) (tx : List UInt8) (w : Bool) (hp : UsedOr b p) (hu : Txt u tx) (b2 : Nat) (T2 : TypeId) (bx : Nat) (cs : Array Value) (T : TypeId) (fz : Nat × Nat) (ks : List (Nat × List UInt8)) (hn : ks.length ≤ 1000) (hk : AllAt (fun z : List UInt8 => .string (bs z)) cs ks) (hl : tx.length + (encTs (ks.map Prod.snd)).length ≤ 140737488350000) :
    Ct Try.prog 142 [.pointer (some ⟨b, 0, none⟩), .slice (some ⟨b2, 0, none⟩) ks.length ks.length] [(some b2, .cells (ks.map fun y => Value.pointer (some ⟨bx, y.1, none⟩)).toArray T2 (0, 0)), (some bx, .cells cs T fz)] [(some b, .cells #[p, u.v (tx).length, .pointer none, .bool w] 80 (0, 0)), (u.ob, .cells u.cs 5 u.fz)]
      (fun v post => v = .tuple #[] ∧ ∃ p1 u1, UsedOr b p1 ∧ Txt u1 (tx ++ encTs (ks.map Prod.snd)) ∧ post = [(some b, .cells #[p1, u1.v (tx ++ encTs (ks.map Prod.snd)).length, .pointer none, .bool (w || (ks.map Prod.snd).any badT)] 80 (0, 0)), (u1.ob, .cells u1.cs 5 u1.fz)]) :=
  cw_texts b p u tx w hp hu (some b2) 0 ks.length _ T2 (0, 0) bx cs T fz ks ⟨by simp, Nat.le_refl _, by omega, by rw [Nat.mul_one, List.drop_zero]; exact List.take_of_length_le (by simp), fun h => by cases h⟩ (allAt hk) hl

set_option maxRecDepth 100000 in
set_option maxHeartbeats 1000000 in
theorem cw_item (b : Nat) (p : Value) (u : Sl) (tx : List UInt8) (w : Bool) (hp : UsedOr b p) (hu : Txt u tx) (bx : Nat) (x : It) (T : TypeId) (fz : Nat × Nat) (hx : OkIt x) (hl : tx.length + (encIt x).length ≤ 140737488350000) :
    Ct Try.prog 179 [.pointer (some ⟨b, 0, none⟩), .pointer (some ⟨bx, 0, none⟩)] [(some bx, .cells (cIt x).toArray T fz)] [(some b, .cells #[p, u.v (tx).length, .pointer none, .bool w] 80 (0, 0)), (u.ob, .cells u.cs 5 u.fz)] fun v post => v = .tuple #[] ∧ ∃ p1 u1, UsedOr b p1 ∧ Txt u1 (tx ++ encIt x) ∧ post = [(some b, .cells #[p1, u1.v (tx ++ encIt x).length, .pointer none, .bool (w || badIt x)] 80 (0, 0)), (u1.ob, .cells u1.cs 5 u1.fz)] := by
 unfold OkIt at hx
 have hl_ := hl
 unfold encIt at hl_
 try simp only [List.length_append] at hl_
 refine Yv Try.func179 rfl rfl (fun w0 => ?_)
 show G _ _ [(0, _), (1, _)] _ _
 refine Ya (Lq := []) (isq := []) (m := 9) Ym rfl rfl ?_
 refine Zh 0 rfl rfl rfl rfl (by kernel_rfl) (fun _ _ => Zc rfl rfl) ?_
 refine Zh 1 rfl rfl rfl rfl (by kernel_rfl) (fun _ _ => Zc rfl rfl) ?_
 refine Zh 2 rfl rfl rfl rfl (by kernel_rfl) (fun _ _ => Ze rfl rfl) ?_
 refine Zh 3 rfl rfl rfl rfl (by kernel_rfl) (fun _ _ => Zb (fo := 0) rfl Try.underlying262 rfl i_3 rfl rfl rfl) ?_
 refine Zh 4 rfl rfl rfl rfl (by kernel_rfl) (fun _ _ => Zc rfl rfl) ?_
 refine Zh 5 rfl rfl rfl rfl (by kernel_rfl) (fun _ _ => Ze rfl rfl) ?_
 refine Zh 6 rfl rfl rfl rfl (by kernel_rfl) (fun _ _ => Zb (fo := 1) rfl Try.underlying262 rfl i_3 rfl rfl rfl) ?_
 refine GH_all [7] (by kernel_rfl) (by decide) ?_
 refine (And.intro ?_ trivial)
 ·
  refine Yz rfl rfl rfl rfl (Zn (s := 1) (cs := [_, _]) rfl Try.underlying241 i_176 rfl rfl rfl rfl rfl rfl rfl rfl rfl) [] (fun _ => ⟨_, rfl⟩) (fun b11 => ?_)
  refine GH_all [8] (by kernel_rfl) (by decide) ?_
  refine (And.intro ?_ trivial)
  ·
   refine Zz (L2 := [_]) rfl rfl rfl rfl rfl rfl Try.call96 (cw_intsL b _ _ _ _ hp hu _ _ bx (cIt x).toArray T fz [(0, x.v0), (1, x.v1)] (by simp) ⟨rfl, rfl, trivial⟩ (by (try simp only [List.map_cons, List.map_nil, List.length_append]); omega)) [1, 1] [1, 0] rfl rfl [] (by rintro v post ⟨rfl, p1, u1, hp1, hu1, rfl⟩; exact ⟨_, rfl⟩) ?_
   rintro v post ⟨rfl, p1, u1, hp1, hu1, rfl⟩
   show GH _ _ _ _ _ _ _ [_, _, _] _
   refine Zw (by kernel_rfl) ?_
   refine G_end (post := [_, _]) Try.func179 rfl Zo [0, 0] rfl ?_
   dsimp only [packed]
   refine ⟨rfl, p1, u1, hp1, ?_, ?_⟩
   · simpa only [encIt, List.map_cons, List.map_nil, List.append_assoc] using hu1
   · simp only [encIt, badIt, List.map_cons, List.map_nil, List.append_assoc, Bool.or_assoc]

set_option maxRecDepth 100000 in
set_option maxHeartbeats 1000000 in
theorem cw_inv (b : Nat) (p : Value) (u : Sl) (tx : List UInt8) (w : Bool) (hp : UsedOr b p) (hu : Txt u tx) (bx : Nat) (x : Iv) (T : TypeId) (fz : Nat × Nat) (hx : OkIv x) (hl : tx.length + (encIv x).length ≤ 140737488350000) :
    Ct Try.prog 102 [.pointer (some ⟨b, 0, none⟩), .pointer (some ⟨bx, 0, none⟩)] [(some bx, .cells (cIv x).toArray T fz)] [(some b, .cells #[p, u.v (tx).length, .pointer none, .bool w] 80 (0, 0)), (u.ob, .cells u.cs 5 u.fz)] fun v post => v = .tuple #[] ∧ ∃ p1 u1, UsedOr b p1 ∧ Txt u1 (tx ++ encIv x) ∧ post = [(some b, .cells #[p1, u1.v (tx ++ encIv x).length, .pointer none, .bool (w || badIv x)] 80 (0, 0)), (u1.ob, .cells u1.cs 5 u1.fz)] := by
 unfold OkIv at hx
 have hl_ := hl
 unfold encIv at hl_
 try simp only [List.length_append] at hl_
 refine Yv Try.func102 rfl rfl (fun w0 => ?_)
 show G _ _ [(0, _), (1, _)] _ _
 refine Zi ?_
 refine Ya (Lq := []) (isq := []) (m := 15) Ym rfl rfl ?_
 refine Zh 0 rfl rfl rfl rfl (by kernel_rfl) (fun _ _ => Zc rfl rfl) ?_
 refine Zh 1 rfl rfl rfl rfl (by kernel_rfl) (fun _ _ => Zc rfl rfl) ?_
 refine Zh 2 rfl rfl rfl rfl (by kernel_rfl) (fun _ _ => Ze rfl rfl) ?_
 refine Zh 3 rfl rfl rfl rfl (by kernel_rfl) (fun _ _ => Zb (fo := 0) rfl Try.underlying95 rfl i_3 rfl rfl rfl) ?_
 refine Zh 4 rfl rfl rfl rfl (by kernel_rfl) (fun _ _ => Zc rfl rfl) ?_
 refine Zh 5 rfl rfl rfl rfl (by kernel_rfl) (fun _ _ => Ze rfl rfl) ?_
 refine Zh 6 rfl rfl rfl rfl (by kernel_rfl) (fun _ _ => Zb (fo := 1) rfl Try.underlying95 rfl i_3 rfl rfl rfl) ?_
 refine Zh 7 rfl rfl rfl rfl (by kernel_rfl) (fun _ _ => Zc rfl rfl) ?_
 refine Zh 8 rfl rfl rfl rfl (by kernel_rfl) (fun _ _ => Ze rfl rfl) ?_
 refine Zh 9 rfl rfl rfl rfl (by kernel_rfl) (fun _ _ => Zb (fo := 3) rfl Try.underlying95 rfl i_3 rfl rfl rfl) ?_
 refine Zh 10 rfl rfl rfl rfl (by kernel_rfl) (fun _ _ => Zc rfl rfl) ?_
 refine Zh 11 rfl rfl rfl rfl (by kernel_rfl) (fun _ _ => Ze rfl rfl) ?_
 refine Zh 12 rfl rfl rfl rfl (by kernel_rfl) (fun _ _ => Zb (fo := 4) rfl Try.underlying95 rfl i_3 rfl rfl rfl) ?_
 refine GH_all [13] (by kernel_rfl) (by decide) ?_
 refine (And.intro ?_ trivial)
 ·
  refine Yz rfl rfl rfl rfl (Zn (s := 1) (cs := [_, _, _, _]) rfl Try.underlying241 i_176 rfl rfl rfl rfl rfl rfl rfl rfl rfl) [] (fun _ => ⟨_, rfl⟩) (fun b17 => ?_)
  refine GH_all [14] (by kernel_rfl) (by decide) ?_
  refine (And.intro ?_ trivial)
  ·
   refine Zz (L2 := [_]) rfl rfl rfl rfl rfl rfl Try.call96 (cw_intsL b _ _ _ _ hp hu _ _ bx (cIv x).toArray T fz [(0, x.v0), (1, x.v1), (3, x.v3), (4, x.v4)] (by simp) ⟨rfl, rfl, rfl, rfl, trivial⟩ (by (try simp only [List.map_cons, List.map_nil, List.length_append]); omega)) [1, 1] [1, 0] rfl rfl [] (by rintro v post ⟨rfl, p1, u1, hp1, hu1, rfl⟩; exact ⟨_, rfl⟩) ?_
   rintro v post ⟨rfl, p1, u1, hp1, hu1, rfl⟩
   show GH _ _ _ _ _ _ _ [_, _, _] _
   refine Zw (by kernel_rfl) ?_
   refine Zd (l := [0, 1, 2, 3, 4, 5]) rfl ?_
   refine Za rfl rfl rfl rfl (Zc rfl rfl) ?_
   refine Za rfl rfl rfl rfl (Zc rfl rfl) ?_
   refine Za rfl rfl rfl rfl (Ze rfl rfl) ?_
   refine Za rfl rfl rfl rfl (Zb (fo := 2) rfl Try.underlying95 rfl i_9 rfl rfl rfl) ?_
   refine Yr rfl rfl rfl rfl (Zn (s := 1) (cs := [_]) rfl Try.underlying278 i_244 rfl rfl rfl rfl rfl rfl rfl rfl rfl) (fun b23 => ?_)
   refine Yh (L2 := [_, _]) rfl rfl rfl rfl rfl rfl Try.call142 (cw_textsL b _ _ _ _ hp1 hu1 _ _ bx (cIv x).toArray T fz [(2, x.v2)] (by simp) ⟨rfl, trivial⟩ (by (try simp only [List.map_cons, List.map_nil, List.length_append]); omega)) [1, 1] [1, 0] rfl rfl ?_
   rintro v post ⟨rfl, p1, u1, hp1, hu1, rfl⟩
   show G _ _ _ [_, _, _, _] _
   refine Zg ?_
   refine G_end (post := [_, _]) Try.func102 rfl Zo [0, 0] rfl ?_
   dsimp only [packed]
   refine ⟨rfl, p1, u1, hp1, ?_, ?_⟩
   · simpa only [encIv, List.map_cons, List.map_nil, List.append_assoc] using hu1
   · simp only [encIv, badIv, List.map_cons, List.map_nil, List.append_assoc, Bool.or_assoc]

set_option maxRecDepth 100000 in
set_option maxHeartbeats 1000000 in
theorem cw_letter (b : Nat) (p : Value) (u : Sl) (tx : List UInt8) (w : Bool) (hp : UsedOr b p) (hu : Txt u tx) (bx : Nat) (x : Lt) (T : TypeId) (fz : Nat × Nat) (hx : OkLt x) (hl : tx.length + (encLt x).length ≤ 140737488350000) :
    Ct Try.prog 108 [.pointer (some ⟨b, 0, none⟩), .pointer (some ⟨bx, 0, none⟩)] [(some bx, .cells (cLt x).toArray T fz)] [(some b, .cells #[p, u.v (tx).length, .pointer none, .bool w] 80 (0, 0)), (u.ob, .cells u.cs 5 u.fz)] fun v post => v = .tuple #[] ∧ ∃ p1 u1, UsedOr b p1 ∧ Txt u1 (tx ++ encLt x) ∧ post = [(some b, .cells #[p1, u1.v (tx ++ encLt x).length, .pointer none, .bool (w || badLt x)] 80 (0, 0)), (u1.ob, .cells u1.cs 5 u1.fz)] := by
 unfold OkLt at hx
 have hl_ := hl
 unfold encLt at hl_
 try simp only [List.length_append] at hl_
 refine Yv Try.func108 rfl rfl (fun w0 => ?_)
 show G _ _ [(0, _), (1, _)] _ _
 refine Zi ?_
 refine Ya (Lq := []) (isq := []) (m := 15) Ym rfl rfl ?_
 refine Zh 0 rfl rfl rfl rfl (by kernel_rfl) (fun _ _ => Zc rfl rfl) ?_
 refine Zh 1 rfl rfl rfl rfl (by kernel_rfl) (fun _ _ => Zc rfl rfl) ?_
 refine Zh 2 rfl rfl rfl rfl (by kernel_rfl) (fun _ _ => Ze rfl rfl) ?_
 refine Zh 3 rfl rfl rfl rfl (by kernel_rfl) (fun _ _ => Zb (fo := 0) rfl Try.underlying143 rfl i_3 rfl rfl rfl) ?_
 refine Zh 4 rfl rfl rfl rfl (by kernel_rfl) (fun _ _ => Zc rfl rfl) ?_
 refine Zh 5 rfl rfl rfl rfl (by kernel_rfl) (fun _ _ => Ze rfl rfl) ?_
 refine Zh 6 rfl rfl rfl rfl (by kernel_rfl) (fun _ _ => Zb (fo := 1) rfl Try.underlying143 rfl i_3 rfl rfl rfl) ?_
 refine Zh 7 rfl rfl rfl rfl (by kernel_rfl) (fun _ _ => Zc rfl rfl) ?_
 refine Zh 8 rfl rfl rfl rfl (by kernel_rfl) (fun _ _ => Ze rfl rfl) ?_
 refine Zh 9 rfl rfl rfl rfl (by kernel_rfl) (fun _ _ => Zb (fo := 2) rfl Try.underlying143 rfl i_3 rfl rfl rfl) ?_
 refine Zh 10 rfl rfl rfl rfl (by kernel_rfl) (fun _ _ => Zc rfl rfl) ?_
 refine Zh 11 rfl rfl rfl rfl (by kernel_rfl) (fun _ _ => Ze rfl rfl) ?_
 refine Zh 12 rfl rfl rfl rfl (by kernel_rfl) (fun _ _ => Zb (fo := 3) rfl Try.underlying143 rfl i_3 rfl rfl rfl) ?_
 refine GH_all [13] (by kernel_rfl) (by decide) ?_
 refine (And.intro ?_ trivial)
 ·
  refine Yz rfl rfl rfl rfl (Zn (s := 1) (cs := [_, _, _, _]) rfl Try.underlying241 i_176 rfl rfl rfl rfl rfl rfl rfl rfl rfl) [] (fun _ => ⟨_, rfl⟩) (fun b17 => ?_)
  refine GH_all [14] (by kernel_rfl) (by decide) ?_
  refine (And.intro ?_ trivial)
  ·
   refine Zz (L2 := [_]) rfl rfl rfl rfl rfl rfl Try.call96 (cw_intsL b _ _ _ _ hp hu _ _ bx (cLt x).toArray T fz [(0, x.v0), (1, x.v1), (2, x.v2), (3, x.v3)] (by simp) ⟨rfl, rfl, rfl, rfl, trivial⟩ (by (try simp only [List.map_cons, List.map_nil, List.length_append]); omega)) [1, 1] [1, 0] rfl rfl [] (by rintro v post ⟨rfl, p1, u1, hp1, hu1, rfl⟩; exact ⟨_, rfl⟩) ?_
   rintro v post ⟨rfl, p1, u1, hp1, hu1, rfl⟩
   show GH _ _ _ _ _ _ _ [_, _, _] _
   refine Zw (by kernel_rfl) ?_
   refine Zi ?_
   refine Zd (l := [0, 1, 2, 3, 4, 5]) rfl ?_
   refine Za rfl rfl rfl rfl (Zc rfl rfl) ?_
   refine Za rfl rfl rfl rfl (Zc rfl rfl) ?_
   refine Za rfl rfl rfl rfl (Ze rfl rfl) ?_
   refine Za rfl rfl rfl rfl (Zb (fo := 4) rfl Try.underlying143 rfl i_9 rfl rfl rfl) ?_
   refine Yr rfl rfl rfl rfl (Zn (s := 1) (cs := [_]) rfl Try.underlying278 i_244 rfl rfl rfl rfl rfl rfl rfl rfl rfl) (fun b23 => ?_)
   refine Yh (L2 := [_, _]) rfl rfl rfl rfl rfl rfl Try.call142 (cw_textsL b _ _ _ _ hp1 hu1 _ _ bx (cLt x).toArray T fz [(4, x.v4)] (by simp) ⟨rfl, trivial⟩ (by (try simp only [List.map_cons, List.map_nil, List.length_append]); omega)) [1, 1] [1, 0] rfl rfl ?_
   rintro v post ⟨rfl, p1, u1, hp1, hu1, rfl⟩
   show G _ _ _ [_, _, _, _] _
   refine Zg ?_
   refine Zd (l := [0, 1, 2, 3, 4]) rfl ?_
   refine Za rfl rfl rfl rfl (Zc rfl rfl) ?_
   refine Za rfl rfl rfl rfl (Zc rfl rfl) ?_
   refine Za rfl rfl rfl rfl (Ze rfl rfl) ?_
   refine Za rfl rfl rfl rfl (Zb (fo := 5) rfl Try.underlying143 rfl i_23 rfl rfl rfl) ?_
   refine Yh (L2 := [_, _]) rfl rfl rfl rfl rfl rfl Try.call94 (cw_num b _ _ _ _ hp1 hu1 bx 5 (cLt x).toArray T fz x.v5 (by omega) rfl (by (try simp only [List.map_cons, List.map_nil, List.length_append]); omega)) [0, 0] [0] rfl rfl ?_
   rintro v post ⟨rfl, p1, u1, hp1, hu1, rfl⟩
   show G _ _ _ [_, _, _, _] _
   refine Zg ?_
   refine G_end (post := [_, _]) Try.func108 rfl Zo [0, 0] rfl ?_
   dsimp only [packed]
   refine ⟨rfl, p1, u1, hp1, ?_, ?_⟩
   · simpa only [encLt, List.map_cons, List.map_nil, List.append_assoc] using hu1
   · simp only [encLt, badLt, List.map_cons, List.map_nil, List.append_assoc, Bool.or_assoc]

set_option maxRecDepth 100000 in
set_option maxHeartbeats 1000000 in
theorem cw_watcher (b : Nat) (p : Value) (u : Sl) (tx : List UInt8) (w : Bool) (hp : UsedOr b p) (hu : Txt u tx) (bx : Nat) (x : Wt) (T : TypeId) (fz : Nat × Nat) (hx : OkWt x) (hl : tx.length + (encWt x).length ≤ 140737488350000) :
    Ct Try.prog 110 [.pointer (some ⟨b, 0, none⟩), .pointer (some ⟨bx, 0, none⟩)] [(some bx, .cells (cWt x).toArray T fz)] [(some b, .cells #[p, u.v (tx).length, .pointer none, .bool w] 80 (0, 0)), (u.ob, .cells u.cs 5 u.fz)] fun v post => v = .tuple #[] ∧ ∃ p1 u1, UsedOr b p1 ∧ Txt u1 (tx ++ encWt x) ∧ post = [(some b, .cells #[p1, u1.v (tx ++ encWt x).length, .pointer none, .bool (w || badWt x)] 80 (0, 0)), (u1.ob, .cells u1.cs 5 u1.fz)] := by
 unfold OkWt at hx
 have hl_ := hl
 unfold encWt at hl_
 try simp only [List.length_append] at hl_
 refine Yv Try.func110 rfl rfl (fun w0 => ?_)
 show G _ _ [(0, _), (1, _)] _ _
 refine Zi ?_
 refine Zd (l := [0, 1, 2, 3, 4, 5]) rfl ?_
 refine Za rfl rfl rfl rfl (Zc rfl rfl) ?_
 refine Za rfl rfl rfl rfl (Zc rfl rfl) ?_
 refine Za rfl rfl rfl rfl (Ze rfl rfl) ?_
 refine Za rfl rfl rfl rfl (Zb (fo := 0) rfl Try.underlying145 rfl i_9 rfl rfl rfl) ?_
 refine Yr rfl rfl rfl rfl (Zn (s := 1) (cs := [_]) rfl Try.underlying278 i_244 rfl rfl rfl rfl rfl rfl rfl rfl rfl) (fun b8 => ?_)
 refine Yh (L2 := [_]) rfl rfl rfl rfl rfl rfl Try.call142 (cw_textsL b _ _ _ _ hp hu _ _ bx (cWt x).toArray T fz [(0, x.v0)] (by simp) ⟨rfl, trivial⟩ (by (try simp only [List.map_cons, List.map_nil, List.length_append]); omega)) [1, 1] [1, 0] rfl rfl ?_
 rintro v post ⟨rfl, p1, u1, hp1, hu1, rfl⟩
 show G _ _ _ [_, _, _] _
 refine Zg ?_
 refine Zd (l := [0, 1, 2, 3, 4, 5]) rfl ?_
 refine Za rfl rfl rfl rfl (Zc rfl rfl) ?_
 refine Za rfl rfl rfl rfl (Zc rfl rfl) ?_
 refine Za rfl rfl rfl rfl (Ze rfl rfl) ?_
 refine Za rfl rfl rfl rfl (Zb (fo := 1) rfl Try.underlying145 rfl i_3 rfl rfl rfl) ?_
 refine Yr rfl rfl rfl rfl (Zn (s := 1) (cs := [_]) rfl Try.underlying241 i_176 rfl rfl rfl rfl rfl rfl rfl rfl rfl) (fun b14 => ?_)
 refine Yh (L2 := [_, _]) rfl rfl rfl rfl rfl rfl Try.call96 (cw_intsL b _ _ _ _ hp1 hu1 _ _ bx (cWt x).toArray T fz [(1, x.v1)] (by simp) ⟨rfl, trivial⟩ (by (try simp only [List.map_cons, List.map_nil, List.length_append]); omega)) [1, 1] [1, 0] rfl rfl ?_
 rintro v post ⟨rfl, p1, u1, hp1, hu1, rfl⟩
 show G _ _ _ [_, _, _, _] _
 refine Zg ?_
 refine G_end (post := [_, _]) Try.func110 rfl Zo [0, 0] rfl ?_
 dsimp only [packed]
 refine ⟨rfl, p1, u1, hp1, ?_, ?_⟩
 · simpa only [encWt, List.map_cons, List.map_nil, List.append_assoc] using hu1
 · simp only [encWt, badWt, List.map_cons, List.map_nil, List.append_assoc, Bool.or_assoc]

set_option maxRecDepth 100000 in
set_option maxHeartbeats 1000000 in
theorem cw_worker (b : Nat) (p : Value) (u : Sl) (tx : List UInt8) (w : Bool) (hp : UsedOr b p) (hu : Txt u tx) (bx : Nat) (x : Wk) (T : TypeId) (fz : Nat × Nat) (hx : OkWk x) (hl : tx.length + (encWk x).length ≤ 140737488350000) :
    Ct Try.prog 100 [.pointer (some ⟨b, 0, none⟩), .pointer (some ⟨bx, 0, none⟩)] [(some bx, .cells (cWk x).toArray T fz)] [(some b, .cells #[p, u.v (tx).length, .pointer none, .bool w] 80 (0, 0)), (u.ob, .cells u.cs 5 u.fz)] fun v post => v = .tuple #[] ∧ ∃ p1 u1, UsedOr b p1 ∧ Txt u1 (tx ++ encWk x) ∧ post = [(some b, .cells #[p1, u1.v (tx ++ encWk x).length, .pointer none, .bool (w || badWk x)] 80 (0, 0)), (u1.ob, .cells u1.cs 5 u1.fz)] := by
 unfold OkWk at hx
 have hl_ := hl
 unfold encWk at hl_
 try simp only [List.length_append] at hl_
 refine Yv Try.func100 rfl rfl (fun w0 => ?_)
 show G _ _ [(0, _), (1, _)] _ _
 refine Zi ?_
 refine Ya (Lq := []) (isq := []) (m := 12) Ym rfl rfl ?_
 refine Zh 0 rfl rfl rfl rfl (by kernel_rfl) (fun _ _ => Zc rfl rfl) ?_
 refine Zh 1 rfl rfl rfl rfl (by kernel_rfl) (fun _ _ => Zc rfl rfl) ?_
 refine Zh 2 rfl rfl rfl rfl (by kernel_rfl) (fun _ _ => Ze rfl rfl) ?_
 refine Zh 3 rfl rfl rfl rfl (by kernel_rfl) (fun _ _ => Zb (fo := 0) rfl Try.underlying92 rfl i_3 rfl rfl rfl) ?_
 refine Zh 4 rfl rfl rfl rfl (by kernel_rfl) (fun _ _ => Zc rfl rfl) ?_
 refine Zh 5 rfl rfl rfl rfl (by kernel_rfl) (fun _ _ => Ze rfl rfl) ?_
 refine Zh 6 rfl rfl rfl rfl (by kernel_rfl) (fun _ _ => Zb (fo := 1) rfl Try.underlying92 rfl i_3 rfl rfl rfl) ?_
 refine Zh 7 rfl rfl rfl rfl (by kernel_rfl) (fun _ _ => Zc rfl rfl) ?_
 refine Zh 8 rfl rfl rfl rfl (by kernel_rfl) (fun _ _ => Ze rfl rfl) ?_
 refine Zh 9 rfl rfl rfl rfl (by kernel_rfl) (fun _ _ => Zb (fo := 2) rfl Try.underlying92 rfl i_3 rfl rfl rfl) ?_
 refine GH_all [10] (by kernel_rfl) (by decide) ?_
 refine (And.intro ?_ trivial)
 ·
  refine Yz rfl rfl rfl rfl (Zn (s := 1) (cs := [_, _, _]) rfl Try.underlying241 i_176 rfl rfl rfl rfl rfl rfl rfl rfl rfl) [] (fun _ => ⟨_, rfl⟩) (fun b14 => ?_)
  refine GH_all [11] (by kernel_rfl) (by decide) ?_
  refine (And.intro ?_ trivial)
  ·
   refine Zz (L2 := [_]) rfl rfl rfl rfl rfl rfl Try.call96 (cw_intsL b _ _ _ _ hp hu _ _ bx (cWk x).toArray T fz [(0, x.v0), (1, x.v1), (2, x.v2)] (by simp) ⟨rfl, rfl, rfl, trivial⟩ (by (try simp only [List.map_cons, List.map_nil, List.length_append]); omega)) [1, 1] [1, 0] rfl rfl [] (by rintro v post ⟨rfl, p1, u1, hp1, hu1, rfl⟩; exact ⟨_, rfl⟩) ?_
   rintro v post ⟨rfl, p1, u1, hp1, hu1, rfl⟩
   show GH _ _ _ _ _ _ _ [_, _, _] _
   refine Zw (by kernel_rfl) ?_
   refine Zi ?_
   refine Ya (Lq := []) (isq := []) (m := 9) Ym rfl rfl ?_
   refine Zh 0 rfl rfl rfl rfl (by kernel_rfl) (fun _ _ => Zc rfl rfl) ?_
   refine Zh 1 rfl rfl rfl rfl (by kernel_rfl) (fun _ _ => Zc rfl rfl) ?_
   refine Zh 2 rfl rfl rfl rfl (by kernel_rfl) (fun _ _ => Ze rfl rfl) ?_
   refine Zh 3 rfl rfl rfl rfl (by kernel_rfl) (fun _ _ => Zb (fo := 3) rfl Try.underlying92 rfl i_9 rfl rfl rfl) ?_
   refine Zh 4 rfl rfl rfl rfl (by kernel_rfl) (fun _ _ => Zc rfl rfl) ?_
   refine Zh 5 rfl rfl rfl rfl (by kernel_rfl) (fun _ _ => Ze rfl rfl) ?_
   refine Zh 6 rfl rfl rfl rfl (by kernel_rfl) (fun _ _ => Zb (fo := 4) rfl Try.underlying92 rfl i_9 rfl rfl rfl) ?_
   refine GH_all [7] (by kernel_rfl) (by decide) ?_
   refine (And.intro ?_ trivial)
   ·
    refine Yz rfl rfl rfl rfl (Zn (s := 1) (cs := [_, _]) rfl Try.underlying278 i_244 rfl rfl rfl rfl rfl rfl rfl rfl rfl) [] (fun _ => ⟨_, rfl⟩) (fun b23 => ?_)
    refine GH_all [8] (by kernel_rfl) (by decide) ?_
    refine (And.intro ?_ trivial)
    ·
     refine Zz (L2 := [_, _]) rfl rfl rfl rfl rfl rfl Try.call142 (cw_textsL b _ _ _ _ hp1 hu1 _ _ bx (cWk x).toArray T fz [(3, x.v3), (4, x.v4)] (by simp) ⟨rfl, rfl, trivial⟩ (by (try simp only [List.map_cons, List.map_nil, List.length_append]); omega)) [1, 1] [1, 0] rfl rfl [] (by rintro v post ⟨rfl, p1, u1, hp1, hu1, rfl⟩; exact ⟨_, rfl⟩) ?_
     rintro v post ⟨rfl, p1, u1, hp1, hu1, rfl⟩
     show GH _ _ _ _ _ _ _ [_, _, _, _] _
     refine Zw (by kernel_rfl) ?_
     refine Zi ?_
     refine Zd (l := [0, 1, 2, 3, 4]) rfl ?_
     refine Za rfl rfl rfl rfl (Zc rfl rfl) ?_
     refine Za rfl rfl rfl rfl (Zc rfl rfl) ?_
     refine Za rfl rfl rfl rfl (Ze rfl rfl) ?_
     refine Za rfl rfl rfl rfl (Zb (fo := 5) rfl Try.underlying92 rfl i_4 rfl rfl rfl) ?_
     refine Yh (L2 := [_, _]) rfl rfl rfl rfl rfl rfl Try.call95 (cw_flag b _ _ _ _ hp1 hu1 bx 5 (cWk x).toArray T fz x.v5 rfl (by (try simp only [List.map_cons, List.map_nil, List.length_append]); omega)) [0, 0] [0] rfl rfl ?_
     rintro v post ⟨rfl, p1, u1, hp1, hu1, rfl⟩
     show G _ _ _ [_, _, _, _] _
     refine Zg ?_
     refine Zd (l := [0, 1, 2, 3, 4]) rfl ?_
     refine Za rfl rfl rfl rfl (Zc rfl rfl) ?_
     refine Za rfl rfl rfl rfl (Zc rfl rfl) ?_
     refine Za rfl rfl rfl rfl (Ze rfl rfl) ?_
     refine Za rfl rfl rfl rfl (Zb (fo := 6) rfl Try.underlying92 rfl i_23 rfl rfl rfl) ?_
     refine Yh (L2 := [_, _]) rfl rfl rfl rfl rfl rfl Try.call94 (cw_num b _ _ _ _ hp1 hu1 bx 6 (cWk x).toArray T fz x.v6 (by omega) rfl (by (try simp only [List.map_cons, List.map_nil, List.length_append]); omega)) [0, 0] [0] rfl rfl ?_
     rintro v post ⟨rfl, p1, u1, hp1, hu1, rfl⟩
     show G _ _ _ [_, _, _, _] _
     refine Zg ?_
     refine G_end (post := [_, _]) Try.func100 rfl Zo [0, 0] rfl ?_
     dsimp only [packed]
     refine ⟨rfl, p1, u1, hp1, ?_, ?_⟩
     · simpa only [encWk, List.map_cons, List.map_nil, List.append_assoc] using hu1
     · simp only [encWk, badWk, List.map_cons, List.map_nil, List.append_assoc, Bool.or_assoc]

set_option maxRecDepth 100000 in
set_option maxHeartbeats 1000000 in
theorem cw_op (b : Nat) (p : Value) (u : Sl) (tx : List UInt8) (w : Bool) (hp : UsedOr b p) (hu : Txt u tx) (bx : Nat) (x : Op) (T : TypeId) (fz : Nat × Nat) (hx : OkOp x) (hl : tx.length + (encOp x).length ≤ 140737488350000) :
    Ct Try.prog 98 [.pointer (some ⟨b, 0, none⟩), .pointer (some ⟨bx, 0, none⟩)] [(some bx, .cells (cOp x).toArray T fz)] [(some b, .cells #[p, u.v (tx).length, .pointer none, .bool w] 80 (0, 0)), (u.ob, .cells u.cs 5 u.fz)] fun v post => v = .tuple #[] ∧ ∃ p1 u1, UsedOr b p1 ∧ Txt u1 (tx ++ encOp x) ∧ post = [(some b, .cells #[p1, u1.v (tx ++ encOp x).length, .pointer none, .bool (w || badOp x)] 80 (0, 0)), (u1.ob, .cells u1.cs 5 u1.fz)] := by
 unfold OkOp at hx
 have hl_ := hl
 unfold encOp at hl_
 try simp only [List.length_append] at hl_
 refine Yv Try.func98 rfl rfl (fun w0 => ?_)
 show G _ _ [(0, _), (1, _)] _ _
 refine Zi ?_
 refine Ya (Lq := []) (isq := []) (m := 39) Ym rfl rfl ?_
 refine Zh 0 rfl rfl rfl rfl (by kernel_rfl) (fun _ _ => Zc rfl rfl) ?_
 refine Zh 1 rfl rfl rfl rfl (by kernel_rfl) (fun _ _ => Zc rfl rfl) ?_
 refine Zh 2 rfl rfl rfl rfl (by kernel_rfl) (fun _ _ => Ze rfl rfl) ?_
 refine Zh 3 rfl rfl rfl rfl (by kernel_rfl) (fun _ _ => Zb (fo := 0) rfl Try.underlying137 rfl i_3 rfl rfl rfl) ?_
 refine Zh 4 rfl rfl rfl rfl (by kernel_rfl) (fun _ _ => Zc rfl rfl) ?_
 refine Zh 5 rfl rfl rfl rfl (by kernel_rfl) (fun _ _ => Ze rfl rfl) ?_
 refine Zh 6 rfl rfl rfl rfl (by kernel_rfl) (fun _ _ => Zb (fo := 1) rfl Try.underlying137 rfl i_3 rfl rfl rfl) ?_
 refine Zh 7 rfl rfl rfl rfl (by kernel_rfl) (fun _ _ => Zc rfl rfl) ?_
 refine Zh 8 rfl rfl rfl rfl (by kernel_rfl) (fun _ _ => Ze rfl rfl) ?_
 refine Zh 9 rfl rfl rfl rfl (by kernel_rfl) (fun _ _ => Zb (fo := 2) rfl Try.underlying137 rfl i_3 rfl rfl rfl) ?_
 refine Zh 10 rfl rfl rfl rfl (by kernel_rfl) (fun _ _ => Zc rfl rfl) ?_
 refine Zh 11 rfl rfl rfl rfl (by kernel_rfl) (fun _ _ => Ze rfl rfl) ?_
 refine Zh 12 rfl rfl rfl rfl (by kernel_rfl) (fun _ _ => Zb (fo := 6) rfl Try.underlying137 rfl i_3 rfl rfl rfl) ?_
 refine Zh 13 rfl rfl rfl rfl (by kernel_rfl) (fun _ _ => Zc rfl rfl) ?_
 refine Zh 14 rfl rfl rfl rfl (by kernel_rfl) (fun _ _ => Ze rfl rfl) ?_
 refine Zh 15 rfl rfl rfl rfl (by kernel_rfl) (fun _ _ => Zb (fo := 7) rfl Try.underlying137 rfl i_3 rfl rfl rfl) ?_
 refine Zh 16 rfl rfl rfl rfl (by kernel_rfl) (fun _ _ => Zc rfl rfl) ?_
 refine Zh 17 rfl rfl rfl rfl (by kernel_rfl) (fun _ _ => Ze rfl rfl) ?_
 refine Zh 18 rfl rfl rfl rfl (by kernel_rfl) (fun _ _ => Zb (fo := 8) rfl Try.underlying137 rfl i_3 rfl rfl rfl) ?_
 refine Zh 19 rfl rfl rfl rfl (by kernel_rfl) (fun _ _ => Zc rfl rfl) ?_
 refine Zh 20 rfl rfl rfl rfl (by kernel_rfl) (fun _ _ => Ze rfl rfl) ?_
 refine Zh 21 rfl rfl rfl rfl (by kernel_rfl) (fun _ _ => Zb (fo := 9) rfl Try.underlying137 rfl i_3 rfl rfl rfl) ?_
 refine Zh 22 rfl rfl rfl rfl (by kernel_rfl) (fun _ _ => Zc rfl rfl) ?_
 refine Zh 23 rfl rfl rfl rfl (by kernel_rfl) (fun _ _ => Ze rfl rfl) ?_
 refine Zh 24 rfl rfl rfl rfl (by kernel_rfl) (fun _ _ => Zb (fo := 10) rfl Try.underlying137 rfl i_3 rfl rfl rfl) ?_
 refine Zh 25 rfl rfl rfl rfl (by kernel_rfl) (fun _ _ => Zc rfl rfl) ?_
 refine Zh 26 rfl rfl rfl rfl (by kernel_rfl) (fun _ _ => Ze rfl rfl) ?_
 refine Zh 27 rfl rfl rfl rfl (by kernel_rfl) (fun _ _ => Zb (fo := 11) rfl Try.underlying137 rfl i_3 rfl rfl rfl) ?_
 refine Zh 28 rfl rfl rfl rfl (by kernel_rfl) (fun _ _ => Zc rfl rfl) ?_
 refine Zh 29 rfl rfl rfl rfl (by kernel_rfl) (fun _ _ => Ze rfl rfl) ?_
 refine Zh 30 rfl rfl rfl rfl (by kernel_rfl) (fun _ _ => Zb (fo := 12) rfl Try.underlying137 rfl i_3 rfl rfl rfl) ?_
 refine Zh 31 rfl rfl rfl rfl (by kernel_rfl) (fun _ _ => Zc rfl rfl) ?_
 refine Zh 32 rfl rfl rfl rfl (by kernel_rfl) (fun _ _ => Ze rfl rfl) ?_
 refine Zh 33 rfl rfl rfl rfl (by kernel_rfl) (fun _ _ => Zb (fo := 13) rfl Try.underlying137 rfl i_3 rfl rfl rfl) ?_
 refine Zh 34 rfl rfl rfl rfl (by kernel_rfl) (fun _ _ => Zc rfl rfl) ?_
 refine Zh 35 rfl rfl rfl rfl (by kernel_rfl) (fun _ _ => Ze rfl rfl) ?_
 refine Zh 36 rfl rfl rfl rfl (by kernel_rfl) (fun _ _ => Zb (fo := 14) rfl Try.underlying137 rfl i_3 rfl rfl rfl) ?_
 refine GH_all [37] (by kernel_rfl) (by decide) ?_
 refine (And.intro ?_ trivial)
 ·
  refine Yz rfl rfl rfl rfl (Zn (s := 1) (cs := [_, _, _, _, _, _, _, _, _, _, _, _]) rfl Try.underlying241 i_176 rfl rfl rfl rfl rfl rfl rfl rfl rfl) [] (fun _ => ⟨_, rfl⟩) (fun b41 => ?_)
  refine GH_all [38] (by kernel_rfl) (by decide) ?_
  refine (And.intro ?_ trivial)
  ·
   refine Zz (L2 := [_]) rfl rfl rfl rfl rfl rfl Try.call96 (cw_intsL b _ _ _ _ hp hu _ _ bx (cOp x).toArray T fz [(0, x.v0), (1, x.v1), (2, x.v2), (6, x.v6), (7, x.v7), (8, x.v8), (9, x.v9), (10, x.v10), (11, x.v11), (12, x.v12), (13, x.v13), (14, x.v14)] (by simp) ⟨rfl, rfl, rfl, rfl, rfl, rfl, rfl, rfl, rfl, rfl, rfl, rfl, trivial⟩ (by (try simp only [List.map_cons, List.map_nil, List.length_append]); omega)) [1, 1] [1, 0] rfl rfl [] (by rintro v post ⟨rfl, p1, u1, hp1, hu1, rfl⟩; exact ⟨_, rfl⟩) ?_
   rintro v post ⟨rfl, p1, u1, hp1, hu1, rfl⟩
   show GH _ _ _ _ _ _ _ [_, _, _] _
   refine Zw (by kernel_rfl) ?_
   refine Zi ?_
   refine Ya (Lq := []) (isq := []) (m := 15) Ym rfl rfl ?_
   refine Zh 0 rfl rfl rfl rfl (by kernel_rfl) (fun _ _ => Zc rfl rfl) ?_
   refine Zh 1 rfl rfl rfl rfl (by kernel_rfl) (fun _ _ => Zc rfl rfl) ?_
   refine Zh 2 rfl rfl rfl rfl (by kernel_rfl) (fun _ _ => Ze rfl rfl) ?_
   refine Zh 3 rfl rfl rfl rfl (by kernel_rfl) (fun _ _ => Zb (fo := 3) rfl Try.underlying137 rfl i_135 rfl rfl rfl) ?_
   refine Zh 4 rfl rfl rfl rfl (by kernel_rfl) (fun _ _ => Zb (fo := 3) rfl Try.underlying135 rfl i_9 rfl rfl rfl) ?_
   refine Zh 5 rfl rfl rfl rfl (by kernel_rfl) (fun _ _ => Zc rfl rfl) ?_
   refine Zh 6 rfl rfl rfl rfl (by kernel_rfl) (fun _ _ => Ze rfl rfl) ?_
   refine Zh 7 rfl rfl rfl rfl (by kernel_rfl) (fun _ _ => Zb (fo := 3) rfl Try.underlying137 rfl i_135 rfl rfl rfl) ?_
   refine Zh 8 rfl rfl rfl rfl (by kernel_rfl) (fun _ _ => Zb (fo := 4) rfl Try.underlying135 rfl i_9 rfl rfl rfl) ?_
   refine Zh 9 rfl rfl rfl rfl (by kernel_rfl) (fun _ _ => Zc rfl rfl) ?_
   refine Zh 10 rfl rfl rfl rfl (by kernel_rfl) (fun _ _ => Ze rfl rfl) ?_
   refine Zh 11 rfl rfl rfl rfl (by kernel_rfl) (fun _ _ => Zb (fo := 3) rfl Try.underlying137 rfl i_135 rfl rfl rfl) ?_
   refine Zh 12 rfl rfl rfl rfl (by kernel_rfl) (fun _ _ => Zb (fo := 5) rfl Try.underlying135 rfl i_9 rfl rfl rfl) ?_
   refine GH_all [13] (by kernel_rfl) (by decide) ?_
   refine (And.intro ?_ trivial)
   ·
    refine Yz rfl rfl rfl rfl (Zn (s := 1) (cs := [_, _, _]) rfl Try.underlying278 i_244 rfl rfl rfl rfl rfl rfl rfl rfl rfl) [] (fun _ => ⟨_, rfl⟩) (fun b56 => ?_)
    refine GH_all [14] (by kernel_rfl) (by decide) ?_
    refine (And.intro ?_ trivial)
    ·
     refine Zz (L2 := [_, _]) rfl rfl rfl rfl rfl rfl Try.call142 (cw_textsL b _ _ _ _ hp1 hu1 _ _ bx (cOp x).toArray T fz [(3, x.v3), (4, x.v4), (5, x.v5)] (by simp) ⟨rfl, rfl, rfl, trivial⟩ (by (try simp only [List.map_cons, List.map_nil, List.length_append]); omega)) [1, 1] [1, 0] rfl rfl [] (by rintro v post ⟨rfl, p1, u1, hp1, hu1, rfl⟩; exact ⟨_, rfl⟩) ?_
     rintro v post ⟨rfl, p1, u1, hp1, hu1, rfl⟩
     show GH _ _ _ _ _ _ _ [_, _, _, _] _
     refine Zw (by kernel_rfl) ?_
     refine Zi ?_
     refine Zd (l := [0, 1, 2, 3, 4]) rfl ?_
     refine Za rfl rfl rfl rfl (Zc rfl rfl) ?_
     refine Za rfl rfl rfl rfl (Zc rfl rfl) ?_
     refine Za rfl rfl rfl rfl (Ze rfl rfl) ?_
     refine Za rfl rfl rfl rfl (Zb (fo := 15) rfl Try.underlying137 rfl i_23 rfl rfl rfl) ?_
     refine Yh (L2 := [_, _]) rfl rfl rfl rfl rfl rfl Try.call94 (cw_num b _ _ _ _ hp1 hu1 bx 15 (cOp x).toArray T fz x.v15 (by omega) rfl (by (try simp only [List.map_cons, List.map_nil, List.length_append]); omega)) [0, 0] [0] rfl rfl ?_
     rintro v post ⟨rfl, p1, u1, hp1, hu1, rfl⟩
     show G _ _ _ [_, _, _, _] _
     refine Zg ?_
     refine Zi ?_
     refine Zd (l := [0, 1, 2, 3, 4]) rfl ?_
     refine Za rfl rfl rfl rfl (Zc rfl rfl) ?_
     refine Za rfl rfl rfl rfl (Zc rfl rfl) ?_
     refine Za rfl rfl rfl rfl (Ze rfl rfl) ?_
     refine Za rfl rfl rfl rfl (Zb (fo := 16) rfl Try.underlying137 rfl i_23 rfl rfl rfl) ?_
     refine Yh (L2 := [_, _]) rfl rfl rfl rfl rfl rfl Try.call94 (cw_num b _ _ _ _ hp1 hu1 bx 16 (cOp x).toArray T fz x.v16 (by omega) rfl (by (try simp only [List.map_cons, List.map_nil, List.length_append]); omega)) [0, 0] [0] rfl rfl ?_
     rintro v post ⟨rfl, p1, u1, hp1, hu1, rfl⟩
     show G _ _ _ [_, _, _, _] _
     refine Zg ?_
     refine Zd (l := [0, 1, 2, 3, 4]) rfl ?_
     refine Za rfl rfl rfl rfl (Zc rfl rfl) ?_
     refine Za rfl rfl rfl rfl (Zc rfl rfl) ?_
     refine Za rfl rfl rfl rfl (Ze rfl rfl) ?_
     refine Za rfl rfl rfl rfl (Zb (fo := 17) rfl Try.underlying137 rfl i_23 rfl rfl rfl) ?_
     refine Yh (L2 := [_, _]) rfl rfl rfl rfl rfl rfl Try.call94 (cw_num b _ _ _ _ hp1 hu1 bx 17 (cOp x).toArray T fz x.v17 (by omega) rfl (by (try simp only [List.map_cons, List.map_nil, List.length_append]); omega)) [0, 0] [0] rfl rfl ?_
     rintro v post ⟨rfl, p1, u1, hp1, hu1, rfl⟩
     show G _ _ _ [_, _, _, _] _
     refine Zg ?_
     refine G_end (post := [_, _]) Try.func98 rfl Zo [0, 0] rfl ?_
     dsimp only [packed]
     refine ⟨rfl, p1, u1, hp1, ?_, ?_⟩
     · simpa only [encOp, List.map_cons, List.map_nil, List.append_assoc] using hu1
     · simp only [encOp, badOp, List.map_cons, List.map_nil, List.append_assoc, Bool.or_assoc]


def histL (x : Hr) : List Int := [x.v1, x.v2, x.v3, x.v4, x.v5, x.v6, x.v7, x.v8, x.v9, x.v10, x.v11, x.v12, x.v13, x.v14, x.v15, x.v16]
theorem hist_at {x : Hr} {i : Nat} {y : Int} (h : (histL x)[i]? = some y) : (cHr x).toArray[1 + i * 1]? = some (.int .i64 y) := by
  have : (cHr x).toArray[1 + i * 1]? = ((histL x).map fun z => Value.int .i64 z)[i]? := by
    rw [Nat.mul_one, Nat.add_comm, List.getElem?_toArray]; exact List.getElem?_cons_succ
  rw [this, List.getElem?_map, h]; rfl
theorem encIs_one {l : List Int} {i : Nat} {y : Int} (h : l[i]? = some y) : encIs (l.take i) ++ encI y = encIs (l.take (i + 1)) := by
  obtain ⟨hi, rfl⟩ := List.getElem?_eq_some_iff.1 h
  rw [List.take_succ_eq_append_getElem hi]; unfold encIs; rw [List.flatMap_append]; exact congrArg _ (by simp)
theorem encIs_le (l : List Int) (i : Nat) : (encIs (l.take i)).length ≤ (encIs l).length := by
  have : encIs l = encIs (l.take i) ++ encIs (l.drop i) := by unfold encIs; rw [← List.flatMap_append, List.take_append_drop]
  rw [this, List.length_append]; omega
theorem anyI_one {l : List Int} {i : Nat} {y : Int} (h : l[i]? = some y) : ((l.take i).any badI || badI y) = (l.take (i + 1)).any badI := by
  obtain ⟨hi, rfl⟩ := List.getElem?_eq_some_iff.1 h
  rw [List.take_succ_eq_append_getElem hi, List.any_append]; simp
theorem encHr_eq (x : Hr) : encHr x = encTs [x.v0] ++ encIs (histL x) := rfl
theorem badHr_eq (x : Hr) : badHr x = ([x.v0].any badT || (histL x).any badI) := rfl
theorem histL_len (x : Hr) : (histL x).length = 16 := rfl
attribute [irreducible] histL

set_option maxRecDepth 100000 in
set_option maxHeartbeats 1000000 in
theorem cw_row (b : Nat) (p : Value) (u : Sl) (tx : List UInt8) (w : Bool) (hp : UsedOr b p) (hu : Txt u tx) (bx : Nat) (x : Hr) (T : TypeId) (fz : Nat × Nat) (hx : OkHr x) (hl : tx.length + (encHr x).length ≤ 140737488350000) :
    Ct Try.prog 106 [.pointer (some ⟨b, 0, none⟩), .pointer (some ⟨bx, 0, none⟩)] [(some bx, .cells (cHr x).toArray T fz)] [(some b, .cells #[p, u.v (tx).length, .pointer none, .bool w] 80 (0, 0)), (u.ob, .cells u.cs 5 u.fz)] fun v post => v = .tuple #[] ∧ ∃ p1 u1, UsedOr b p1 ∧ Txt u1 (tx ++ encHr x) ∧ post = [(some b, .cells #[p1, u1.v (tx ++ encHr x).length, .pointer none, .bool (w || badHr x)] 80 (0, 0)), (u1.ob, .cells u1.cs 5 u1.fz)] := by
 have hl_ := hl
 rw [encHr_eq, List.length_append] at hl_
 have hhl := histL_len x
 refine Yv Try.func106 rfl rfl (fun w0 => ?_)
 show G _ _ [(0, _), (1, _)] _ _
 refine Zi ?_
 refine Zd (l := [0, 1, 2, 3, 4, 5]) rfl ?_
 refine Za rfl rfl rfl rfl (Zc rfl rfl) ?_
 refine Za rfl rfl rfl rfl (Zc rfl rfl) ?_
 refine Za rfl rfl rfl rfl (Ze rfl rfl) ?_
 refine Za rfl rfl rfl rfl (Zb (fo := 0) rfl Try.underlying141 rfl i_9 rfl rfl rfl) ?_
 refine Yr rfl rfl rfl rfl (Zn (s := 1) (cs := [_]) rfl Try.underlying278 i_244 rfl rfl rfl rfl rfl rfl rfl rfl rfl) (fun b9 => ?_)
 refine Yh (L2 := [_]) rfl rfl rfl rfl rfl rfl Try.call142 (cw_textsL b _ _ _ _ hp hu _ _ bx (cHr x).toArray T fz [(0, x.v0)] (by simp) ⟨rfl, trivial⟩ (by (try simp only [List.map_cons, List.map_nil, List.length_append]); omega)) [1, 1] [1, 0] rfl rfl ?_
 rintro v post ⟨rfl, p1, u1, hp1, hu1, rfl⟩
 show G _ _ _ [_, _, _] _
 refine Zg ?_
 refine Zi ?_
 refine Zd (l := [0]) rfl ?_
 refine Za rfl rfl rfl rfl (Zc rfl rfl) ?_
 refine Zg ?_
 refine Zp ?_
 refine Yc ?he2 [0, 0] ?hl2 (Xc (X := Nat × Value × Sl × List UInt8 × Bool) (fun x_ => match x_ with | ⟨i, p, u, t, v⟩ => i ≤ 16 ∧ UsedOr b p ∧ Txt u t ∧ t = tx ++ (encTs [x.v0] ++ encIs ((histL x).take i)) ∧ v = (w || ([x.v0].any badT || ((histL x).take i).any badI))) (fun x_ => match x_ with | ⟨i, p, u, t, v⟩ => 16 - i) (fun x_ => match x_ with | ⟨i, p, u, t, v⟩ => [(0, .pointer (some ⟨b, 0, none⟩)), (1, .pointer (some ⟨bx, 0, none⟩)), (11, .int .i64 (i : Int))]) (fun x_ => match x_ with | ⟨i, p, u, t, v⟩ => [(some b, .cells #[p, u.v (t).length, .pointer none, .bool v] 80 (0, 0)), (u.ob, .cells u.cs 5 u.fz)]) ?round2 (0, p1, u1, tx ++ encTs [x.v0], w || [x.v0].any badT) ?h02)
 case he2 => exact (And.intro rfl (And.intro rfl (And.intro rfl trivial)))
 case hl2 => exact ⟨_, rfl⟩
 case h02 => exact ⟨Nat.zero_le _, hp1, hu1, by simp [encIs], by simp⟩
 case round2 =>
  intro x_ hJ ih
  try dsimp only at hJ ih
  obtain ⟨i, p, u, t, v⟩ := x_
  try dsimp only at hJ ih
  obtain ⟨hi, hp, hu, ht, hv⟩ := hJ
  show G _ _ [(0, .pointer (some ⟨b, 0, none⟩)), (1, .pointer (some ⟨bx, 0, none⟩)), (11, .int .i64 (i : Int))] [(some b, .cells #[p, u.v (t).length, .pointer none, .bool v] 80 (0, 0)), (u.ob, .cells u.cs 5 u.fz)] _
  refine Zi ?_
  refine Zd (l := [0]) rfl ?_
  refine Za rfl rfl rfl rfl (Xh rfl rfl rfl) ?_
  refine Zg ?_
  refine Zi ?_
  refine Yl rfl (fun hc1 => ?_) (fun hc1 => ?_)
  ·
   refine Zu ?_
   refine Zi ?_
   refine Zp ?_
   refine Zi ?_
   refine Zd (l := [0, 1]) rfl ?_
   refine Za rfl rfl rfl rfl (Zc rfl rfl) ?_
   refine Za rfl rfl rfl rfl (Zk rfl rfl) ?_
   refine Zg ?_
   obtain ⟨y, hy⟩ := Xv (show i < (histL x).length by omega)
   have hfl := encIs_le (histL x) (i + 1)
   rw [← encIs_one hy, List.length_append] at hfl
   have htl := congrArg List.length ht
   simp only [List.length_append] at htl
   have hey : encIs [y] = encI y := by simp [encIs]
   refine Zd (l := [0, 1, 2, 3, 4, 5, 6, 7]) rfl ?_
   refine Za rfl rfl rfl rfl (Zc rfl rfl) ?_
   refine Za rfl rfl rfl rfl (Zc rfl rfl) ?_
   refine Za rfl rfl rfl rfl (Zc rfl rfl) ?_
   refine Za rfl rfl rfl rfl (Ze rfl rfl) ?_
   refine Za rfl rfl rfl rfl (Zb (fo := 1) rfl Try.underlying141 rfl i_139 rfl rfl rfl) ?_
   refine Za rfl rfl rfl rfl (V_aindexAddr rfl Try.underlying139 i_3 rfl rfl rfl (by omega) (by omega)) ?_
   refine Yr rfl rfl rfl rfl (Zn (s := 1) (cs := [_]) rfl Try.underlying241 i_176 rfl rfl rfl rfl rfl rfl rfl rfl rfl) (fun b20 => ?_)
   refine Yh (L2 := [_]) rfl rfl rfl rfl rfl rfl Try.call96 (cw_intsL b _ _ _ _ hp hu _ _ bx (cHr x).toArray T fz [(1 + i * 1, y)] (by simp) ⟨hist_at hy, trivial⟩ (by (try simp only [List.map_cons, List.map_nil, List.length_append]); rw [hey]; omega)) [1, 1] [1, 0] rfl rfl ?_
   rintro v post ⟨rfl, p1, u1, hp1, hu1, rfl⟩
   show G _ _ _ [_, _, _] _
   refine Zg ?_
   refine Zs ?_
   refine Zd (l := [0, 1]) rfl ?_
   refine Za rfl rfl rfl rfl ((Yu rfl rfl rfl).int (Zv (by omega))) ?_
   refine Za rfl rfl rfl rfl (Zc rfl rfl) ?_
   refine Zg ?_
   refine Yc ?_ [0, 0] ?_ (ih (i + 1, p1, u1, t ++ encIs [y], v || [y].any badI) ?_ ?_)
   · (refine (And.intro ?_ (And.intro ?_ (And.intro ?_ trivial))) <;> first | rfl | exact Zm (by omega) | exact Zm (by simp))
   · exact ⟨_, rfl⟩
   · exact ⟨by omega, hp1, hu1, by rw [← encIs_one hy, ht, hey]; simp only [List.append_assoc], by rw [hv, ← anyI_one hy]; simp [Bool.or_assoc]⟩
   · (first | omega | (dsimp only; omega))
  refine Yx rfl ?_
  refine G_end (post := [_, _]) Try.func106 rfl Zo [0, 0] rfl ?_
  dsimp only [packed]
  have e : (histL x).take i = histL x := List.take_of_length_le (by omega)
  rw [e, ← encHr_eq] at ht
  rw [e, ← badHr_eq] at hv
  subst ht hv
  exact ⟨rfl, p, u, hp, hu, rfl⟩

end
end Go.Proofs.Ytjnaeoelnmhjfaa

set_option linter.unusedSimpArgs false
set_option linter.unusedVariables false
namespace Go.Proofs.Ytjnaeoelnmhjfaa
open Go Go.RowKit

section
theorem i_92 : Try.prog.info? 92 = some Try.t92 := by kernel_rfl
theorem i_95 : Try.prog.info? 95 = some Try.t95 := by kernel_rfl
theorem i_137 : Try.prog.info? 137 = some Try.t137 := by kernel_rfl
theorem i_141 : Try.prog.info? 141 = some Try.t141 := by kernel_rfl
theorem i_143 : Try.prog.info? 143 = some Try.t143 := by kernel_rfl
theorem i_145 : Try.prog.info? 145 = some Try.t145 := by kernel_rfl
theorem i_262 : Try.prog.info? 262 = some Try.t262 := by kernel_rfl


def encL {α : Type} (f : α → List UInt8) (l : List α) : List UInt8 := chainI (l.length : Int) ++ l.flatMap f
def badL {α : Type} (f : α → Bool) (l : List α) : Bool := decide (1000 < (l.length : Int)) || l.any f
theorem Yw {α : Type} (f : α → List UInt8) {l : List α} {i : Nat} {y : α} (h : l[i]? = some y) : (l.take i).flatMap f ++ f y = (l.take (i + 1)).flatMap f := by
  obtain ⟨hi, rfl⟩ := List.getElem?_eq_some_iff.1 h
  rw [List.take_succ_eq_append_getElem hi, List.flatMap_append]; exact congrArg _ (by simp)
theorem fmap_len {α : Type} (f : α → List UInt8) (l : List α) (i : Nat) : ((l.take i).flatMap f).length ≤ (l.flatMap f).length := by
  have : l.flatMap f = (l.take i).flatMap f ++ (l.drop i).flatMap f := by rw [← List.flatMap_append, List.take_append_drop]
  rw [this, List.length_append]; omega
theorem Xx {α : Type} {f : α → Bool} {l : List α} {i : Nat} {y : α} (h : l[i]? = some y) : ((l.take i).any f || f y) = (l.take (i + 1)).any f := by
  obtain ⟨hi, rfl⟩ := List.getElem?_eq_some_iff.1 h
  rw [List.take_succ_eq_append_getElem hi, List.any_append]; simp

set_option maxRecDepth 100000 in
set_option maxHeartbeats 1000000 in
theorem cw_listIt (b : Nat) (p : Value) (u : Sl) (tx : List UInt8) (w : Bool) (hp : UsedOr b p) (hu : Txt u tx) (bx k : Nat) (cs : Array Value) (T : TypeId) (fz : Nat × Nat) (s : Ins It) (hs : InsOk 2 cIt s) (hok : ∀ x ∈ s.l, OkIt x) (hk : cs[k]? = some (.slice s.p s.l.length s.cap)) (hl : tx.length + (encL encIt s.l).length ≤ 140737488350000) :
    Ct Try.prog 178 [.pointer (some ⟨b, 0, none⟩), .pointer (some ⟨bx, k, none⟩), .func (.func 179) #[.pointer (some ⟨b, 0, none⟩)] #[]] [(some bx, .cells cs T fz), (s.ob, .cells s.cs s.T s.fr)] [(some b, .cells #[p, u.v (tx).length, .pointer none, .bool w] 80 (0, 0)), (u.ob, .cells u.cs 5 u.fz)] fun v post => v = .tuple #[] ∧ ∃ p1 u1, UsedOr b p1 ∧ Txt u1 (tx ++ encL encIt s.l) ∧ post = [(some b, .cells #[p1, u1.v (tx ++ encL encIt s.l).length, .pointer none, .bool (w || badL badIt s.l)] 80 (0, 0)), (u1.ob, .cells u1.cs 5 u1.fz)] := by
 have hl1 := hs.le
 have hl2 := hs.max
 have hln := hs.n
 have hcl := chainI_len (s.l.length : Int) (by omega) (by omega)
 have hl_ := hl
 unfold encL at hl_
 simp only [List.length_append] at hl_
 refine Yv Try.func178 rfl rfl (fun w0 => ?_)
 show G _ _ [(0, _), (1, _), (2, _)] _ _
 refine Zi ?_
 refine Zi ?_
 refine Zd (l := [0, 1, 2, 3, 4]) rfl ?_
 refine Za rfl rfl rfl rfl (Zc rfl rfl) ?_
 refine Za rfl rfl rfl rfl (Ze rfl rfl) ?_
 refine Za rfl rfl rfl rfl (Zb (fo := 2) rfl Try.underlying80 rfl i_74 rfl rfl rfl) ?_
 refine Za rfl rfl rfl rfl (Zj rfl rfl (Zf 2 rfl) rfl Try.underlying74 rfl) ?_
 refine Za rfl rfl rfl rfl (V_peqlN rfl Try.underlying74 rfl rfl) ?_
 refine Zg ?_
 refine G_then rfl ?_
 refine Zi ?_
 refine Zd (l := [0, 1, 2, 3, 4, 5, 6, 7, 8, 9, 10, 11, 12, 13, 14]) rfl ?_
 refine Za rfl rfl rfl rfl (Zc rfl rfl) ?_
 refine Za rfl rfl rfl rfl (Zc rfl rfl) ?_
 refine Za rfl rfl rfl rfl (Ze rfl rfl) ?_
 refine Za rfl rfl rfl rfl (Zb (fo := 3) rfl Try.underlying80 rfl i_4 rfl rfl rfl) ?_
 refine Za rfl rfl rfl rfl (Zj rfl rfl (Zf 2 rfl) rfl Try.underlying4 rfl) ?_
 refine Za rfl rfl rfl rfl (Zc rfl rfl) ?_
 refine G_split 19 rfl (fun hc1 => ?_) (fun hc1 => ?_)
 ·
  refine Zt rfl rfl rfl rfl ?_
  refine Zt rfl rfl rfl rfl ?_
  refine Zt rfl rfl rfl rfl ?_
  refine Zt rfl rfl rfl rfl ?_
  refine Zt rfl rfl rfl rfl ?_
  refine Za rfl rfl rfl rfl (Yk rfl rfl rfl) ?_
  refine Za rfl rfl rfl rfl (Ze rfl rfl) ?_
  refine Za rfl rfl rfl rfl (Zb (fo := 3) rfl Try.underlying80 rfl i_4 rfl rfl rfl) ?_
  refine Xl (l1 := []) (L' := [_, _]) rfl rfl rfl rfl (Zq rfl rfl rfl (Zf 0 rfl) (by first | exact of_decide_eq_true rfl | omega | (simp [cOp, cWk, cIv, cHr, cLt, cWt, cIt]; done) | (simp [cOp, cWk, cIv, cHr, cLt, cWt, cIt]; omega) | (simp [cOp, cWk, cIv, cHr, cLt, cWt, cIt] at *; omega)) i_4 rfl rfl) rfl ?_
  refine Zg ?_
  refine Zi ?_
  refine Ya (Lq := []) (isq := []) (m := 10) Ym rfl rfl ?_
  refine Zh 0 rfl rfl rfl rfl (by kernel_rfl) (fun _ _ => Zc rfl rfl) ?_
  refine Zh 1 rfl rfl rfl rfl (by kernel_rfl) (fun _ _ => Ze rfl rfl) ?_
  refine Zh 2 rfl rfl rfl rfl (by kernel_rfl) (fun _ _ => Zb (fo := 0) rfl Try.underlying80 rfl i_78 rfl rfl rfl) ?_
  refine Zh 3 rfl rfl rfl rfl (by kernel_rfl) (fun _ _ => Zc rfl rfl) ?_
  refine Zh 4 rfl rfl rfl rfl (by kernel_rfl) (fun _ _ => Ze rfl rfl) ?_
  refine Zh 5 rfl rfl rfl rfl (by kernel_rfl) (fun _ _ => Zj rfl rfl (Zf 0 rfl) (Zr hk) Try.underlying215 rfl) ?_
  refine Zh 6 rfl rfl rfl rfl (by kernel_rfl) (fun _ _ => Yf rfl rfl Try.underlying215 rfl) ?_
  refine Zh 7 rfl rfl rfl rfl (by kernel_rfl) (fun _ _ => (V_conv rfl rfl Try.underlying3 Try.underlying23).int (Xs (by omega))) ?_
  refine GH_all [8] (by kernel_rfl) (by decide) ?_
  refine (And.intro ?_ trivial)
  ·
   refine Zz (L2 := [_, _]) rfl rfl rfl rfl rfl rfl Try.call80 (Xw _ (by omega) (by omega)) [] [] rfl rfl [] (by rintro v post ⟨rfl, rfl⟩; exact ⟨_, rfl⟩) ?_
   rintro v post ⟨rfl, rfl⟩
   show GH _ _ _ _ _ _ _ [_, _] _
   refine GH_all [9] (by kernel_rfl) (by decide) ?_
   refine (And.intro ?_ trivial)
   ·
    refine Zz (L2 := []) rfl rfl rfl rfl rfl rfl Try.call79 (Xo _ _ _ _ _ _ _ hp hu (by omega)) [0, 0] [] rfl rfl [] (by rintro v post ⟨rfl, u1, hu1, rfl⟩; exact ⟨_, rfl⟩) ?_
    rintro v post ⟨rfl, u1, hu1, rfl⟩
    show GH _ _ _ _ _ _ _ [_, _] _
    refine Zw (by kernel_rfl) ?_
    refine Zi ?_
    refine Zi ?_
    refine Zd (l := [0, 1, 2, 3, 4]) rfl ?_
    refine Za rfl rfl rfl rfl (Zc rfl rfl) ?_
    refine Za rfl rfl rfl rfl (Ze rfl rfl) ?_
    refine Za rfl rfl rfl rfl (Zj rfl rfl (Zf 0 rfl) (Zr hk) Try.underlying215 rfl) ?_
    refine Za rfl rfl rfl rfl (Yf rfl rfl Try.underlying215 rfl) ?_
    refine Za rfl rfl rfl rfl (Zc rfl rfl) ?_
    refine Zg ?_
    refine Zp ?_
    refine Yc ?he4 [0, 0] ?hl4 (Xc (X := Nat × Value × Sl × List UInt8 × Bool) (fun x_ => match x_ with | ⟨i, p, u, t, v⟩ => i ≤ s.l.length ∧ UsedOr b p ∧ Txt u t ∧ t = tx ++ (chainI (s.l.length : Int) ++ (s.l.take i).flatMap encIt) ∧ v = (w || (decide (1000 < (s.l.length : Int)) || (s.l.take i).any badIt))) (fun x_ => match x_ with | ⟨i, p, u, t, v⟩ => s.l.length - i) (fun x_ => match x_ with | ⟨i, p, u, t, v⟩ => [(0, .pointer (some ⟨b, 0, none⟩)), (1, .pointer (some ⟨bx, k, none⟩)), (2, .func (.func 179) #[.pointer (some ⟨b, 0, none⟩)] #[]), (41, .int .i64 (s.l.length : Int)), (42, .int .i64 (i : Int))]) (fun x_ => match x_ with | ⟨i, p, u, t, v⟩ => [(some b, .cells #[p, u.v (t).length, .pointer none, .bool v] 80 (0, 0)), (u.ob, .cells u.cs 5 u.fz)]) ?round4 (0, .pointer (some ⟨b, 0, none⟩), u1, tx ++ chainI (s.l.length : Int), true) ?h04)
    case he4 => exact (And.intro rfl (And.intro rfl (And.intro rfl (And.intro rfl (And.intro rfl trivial)))))
    case hl4 => exact ⟨_, rfl⟩
    case h04 => exact ⟨Nat.zero_le _, .inr rfl, hu1, by simp, by simp [*]⟩
    case round4 =>
     intro x_ hJ ih
     try dsimp only at hJ ih
     obtain ⟨i, p, u, t, v⟩ := x_
     try dsimp only at hJ ih
     obtain ⟨hi, hp, hu, ht, hv⟩ := hJ
     show G _ _ [(0, .pointer (some ⟨b, 0, none⟩)), (1, .pointer (some ⟨bx, k, none⟩)), (2, .func (.func 179) #[.pointer (some ⟨b, 0, none⟩)] #[]), (41, .int .i64 (s.l.length : Int)), (42, .int .i64 (i : Int))] [(some b, .cells #[p, u.v (t).length, .pointer none, .bool v] 80 (0, 0)), (u.ob, .cells u.cs 5 u.fz)] _
     refine Zi ?_
     refine Zd (l := [0]) rfl ?_
     refine Za rfl rfl rfl rfl (Xh rfl rfl rfl) ?_
     refine Zg ?_
     refine Zi ?_
     refine Yl rfl (fun hc2 => ?_) (fun hc2 => ?_)
     ·
      refine Zu ?_
      refine Zi ?_
      refine Zp ?_
      refine Zi ?_
      refine Zd (l := [0, 1]) rfl ?_
      refine Za rfl rfl rfl rfl (Zc rfl rfl) ?_
      refine Za rfl rfl rfl rfl (Zk rfl rfl) ?_
      refine Zg ?_
      refine Zi ?_
      obtain ⟨x, hx⟩ := Xv (show i < s.l.length by omega)
      obtain ⟨bi, hb1, hb2, hss⟩ := hs.isS (i := i) (by omega)
      have hxo := hok x (List.mem_of_getElem? hx)
      have hfl := fmap_len encIt s.l (i + 1)
      rw [← Yw encIt hx, List.length_append] at hfl
      have htl := congrArg List.length ht
      simp only [List.length_append] at htl
      refine Zd (l := [0, 1, 2, 3, 4, 5, 6, 7]) rfl ?_
      refine Za rfl rfl rfl rfl (Zc rfl rfl) ?_
      refine Za rfl rfl rfl rfl (Ze rfl rfl) ?_
      refine Za rfl rfl rfl rfl (Zj rfl rfl (Zf 0 rfl) (Zr hk) Try.underlying215 rfl) ?_
      rw [hb1]
      refine Za rfl rfl rfl rfl (Zc rfl rfl) ?_
      refine Za rfl rfl rfl rfl (Zl (s := 2) rfl Try.underlying215 i_262 rfl rfl rfl rfl (by omega)) ?_
      refine Za rfl rfl rfl rfl (Xm (s := 2) (vs := (cIt x).toArray) rfl rfl (by rw [← hb2]; exact Zf 1 rfl) Try.underlying262 rfl i_262 rfl (hss.elem cIt_len hx) (by rfl)) ?_
      refine Yr rfl rfl rfl rfl (Xb rfl i_262 rfl) (fun b7 => ?_)
      refine Xl (l1 := []) (L' := [_, _, _]) rfl rfl rfl rfl (Xk (s := 2) rfl rfl rfl (Zf 0 rfl) (by rfl) i_262 rfl (by rfl) (by simp [Value.oneCell', cOp, cWk, cIv, cHr, cLt, cWt, cIt])) rfl ?_
      refine Zg ?_
      refine Zd (l := [0, 1]) rfl ?_
      refine Za rfl rfl rfl rfl (Zc rfl rfl) ?_
      refine G_callB (L2 := [_]) rfl rfl rfl rfl rfl rfl Try.call179 rfl (cw_item b _ _ _ _ hp hu _ x _ _ hxo (by omega)) [1, 1] [2] rfl rfl ?_
      rintro v post ⟨rfl, p1, u1, hp1, hu1, rfl⟩
      show G _ _ _ [_, _, _] _
      refine Zg ?_
      refine Zs ?_
      refine Zd (l := [0, 1]) rfl ?_
      refine Za rfl rfl rfl rfl ((Yu rfl rfl rfl).int (Zv (by omega))) ?_
      refine Za rfl rfl rfl rfl (Zc rfl rfl) ?_
      refine Zg ?_
      refine Yc ?_ [0, 0] ?_ (ih (i + 1, p1, u1, t ++ encIt x, v || badIt x) ?_ ?_)
      · (refine (And.intro ?_ (And.intro ?_ (And.intro ?_ (And.intro ?_ (And.intro ?_ trivial))))) <;> first | rfl | exact Zm (by omega) | exact Zm (by simp))
      · exact ⟨_, rfl⟩
      · exact ⟨by omega, hp1, hu1, by rw [← Yw encIt hx, ht]; simp only [List.append_assoc], by rw [hv, ← Xx hx]; simp only [Bool.or_assoc]⟩
      · (first | omega | (dsimp only; omega))
     refine Yx rfl ?_
     refine Xa (post := [_, _]) Try.func178 rfl Zo [0, 0] rfl ?_
     dsimp only [packed]
     have e : s.l.take i = s.l := List.take_of_length_le (by omega)
     rw [e] at ht hv
     subst ht hv
     exact ⟨rfl, p, u, hp, hu, rfl⟩
 refine Za rfl rfl rfl rfl (Zc rfl rfl) ?_
 refine Za rfl rfl rfl rfl (Ze rfl rfl) ?_
 refine Za rfl rfl rfl rfl (Zj rfl rfl (Zf 0 rfl) (Zr hk) Try.underlying215 rfl) ?_
 refine Za rfl rfl rfl rfl (Yf rfl rfl Try.underlying215 rfl) ?_
 refine Za rfl rfl rfl rfl (V_gtr rfl rfl rfl) ?_
 refine Za rfl rfl rfl rfl (Xu rfl rfl rfl) ?_
 refine Za rfl rfl rfl rfl (Ze rfl rfl) ?_
 refine Za rfl rfl rfl rfl (Zb (fo := 3) rfl Try.underlying80 rfl i_4 rfl rfl rfl) ?_
 refine Xl (l1 := []) (L' := [_, _]) rfl rfl rfl rfl (Zq rfl rfl rfl (Zf 0 rfl) (by first | exact of_decide_eq_true rfl | omega | (simp [cOp, cWk, cIv, cHr, cLt, cWt, cIt]; done) | (simp [cOp, cWk, cIv, cHr, cLt, cWt, cIt]; omega) | (simp [cOp, cWk, cIv, cHr, cLt, cWt, cIt] at *; omega)) i_4 rfl rfl) rfl ?_
 refine Zg ?_
 refine Zi ?_
 refine Ya (Lq := []) (isq := []) (m := 10) Ym rfl rfl ?_
 refine Zh 0 rfl rfl rfl rfl (by kernel_rfl) (fun _ _ => Zc rfl rfl) ?_
 refine Zh 1 rfl rfl rfl rfl (by kernel_rfl) (fun _ _ => Ze rfl rfl) ?_
 refine Zh 2 rfl rfl rfl rfl (by kernel_rfl) (fun _ _ => Zb (fo := 0) rfl Try.underlying80 rfl i_78 rfl rfl rfl) ?_
 refine Zh 3 rfl rfl rfl rfl (by kernel_rfl) (fun _ _ => Zc rfl rfl) ?_
 refine Zh 4 rfl rfl rfl rfl (by kernel_rfl) (fun _ _ => Ze rfl rfl) ?_
 refine Zh 5 rfl rfl rfl rfl (by kernel_rfl) (fun _ _ => Zj rfl rfl (Zf 0 rfl) (Zr hk) Try.underlying215 rfl) ?_
 refine Zh 6 rfl rfl rfl rfl (by kernel_rfl) (fun _ _ => Yf rfl rfl Try.underlying215 rfl) ?_
 refine Zh 7 rfl rfl rfl rfl (by kernel_rfl) (fun _ _ => (V_conv rfl rfl Try.underlying3 Try.underlying23).int (Xs (by omega))) ?_
 refine GH_all [8] (by kernel_rfl) (by decide) ?_
 refine (And.intro ?_ trivial)
 ·
  refine Zz (L2 := [_, _]) rfl rfl rfl rfl rfl rfl Try.call80 (Xw _ (by omega) (by omega)) [] [] rfl rfl [] (by rintro v post ⟨rfl, rfl⟩; exact ⟨_, rfl⟩) ?_
  rintro v post ⟨rfl, rfl⟩
  show GH _ _ _ _ _ _ _ [_, _] _
  refine GH_all [9] (by kernel_rfl) (by decide) ?_
  refine (And.intro ?_ trivial)
  ·
   refine Zz (L2 := []) rfl rfl rfl rfl rfl rfl Try.call79 (Xo _ _ _ _ _ _ _ hp hu (by omega)) [0, 0] [] rfl rfl [] (by rintro v post ⟨rfl, u1, hu1, rfl⟩; exact ⟨_, rfl⟩) ?_
   rintro v post ⟨rfl, u1, hu1, rfl⟩
   show GH _ _ _ _ _ _ _ [_, _] _
   refine Zw (by kernel_rfl) ?_
   refine Zi ?_
   refine Zi ?_
   refine Zd (l := [0, 1, 2, 3, 4]) rfl ?_
   refine Za rfl rfl rfl rfl (Zc rfl rfl) ?_
   refine Za rfl rfl rfl rfl (Ze rfl rfl) ?_
   refine Za rfl rfl rfl rfl (Zj rfl rfl (Zf 0 rfl) (Zr hk) Try.underlying215 rfl) ?_
   refine Za rfl rfl rfl rfl (Yf rfl rfl Try.underlying215 rfl) ?_
   refine Za rfl rfl rfl rfl (Zc rfl rfl) ?_
   refine Zg ?_
   refine Zp ?_
   refine Yc ?he4 [0, 0] ?hl4 (Xc (X := Nat × Value × Sl × List UInt8 × Bool) (fun x_ => match x_ with | ⟨i, p, u, t, v⟩ => i ≤ s.l.length ∧ UsedOr b p ∧ Txt u t ∧ t = tx ++ (chainI (s.l.length : Int) ++ (s.l.take i).flatMap encIt) ∧ v = (w || (decide (1000 < (s.l.length : Int)) || (s.l.take i).any badIt))) (fun x_ => match x_ with | ⟨i, p, u, t, v⟩ => s.l.length - i) (fun x_ => match x_ with | ⟨i, p, u, t, v⟩ => [(0, .pointer (some ⟨b, 0, none⟩)), (1, .pointer (some ⟨bx, k, none⟩)), (2, .func (.func 179) #[.pointer (some ⟨b, 0, none⟩)] #[]), (41, .int .i64 (s.l.length : Int)), (42, .int .i64 (i : Int))]) (fun x_ => match x_ with | ⟨i, p, u, t, v⟩ => [(some b, .cells #[p, u.v (t).length, .pointer none, .bool v] 80 (0, 0)), (u.ob, .cells u.cs 5 u.fz)]) ?round4 (0, .pointer (some ⟨b, 0, none⟩), u1, tx ++ chainI (s.l.length : Int), (decide (1000 < (s.l.length : Int)))) ?h04)
   case he4 => exact (And.intro rfl (And.intro rfl (And.intro rfl (And.intro rfl (And.intro rfl trivial)))))
   case hl4 => exact ⟨_, rfl⟩
   case h04 => exact ⟨Nat.zero_le _, .inr rfl, hu1, by simp, by simp [*]⟩
   case round4 =>
    intro x_ hJ ih
    try dsimp only at hJ ih
    obtain ⟨i, p, u, t, v⟩ := x_
    try dsimp only at hJ ih
    obtain ⟨hi, hp, hu, ht, hv⟩ := hJ
    show G _ _ [(0, .pointer (some ⟨b, 0, none⟩)), (1, .pointer (some ⟨bx, k, none⟩)), (2, .func (.func 179) #[.pointer (some ⟨b, 0, none⟩)] #[]), (41, .int .i64 (s.l.length : Int)), (42, .int .i64 (i : Int))] [(some b, .cells #[p, u.v (t).length, .pointer none, .bool v] 80 (0, 0)), (u.ob, .cells u.cs 5 u.fz)] _
    refine Zi ?_
    refine Zd (l := [0]) rfl ?_
    refine Za rfl rfl rfl rfl (Xh rfl rfl rfl) ?_
    refine Zg ?_
    refine Zi ?_
    refine Yl rfl (fun hc2 => ?_) (fun hc2 => ?_)
    ·
     refine Zu ?_
     refine Zi ?_
     refine Zp ?_
     refine Zi ?_
     refine Zd (l := [0, 1]) rfl ?_
     refine Za rfl rfl rfl rfl (Zc rfl rfl) ?_
     refine Za rfl rfl rfl rfl (Zk rfl rfl) ?_
     refine Zg ?_
     refine Zi ?_
     obtain ⟨x, hx⟩ := Xv (show i < s.l.length by omega)
     obtain ⟨bi, hb1, hb2, hss⟩ := hs.isS (i := i) (by omega)
     have hxo := hok x (List.mem_of_getElem? hx)
     have hfl := fmap_len encIt s.l (i + 1)
     rw [← Yw encIt hx, List.length_append] at hfl
     have htl := congrArg List.length ht
     simp only [List.length_append] at htl
     refine Zd (l := [0, 1, 2, 3, 4, 5, 6, 7]) rfl ?_
     refine Za rfl rfl rfl rfl (Zc rfl rfl) ?_
     refine Za rfl rfl rfl rfl (Ze rfl rfl) ?_
     refine Za rfl rfl rfl rfl (Zj rfl rfl (Zf 0 rfl) (Zr hk) Try.underlying215 rfl) ?_
     rw [hb1]
     refine Za rfl rfl rfl rfl (Zc rfl rfl) ?_
     refine Za rfl rfl rfl rfl (Zl (s := 2) rfl Try.underlying215 i_262 rfl rfl rfl rfl (by omega)) ?_
     refine Za rfl rfl rfl rfl (Xm (s := 2) (vs := (cIt x).toArray) rfl rfl (by rw [← hb2]; exact Zf 1 rfl) Try.underlying262 rfl i_262 rfl (hss.elem cIt_len hx) (by rfl)) ?_
     refine Yr rfl rfl rfl rfl (Xb rfl i_262 rfl) (fun b7 => ?_)
     refine Xl (l1 := []) (L' := [_, _, _]) rfl rfl rfl rfl (Xk (s := 2) rfl rfl rfl (Zf 0 rfl) (by rfl) i_262 rfl (by rfl) (by simp [Value.oneCell', cOp, cWk, cIv, cHr, cLt, cWt, cIt])) rfl ?_
     refine Zg ?_
     refine Zd (l := [0, 1]) rfl ?_
     refine Za rfl rfl rfl rfl (Zc rfl rfl) ?_
     refine G_callB (L2 := [_]) rfl rfl rfl rfl rfl rfl Try.call179 rfl (cw_item b _ _ _ _ hp hu _ x _ _ hxo (by omega)) [1, 1] [2] rfl rfl ?_
     rintro v post ⟨rfl, p1, u1, hp1, hu1, rfl⟩
     show G _ _ _ [_, _, _] _
     refine Zg ?_
     refine Zs ?_
     refine Zd (l := [0, 1]) rfl ?_
     refine Za rfl rfl rfl rfl ((Yu rfl rfl rfl).int (Zv (by omega))) ?_
     refine Za rfl rfl rfl rfl (Zc rfl rfl) ?_
     refine Zg ?_
     refine Yc ?_ [0, 0] ?_ (ih (i + 1, p1, u1, t ++ encIt x, v || badIt x) ?_ ?_)
     · (refine (And.intro ?_ (And.intro ?_ (And.intro ?_ (And.intro ?_ (And.intro ?_ trivial))))) <;> first | rfl | exact Zm (by omega) | exact Zm (by simp))
     · exact ⟨_, rfl⟩
     · exact ⟨by omega, hp1, hu1, by rw [← Yw encIt hx, ht]; simp only [List.append_assoc], by rw [hv, ← Xx hx]; simp only [Bool.or_assoc]⟩
     · (first | omega | (dsimp only; omega))
    refine Yx rfl ?_
    refine Xa (post := [_, _]) Try.func178 rfl Zo [0, 0] rfl ?_
    dsimp only [packed]
    have e : s.l.take i = s.l := List.take_of_length_le (by omega)
    rw [e] at ht hv
    subst ht hv
    exact ⟨rfl, p, u, hp, hu, rfl⟩

set_option maxRecDepth 100000 in
set_option maxHeartbeats 1000000 in
theorem cw_listOp (b : Nat) (p : Value) (u : Sl) (tx : List UInt8) (w : Bool) (hp : UsedOr b p) (hu : Txt u tx) (bx k : Nat) (cs : Array Value) (T : TypeId) (fz : Nat × Nat) (s : Ins Op) (hs : InsOk 18 cOp s) (hok : ∀ x ∈ s.l, OkOp x) (hk : cs[k]? = some (.slice s.p s.l.length s.cap)) (hl : tx.length + (encL encOp s.l).length ≤ 140737488350000) :
    Ct Try.prog 97 [.pointer (some ⟨b, 0, none⟩), .pointer (some ⟨bx, k, none⟩), .func (.func 98) #[.pointer (some ⟨b, 0, none⟩)] #[]] [(some bx, .cells cs T fz), (s.ob, .cells s.cs s.T s.fr)] [(some b, .cells #[p, u.v (tx).length, .pointer none, .bool w] 80 (0, 0)), (u.ob, .cells u.cs 5 u.fz)] fun v post => v = .tuple #[] ∧ ∃ p1 u1, UsedOr b p1 ∧ Txt u1 (tx ++ encL encOp s.l) ∧ post = [(some b, .cells #[p1, u1.v (tx ++ encL encOp s.l).length, .pointer none, .bool (w || badL badOp s.l)] 80 (0, 0)), (u1.ob, .cells u1.cs 5 u1.fz)] := by
 have hl1 := hs.le
 have hl2 := hs.max
 have hln := hs.n
 have hcl := chainI_len (s.l.length : Int) (by omega) (by omega)
 have hl_ := hl
 unfold encL at hl_
 simp only [List.length_append] at hl_
 refine Yv Try.func97 rfl rfl (fun w0 => ?_)
 show G _ _ [(0, _), (1, _), (2, _)] _ _
 refine Zi ?_
 refine Zi ?_
 refine Zd (l := [0, 1, 2, 3, 4]) rfl ?_
 refine Za rfl rfl rfl rfl (Zc rfl rfl) ?_
 refine Za rfl rfl rfl rfl (Ze rfl rfl) ?_
 refine Za rfl rfl rfl rfl (Zb (fo := 2) rfl Try.underlying80 rfl i_74 rfl rfl rfl) ?_
 refine Za rfl rfl rfl rfl (Zj rfl rfl (Zf 2 rfl) rfl Try.underlying74 rfl) ?_
 refine Za rfl rfl rfl rfl (V_peqlN rfl Try.underlying74 rfl rfl) ?_
 refine Zg ?_
 refine G_then rfl ?_
 refine Zi ?_
 refine Zd (l := [0, 1, 2, 3, 4, 5, 6, 7, 8, 9, 10, 11, 12, 13, 14]) rfl ?_
 refine Za rfl rfl rfl rfl (Zc rfl rfl) ?_
 refine Za rfl rfl rfl rfl (Zc rfl rfl) ?_
 refine Za rfl rfl rfl rfl (Ze rfl rfl) ?_
 refine Za rfl rfl rfl rfl (Zb (fo := 3) rfl Try.underlying80 rfl i_4 rfl rfl rfl) ?_
 refine Za rfl rfl rfl rfl (Zj rfl rfl (Zf 2 rfl) rfl Try.underlying4 rfl) ?_
 refine Za rfl rfl rfl rfl (Zc rfl rfl) ?_
 refine G_split 19 rfl (fun hc1 => ?_) (fun hc1 => ?_)
 ·
  refine Zt rfl rfl rfl rfl ?_
  refine Zt rfl rfl rfl rfl ?_
  refine Zt rfl rfl rfl rfl ?_
  refine Zt rfl rfl rfl rfl ?_
  refine Zt rfl rfl rfl rfl ?_
  refine Za rfl rfl rfl rfl (Yk rfl rfl rfl) ?_
  refine Za rfl rfl rfl rfl (Ze rfl rfl) ?_
  refine Za rfl rfl rfl rfl (Zb (fo := 3) rfl Try.underlying80 rfl i_4 rfl rfl rfl) ?_
  refine Xl (l1 := []) (L' := [_, _]) rfl rfl rfl rfl (Zq rfl rfl rfl (Zf 0 rfl) (by first | exact of_decide_eq_true rfl | omega | (simp [cOp, cWk, cIv, cHr, cLt, cWt, cIt]; done) | (simp [cOp, cWk, cIv, cHr, cLt, cWt, cIt]; omega) | (simp [cOp, cWk, cIv, cHr, cLt, cWt, cIt] at *; omega)) i_4 rfl rfl) rfl ?_
  refine Zg ?_
  refine Zi ?_
  refine Ya (Lq := []) (isq := []) (m := 10) Ym rfl rfl ?_
  refine Zh 0 rfl rfl rfl rfl (by kernel_rfl) (fun _ _ => Zc rfl rfl) ?_
  refine Zh 1 rfl rfl rfl rfl (by kernel_rfl) (fun _ _ => Ze rfl rfl) ?_
  refine Zh 2 rfl rfl rfl rfl (by kernel_rfl) (fun _ _ => Zb (fo := 0) rfl Try.underlying80 rfl i_78 rfl rfl rfl) ?_
  refine Zh 3 rfl rfl rfl rfl (by kernel_rfl) (fun _ _ => Zc rfl rfl) ?_
  refine Zh 4 rfl rfl rfl rfl (by kernel_rfl) (fun _ _ => Ze rfl rfl) ?_
  refine Zh 5 rfl rfl rfl rfl (by kernel_rfl) (fun _ _ => Zj rfl rfl (Zf 0 rfl) (Zr hk) Try.underlying24 rfl) ?_
  refine Zh 6 rfl rfl rfl rfl (by kernel_rfl) (fun _ _ => Yf rfl rfl Try.underlying24 rfl) ?_
  refine Zh 7 rfl rfl rfl rfl (by kernel_rfl) (fun _ _ => (V_conv rfl rfl Try.underlying3 Try.underlying23).int (Xs (by omega))) ?_
  refine GH_all [8] (by kernel_rfl) (by decide) ?_
  refine (And.intro ?_ trivial)
  ·
   refine Zz (L2 := [_, _]) rfl rfl rfl rfl rfl rfl Try.call80 (Xw _ (by omega) (by omega)) [] [] rfl rfl [] (by rintro v post ⟨rfl, rfl⟩; exact ⟨_, rfl⟩) ?_
   rintro v post ⟨rfl, rfl⟩
   show GH _ _ _ _ _ _ _ [_, _] _
   refine GH_all [9] (by kernel_rfl) (by decide) ?_
   refine (And.intro ?_ trivial)
   ·
    refine Zz (L2 := []) rfl rfl rfl rfl rfl rfl Try.call79 (Xo _ _ _ _ _ _ _ hp hu (by omega)) [0, 0] [] rfl rfl [] (by rintro v post ⟨rfl, u1, hu1, rfl⟩; exact ⟨_, rfl⟩) ?_
    rintro v post ⟨rfl, u1, hu1, rfl⟩
    show GH _ _ _ _ _ _ _ [_, _] _
    refine Zw (by kernel_rfl) ?_
    refine Zi ?_
    refine Zi ?_
    refine Zd (l := [0, 1, 2, 3, 4]) rfl ?_
    refine Za rfl rfl rfl rfl (Zc rfl rfl) ?_
    refine Za rfl rfl rfl rfl (Ze rfl rfl) ?_
    refine Za rfl rfl rfl rfl (Zj rfl rfl (Zf 0 rfl) (Zr hk) Try.underlying24 rfl) ?_
    refine Za rfl rfl rfl rfl (Yf rfl rfl Try.underlying24 rfl) ?_
    refine Za rfl rfl rfl rfl (Zc rfl rfl) ?_
    refine Zg ?_
    refine Zp ?_
    refine Yc ?he4 [0, 0] ?hl4 (Xc (X := Nat × Value × Sl × List UInt8 × Bool) (fun x_ => match x_ with | ⟨i, p, u, t, v⟩ => i ≤ s.l.length ∧ UsedOr b p ∧ Txt u t ∧ t = tx ++ (chainI (s.l.length : Int) ++ (s.l.take i).flatMap encOp) ∧ v = (w || (decide (1000 < (s.l.length : Int)) || (s.l.take i).any badOp))) (fun x_ => match x_ with | ⟨i, p, u, t, v⟩ => s.l.length - i) (fun x_ => match x_ with | ⟨i, p, u, t, v⟩ => [(0, .pointer (some ⟨b, 0, none⟩)), (1, .pointer (some ⟨bx, k, none⟩)), (2, .func (.func 98) #[.pointer (some ⟨b, 0, none⟩)] #[]), (41, .int .i64 (s.l.length : Int)), (42, .int .i64 (i : Int))]) (fun x_ => match x_ with | ⟨i, p, u, t, v⟩ => [(some b, .cells #[p, u.v (t).length, .pointer none, .bool v] 80 (0, 0)), (u.ob, .cells u.cs 5 u.fz)]) ?round4 (0, .pointer (some ⟨b, 0, none⟩), u1, tx ++ chainI (s.l.length : Int), true) ?h04)
    case he4 => exact (And.intro rfl (And.intro rfl (And.intro rfl (And.intro rfl (And.intro rfl trivial)))))
    case hl4 => exact ⟨_, rfl⟩
    case h04 => exact ⟨Nat.zero_le _, .inr rfl, hu1, by simp, by simp [*]⟩
    case round4 =>
     intro x_ hJ ih
     try dsimp only at hJ ih
     obtain ⟨i, p, u, t, v⟩ := x_
     try dsimp only at hJ ih
     obtain ⟨hi, hp, hu, ht, hv⟩ := hJ
     show G _ _ [(0, .pointer (some ⟨b, 0, none⟩)), (1, .pointer (some ⟨bx, k, none⟩)), (2, .func (.func 98) #[.pointer (some ⟨b, 0, none⟩)] #[]), (41, .int .i64 (s.l.length : Int)), (42, .int .i64 (i : Int))] [(some b, .cells #[p, u.v (t).length, .pointer none, .bool v] 80 (0, 0)), (u.ob, .cells u.cs 5 u.fz)] _
     refine Zi ?_
     refine Zd (l := [0]) rfl ?_
     refine Za rfl rfl rfl rfl (Xh rfl rfl rfl) ?_
     refine Zg ?_
     refine Zi ?_
     refine Yl rfl (fun hc2 => ?_) (fun hc2 => ?_)
     ·
      refine Zu ?_
      refine Zi ?_
      refine Zp ?_
      refine Zi ?_
      refine Zd (l := [0, 1]) rfl ?_
      refine Za rfl rfl rfl rfl (Zc rfl rfl) ?_
      refine Za rfl rfl rfl rfl (Zk rfl rfl) ?_
      refine Zg ?_
      refine Zi ?_
      obtain ⟨x, hx⟩ := Xv (show i < s.l.length by omega)
      obtain ⟨bi, hb1, hb2, hss⟩ := hs.isS (i := i) (by omega)
      have hxo := hok x (List.mem_of_getElem? hx)
      have hfl := fmap_len encOp s.l (i + 1)
      rw [← Yw encOp hx, List.length_append] at hfl
      have htl := congrArg List.length ht
      simp only [List.length_append] at htl
      refine Zd (l := [0, 1, 2, 3, 4, 5, 6, 7]) rfl ?_
      refine Za rfl rfl rfl rfl (Zc rfl rfl) ?_
      refine Za rfl rfl rfl rfl (Ze rfl rfl) ?_
      refine Za rfl rfl rfl rfl (Zj rfl rfl (Zf 0 rfl) (Zr hk) Try.underlying24 rfl) ?_
      rw [hb1]
      refine Za rfl rfl rfl rfl (Zc rfl rfl) ?_
      refine Za rfl rfl rfl rfl (Zl (s := 18) rfl Try.underlying24 i_137 rfl rfl rfl rfl (by omega)) ?_
      refine Za rfl rfl rfl rfl (Xm (s := 18) (vs := (cOp x).toArray) rfl rfl (by rw [← hb2]; exact Zf 1 rfl) Try.underlying137 rfl i_137 rfl (hss.elem cOp_len hx) (by rfl)) ?_
      refine Yr rfl rfl rfl rfl (Xb rfl i_137 rfl) (fun b7 => ?_)
      refine Xl (l1 := []) (L' := [_, _, _]) rfl rfl rfl rfl (Xk (s := 18) rfl rfl rfl (Zf 0 rfl) (by rfl) i_137 rfl (by rfl) (by simp [Value.oneCell', cOp, cWk, cIv, cHr, cLt, cWt, cIt])) rfl ?_
      refine Zg ?_
      refine Zd (l := [0, 1]) rfl ?_
      refine Za rfl rfl rfl rfl (Zc rfl rfl) ?_
      refine G_callB (L2 := [_]) rfl rfl rfl rfl rfl rfl Try.call98 rfl (cw_op b _ _ _ _ hp hu _ x _ _ hxo (by omega)) [1, 1] [2] rfl rfl ?_
      rintro v post ⟨rfl, p1, u1, hp1, hu1, rfl⟩
      show G _ _ _ [_, _, _] _
      refine Zg ?_
      refine Zs ?_
      refine Zd (l := [0, 1]) rfl ?_
      refine Za rfl rfl rfl rfl ((Yu rfl rfl rfl).int (Zv (by omega))) ?_
      refine Za rfl rfl rfl rfl (Zc rfl rfl) ?_
      refine Zg ?_
      refine Yc ?_ [0, 0] ?_ (ih (i + 1, p1, u1, t ++ encOp x, v || badOp x) ?_ ?_)
      · (refine (And.intro ?_ (And.intro ?_ (And.intro ?_ (And.intro ?_ (And.intro ?_ trivial))))) <;> first | rfl | exact Zm (by omega) | exact Zm (by simp))
      · exact ⟨_, rfl⟩
      · exact ⟨by omega, hp1, hu1, by rw [← Yw encOp hx, ht]; simp only [List.append_assoc], by rw [hv, ← Xx hx]; simp only [Bool.or_assoc]⟩
      · (first | omega | (dsimp only; omega))
     refine Yx rfl ?_
     refine Xa (post := [_, _]) Try.func97 rfl Zo [0, 0] rfl ?_
     dsimp only [packed]
     have e : s.l.take i = s.l := List.take_of_length_le (by omega)
     rw [e] at ht hv
     subst ht hv
     exact ⟨rfl, p, u, hp, hu, rfl⟩
 refine Za rfl rfl rfl rfl (Zc rfl rfl) ?_
 refine Za rfl rfl rfl rfl (Ze rfl rfl) ?_
 refine Za rfl rfl rfl rfl (Zj rfl rfl (Zf 0 rfl) (Zr hk) Try.underlying24 rfl) ?_
 refine Za rfl rfl rfl rfl (Yf rfl rfl Try.underlying24 rfl) ?_
 refine Za rfl rfl rfl rfl (V_gtr rfl rfl rfl) ?_
 refine Za rfl rfl rfl rfl (Xu rfl rfl rfl) ?_
 refine Za rfl rfl rfl rfl (Ze rfl rfl) ?_
 refine Za rfl rfl rfl rfl (Zb (fo := 3) rfl Try.underlying80 rfl i_4 rfl rfl rfl) ?_
 refine Xl (l1 := []) (L' := [_, _]) rfl rfl rfl rfl (Zq rfl rfl rfl (Zf 0 rfl) (by first | exact of_decide_eq_true rfl | omega | (simp [cOp, cWk, cIv, cHr, cLt, cWt, cIt]; done) | (simp [cOp, cWk, cIv, cHr, cLt, cWt, cIt]; omega) | (simp [cOp, cWk, cIv, cHr, cLt, cWt, cIt] at *; omega)) i_4 rfl rfl) rfl ?_
 refine Zg ?_
 refine Zi ?_
 refine Ya (Lq := []) (isq := []) (m := 10) Ym rfl rfl ?_
 refine Zh 0 rfl rfl rfl rfl (by kernel_rfl) (fun _ _ => Zc rfl rfl) ?_
 refine Zh 1 rfl rfl rfl rfl (by kernel_rfl) (fun _ _ => Ze rfl rfl) ?_
 refine Zh 2 rfl rfl rfl rfl (by kernel_rfl) (fun _ _ => Zb (fo := 0) rfl Try.underlying80 rfl i_78 rfl rfl rfl) ?_
 refine Zh 3 rfl rfl rfl rfl (by kernel_rfl) (fun _ _ => Zc rfl rfl) ?_
 refine Zh 4 rfl rfl rfl rfl (by kernel_rfl) (fun _ _ => Ze rfl rfl) ?_
 refine Zh 5 rfl rfl rfl rfl (by kernel_rfl) (fun _ _ => Zj rfl rfl (Zf 0 rfl) (Zr hk) Try.underlying24 rfl) ?_
 refine Zh 6 rfl rfl rfl rfl (by kernel_rfl) (fun _ _ => Yf rfl rfl Try.underlying24 rfl) ?_
 refine Zh 7 rfl rfl rfl rfl (by kernel_rfl) (fun _ _ => (V_conv rfl rfl Try.underlying3 Try.underlying23).int (Xs (by omega))) ?_
 refine GH_all [8] (by kernel_rfl) (by decide) ?_
 refine (And.intro ?_ trivial)
 ·
  refine Zz (L2 := [_, _]) rfl rfl rfl rfl rfl rfl Try.call80 (Xw _ (by omega) (by omega)) [] [] rfl rfl [] (by rintro v post ⟨rfl, rfl⟩; exact ⟨_, rfl⟩) ?_
  rintro v post ⟨rfl, rfl⟩
  show GH _ _ _ _ _ _ _ [_, _] _
  refine GH_all [9] (by kernel_rfl) (by decide) ?_
  refine (And.intro ?_ trivial)
  ·
   refine Zz (L2 := []) rfl rfl rfl rfl rfl rfl Try.call79 (Xo _ _ _ _ _ _ _ hp hu (by omega)) [0, 0] [] rfl rfl [] (by rintro v post ⟨rfl, u1, hu1, rfl⟩; exact ⟨_, rfl⟩) ?_
   rintro v post ⟨rfl, u1, hu1, rfl⟩
   show GH _ _ _ _ _ _ _ [_, _] _
   refine Zw (by kernel_rfl) ?_
   refine Zi ?_
   refine Zi ?_
   refine Zd (l := [0, 1, 2, 3, 4]) rfl ?_
   refine Za rfl rfl rfl rfl (Zc rfl rfl) ?_
   refine Za rfl rfl rfl rfl (Ze rfl rfl) ?_
   refine Za rfl rfl rfl rfl (Zj rfl rfl (Zf 0 rfl) (Zr hk) Try.underlying24 rfl) ?_
   refine Za rfl rfl rfl rfl (Yf rfl rfl Try.underlying24 rfl) ?_
   refine Za rfl rfl rfl rfl (Zc rfl rfl) ?_
   refine Zg ?_
   refine Zp ?_
   refine Yc ?he4 [0, 0] ?hl4 (Xc (X := Nat × Value × Sl × List UInt8 × Bool) (fun x_ => match x_ with | ⟨i, p, u, t, v⟩ => i ≤ s.l.length ∧ UsedOr b p ∧ Txt u t ∧ t = tx ++ (chainI (s.l.length : Int) ++ (s.l.take i).flatMap encOp) ∧ v = (w || (decide (1000 < (s.l.length : Int)) || (s.l.take i).any badOp))) (fun x_ => match x_ with | ⟨i, p, u, t, v⟩ => s.l.length - i) (fun x_ => match x_ with | ⟨i, p, u, t, v⟩ => [(0, .pointer (some ⟨b, 0, none⟩)), (1, .pointer (some ⟨bx, k, none⟩)), (2, .func (.func 98) #[.pointer (some ⟨b, 0, none⟩)] #[]), (41, .int .i64 (s.l.length : Int)), (42, .int .i64 (i : Int))]) (fun x_ => match x_ with | ⟨i, p, u, t, v⟩ => [(some b, .cells #[p, u.v (t).length, .pointer none, .bool v] 80 (0, 0)), (u.ob, .cells u.cs 5 u.fz)]) ?round4 (0, .pointer (some ⟨b, 0, none⟩), u1, tx ++ chainI (s.l.length : Int), (decide (1000 < (s.l.length : Int)))) ?h04)
   case he4 => exact (And.intro rfl (And.intro rfl (And.intro rfl (And.intro rfl (And.intro rfl trivial)))))
   case hl4 => exact ⟨_, rfl⟩
   case h04 => exact ⟨Nat.zero_le _, .inr rfl, hu1, by simp, by simp [*]⟩
   case round4 =>
    intro x_ hJ ih
    try dsimp only at hJ ih
    obtain ⟨i, p, u, t, v⟩ := x_
    try dsimp only at hJ ih
    obtain ⟨hi, hp, hu, ht, hv⟩ := hJ
    show G _ _ [(0, .pointer (some ⟨b, 0, none⟩)), (1, .pointer (some ⟨bx, k, none⟩)), (2, .func (.func 98) #[.pointer (some ⟨b, 0, none⟩)] #[]), (41, .int .i64 (s.l.length : Int)), (42, .int .i64 (i : Int))] [(some b, .cells #[p, u.v (t).length, .pointer none, .bool v] 80 (0, 0)), (u.ob, .cells u.cs 5 u.fz)] _
    refine Zi ?_
    refine Zd (l := [0]) rfl ?_
    refine Za rfl rfl rfl rfl (Xh rfl rfl rfl) ?_
    refine Zg ?_
    refine Zi ?_
    refine Yl rfl (fun hc2 => ?_) (fun hc2 => ?_)
    ·
     refine Zu ?_
     refine Zi ?_
     refine Zp ?_
     refine Zi ?_
     refine Zd (l := [0, 1]) rfl ?_
     refine Za rfl rfl rfl rfl (Zc rfl rfl) ?_
     refine Za rfl rfl rfl rfl (Zk rfl rfl) ?_
     refine Zg ?_
     refine Zi ?_
     obtain ⟨x, hx⟩ := Xv (show i < s.l.length by omega)
     obtain ⟨bi, hb1, hb2, hss⟩ := hs.isS (i := i) (by omega)
     have hxo := hok x (List.mem_of_getElem? hx)
     have hfl := fmap_len encOp s.l (i + 1)
     rw [← Yw encOp hx, List.length_append] at hfl
     have htl := congrArg List.length ht
     simp only [List.length_append] at htl
     refine Zd (l := [0, 1, 2, 3, 4, 5, 6, 7]) rfl ?_
     refine Za rfl rfl rfl rfl (Zc rfl rfl) ?_
     refine Za rfl rfl rfl rfl (Ze rfl rfl) ?_
     refine Za rfl rfl rfl rfl (Zj rfl rfl (Zf 0 rfl) (Zr hk) Try.underlying24 rfl) ?_
     rw [hb1]
     refine Za rfl rfl rfl rfl (Zc rfl rfl) ?_
     refine Za rfl rfl rfl rfl (Zl (s := 18) rfl Try.underlying24 i_137 rfl rfl rfl rfl (by omega)) ?_
     refine Za rfl rfl rfl rfl (Xm (s := 18) (vs := (cOp x).toArray) rfl rfl (by rw [← hb2]; exact Zf 1 rfl) Try.underlying137 rfl i_137 rfl (hss.elem cOp_len hx) (by rfl)) ?_
     refine Yr rfl rfl rfl rfl (Xb rfl i_137 rfl) (fun b7 => ?_)
     refine Xl (l1 := []) (L' := [_, _, _]) rfl rfl rfl rfl (Xk (s := 18) rfl rfl rfl (Zf 0 rfl) (by rfl) i_137 rfl (by rfl) (by simp [Value.oneCell', cOp, cWk, cIv, cHr, cLt, cWt, cIt])) rfl ?_
     refine Zg ?_
     refine Zd (l := [0, 1]) rfl ?_
     refine Za rfl rfl rfl rfl (Zc rfl rfl) ?_
     refine G_callB (L2 := [_]) rfl rfl rfl rfl rfl rfl Try.call98 rfl (cw_op b _ _ _ _ hp hu _ x _ _ hxo (by omega)) [1, 1] [2] rfl rfl ?_
     rintro v post ⟨rfl, p1, u1, hp1, hu1, rfl⟩
     show G _ _ _ [_, _, _] _
     refine Zg ?_
     refine Zs ?_
     refine Zd (l := [0, 1]) rfl ?_
     refine Za rfl rfl rfl rfl ((Yu rfl rfl rfl).int (Zv (by omega))) ?_
     refine Za rfl rfl rfl rfl (Zc rfl rfl) ?_
     refine Zg ?_
     refine Yc ?_ [0, 0] ?_ (ih (i + 1, p1, u1, t ++ encOp x, v || badOp x) ?_ ?_)
     · (refine (And.intro ?_ (And.intro ?_ (And.intro ?_ (And.intro ?_ (And.intro ?_ trivial))))) <;> first | rfl | exact Zm (by omega) | exact Zm (by simp))
     · exact ⟨_, rfl⟩
     · exact ⟨by omega, hp1, hu1, by rw [← Yw encOp hx, ht]; simp only [List.append_assoc], by rw [hv, ← Xx hx]; simp only [Bool.or_assoc]⟩
     · (first | omega | (dsimp only; omega))
    refine Yx rfl ?_
    refine Xa (post := [_, _]) Try.func97 rfl Zo [0, 0] rfl ?_
    dsimp only [packed]
    have e : s.l.take i = s.l := List.take_of_length_le (by omega)
    rw [e] at ht hv
    subst ht hv
    exact ⟨rfl, p, u, hp, hu, rfl⟩

set_option maxRecDepth 100000 in
set_option maxHeartbeats 1000000 in
theorem cw_listWk (b : Nat) (p : Value) (u : Sl) (tx : List UInt8) (w : Bool) (hp : UsedOr b p) (hu : Txt u tx) (bx k : Nat) (cs : Array Value) (T : TypeId) (fz : Nat × Nat) (s : Ins Wk) (hs : InsOk 7 cWk s) (hok : ∀ x ∈ s.l, OkWk x) (hk : cs[k]? = some (.slice s.p s.l.length s.cap)) (hl : tx.length + (encL encWk s.l).length ≤ 140737488350000) :
    Ct Try.prog 99 [.pointer (some ⟨b, 0, none⟩), .pointer (some ⟨bx, k, none⟩), .func (.func 100) #[.pointer (some ⟨b, 0, none⟩)] #[]] [(some bx, .cells cs T fz), (s.ob, .cells s.cs s.T s.fr)] [(some b, .cells #[p, u.v (tx).length, .pointer none, .bool w] 80 (0, 0)), (u.ob, .cells u.cs 5 u.fz)] fun v post => v = .tuple #[] ∧ ∃ p1 u1, UsedOr b p1 ∧ Txt u1 (tx ++ encL encWk s.l) ∧ post = [(some b, .cells #[p1, u1.v (tx ++ encL encWk s.l).length, .pointer none, .bool (w || badL badWk s.l)] 80 (0, 0)), (u1.ob, .cells u1.cs 5 u1.fz)] := by
 have hl1 := hs.le
 have hl2 := hs.max
 have hln := hs.n
 have hcl := chainI_len (s.l.length : Int) (by omega) (by omega)
 have hl_ := hl
 unfold encL at hl_
 simp only [List.length_append] at hl_
 refine Yv Try.func99 rfl rfl (fun w0 => ?_)
 show G _ _ [(0, _), (1, _), (2, _)] _ _
 refine Zi ?_
 refine Zi ?_
 refine Zd (l := [0, 1, 2, 3, 4]) rfl ?_
 refine Za rfl rfl rfl rfl (Zc rfl rfl) ?_
 refine Za rfl rfl rfl rfl (Ze rfl rfl) ?_
 refine Za rfl rfl rfl rfl (Zb (fo := 2) rfl Try.underlying80 rfl i_74 rfl rfl rfl) ?_
 refine Za rfl rfl rfl rfl (Zj rfl rfl (Zf 2 rfl) rfl Try.underlying74 rfl) ?_
 refine Za rfl rfl rfl rfl (V_peqlN rfl Try.underlying74 rfl rfl) ?_
 refine Zg ?_
 refine G_then rfl ?_
 refine Zi ?_
 refine Zd (l := [0, 1, 2, 3, 4, 5, 6, 7, 8, 9, 10, 11, 12, 13, 14]) rfl ?_
 refine Za rfl rfl rfl rfl (Zc rfl rfl) ?_
 refine Za rfl rfl rfl rfl (Zc rfl rfl) ?_
 refine Za rfl rfl rfl rfl (Ze rfl rfl) ?_
 refine Za rfl rfl rfl rfl (Zb (fo := 3) rfl Try.underlying80 rfl i_4 rfl rfl rfl) ?_
 refine Za rfl rfl rfl rfl (Zj rfl rfl (Zf 2 rfl) rfl Try.underlying4 rfl) ?_
 refine Za rfl rfl rfl rfl (Zc rfl rfl) ?_
 refine G_split 19 rfl (fun hc1 => ?_) (fun hc1 => ?_)
 ·
  refine Zt rfl rfl rfl rfl ?_
  refine Zt rfl rfl rfl rfl ?_
  refine Zt rfl rfl rfl rfl ?_
  refine Zt rfl rfl rfl rfl ?_
  refine Zt rfl rfl rfl rfl ?_
  refine Za rfl rfl rfl rfl (Yk rfl rfl rfl) ?_
  refine Za rfl rfl rfl rfl (Ze rfl rfl) ?_
  refine Za rfl rfl rfl rfl (Zb (fo := 3) rfl Try.underlying80 rfl i_4 rfl rfl rfl) ?_
  refine Xl (l1 := []) (L' := [_, _]) rfl rfl rfl rfl (Zq rfl rfl rfl (Zf 0 rfl) (by first | exact of_decide_eq_true rfl | omega | (simp [cOp, cWk, cIv, cHr, cLt, cWt, cIt]; done) | (simp [cOp, cWk, cIv, cHr, cLt, cWt, cIt]; omega) | (simp [cOp, cWk, cIv, cHr, cLt, cWt, cIt] at *; omega)) i_4 rfl rfl) rfl ?_
  refine Zg ?_
  refine Zi ?_
  refine Ya (Lq := []) (isq := []) (m := 10) Ym rfl rfl ?_
  refine Zh 0 rfl rfl rfl rfl (by kernel_rfl) (fun _ _ => Zc rfl rfl) ?_
  refine Zh 1 rfl rfl rfl rfl (by kernel_rfl) (fun _ _ => Ze rfl rfl) ?_
  refine Zh 2 rfl rfl rfl rfl (by kernel_rfl) (fun _ _ => Zb (fo := 0) rfl Try.underlying80 rfl i_78 rfl rfl rfl) ?_
  refine Zh 3 rfl rfl rfl rfl (by kernel_rfl) (fun _ _ => Zc rfl rfl) ?_
  refine Zh 4 rfl rfl rfl rfl (by kernel_rfl) (fun _ _ => Ze rfl rfl) ?_
  refine Zh 5 rfl rfl rfl rfl (by kernel_rfl) (fun _ _ => Zj rfl rfl (Zf 0 rfl) (Zr hk) Try.underlying25 rfl) ?_
  refine Zh 6 rfl rfl rfl rfl (by kernel_rfl) (fun _ _ => Yf rfl rfl Try.underlying25 rfl) ?_
  refine Zh 7 rfl rfl rfl rfl (by kernel_rfl) (fun _ _ => (V_conv rfl rfl Try.underlying3 Try.underlying23).int (Xs (by omega))) ?_
  refine GH_all [8] (by kernel_rfl) (by decide) ?_
  refine (And.intro ?_ trivial)
  ·
   refine Zz (L2 := [_, _]) rfl rfl rfl rfl rfl rfl Try.call80 (Xw _ (by omega) (by omega)) [] [] rfl rfl [] (by rintro v post ⟨rfl, rfl⟩; exact ⟨_, rfl⟩) ?_
   rintro v post ⟨rfl, rfl⟩
   show GH _ _ _ _ _ _ _ [_, _] _
   refine GH_all [9] (by kernel_rfl) (by decide) ?_
   refine (And.intro ?_ trivial)
   ·
    refine Zz (L2 := []) rfl rfl rfl rfl rfl rfl Try.call79 (Xo _ _ _ _ _ _ _ hp hu (by omega)) [0, 0] [] rfl rfl [] (by rintro v post ⟨rfl, u1, hu1, rfl⟩; exact ⟨_, rfl⟩) ?_
    rintro v post ⟨rfl, u1, hu1, rfl⟩
    show GH _ _ _ _ _ _ _ [_, _] _
    refine Zw (by kernel_rfl) ?_
    refine Zi ?_
    refine Zi ?_
    refine Zd (l := [0, 1, 2, 3, 4]) rfl ?_
    refine Za rfl rfl rfl rfl (Zc rfl rfl) ?_
    refine Za rfl rfl rfl rfl (Ze rfl rfl) ?_
    refine Za rfl rfl rfl rfl (Zj rfl rfl (Zf 0 rfl) (Zr hk) Try.underlying25 rfl) ?_
    refine Za rfl rfl rfl rfl (Yf rfl rfl Try.underlying25 rfl) ?_
    refine Za rfl rfl rfl rfl (Zc rfl rfl) ?_
    refine Zg ?_
    refine Zp ?_
    refine Yc ?he4 [0, 0] ?hl4 (Xc (X := Nat × Value × Sl × List UInt8 × Bool) (fun x_ => match x_ with | ⟨i, p, u, t, v⟩ => i ≤ s.l.length ∧ UsedOr b p ∧ Txt u t ∧ t = tx ++ (chainI (s.l.length : Int) ++ (s.l.take i).flatMap encWk) ∧ v = (w || (decide (1000 < (s.l.length : Int)) || (s.l.take i).any badWk))) (fun x_ => match x_ with | ⟨i, p, u, t, v⟩ => s.l.length - i) (fun x_ => match x_ with | ⟨i, p, u, t, v⟩ => [(0, .pointer (some ⟨b, 0, none⟩)), (1, .pointer (some ⟨bx, k, none⟩)), (2, .func (.func 100) #[.pointer (some ⟨b, 0, none⟩)] #[]), (41, .int .i64 (s.l.length : Int)), (42, .int .i64 (i : Int))]) (fun x_ => match x_ with | ⟨i, p, u, t, v⟩ => [(some b, .cells #[p, u.v (t).length, .pointer none, .bool v] 80 (0, 0)), (u.ob, .cells u.cs 5 u.fz)]) ?round4 (0, .pointer (some ⟨b, 0, none⟩), u1, tx ++ chainI (s.l.length : Int), true) ?h04)
    case he4 => exact (And.intro rfl (And.intro rfl (And.intro rfl (And.intro rfl (And.intro rfl trivial)))))
    case hl4 => exact ⟨_, rfl⟩
    case h04 => exact ⟨Nat.zero_le _, .inr rfl, hu1, by simp, by simp [*]⟩
    case round4 =>
     intro x_ hJ ih
     try dsimp only at hJ ih
     obtain ⟨i, p, u, t, v⟩ := x_
     try dsimp only at hJ ih
     obtain ⟨hi, hp, hu, ht, hv⟩ := hJ
     show G _ _ [(0, .pointer (some ⟨b, 0, none⟩)), (1, .pointer (some ⟨bx, k, none⟩)), (2, .func (.func 100) #[.pointer (some ⟨b, 0, none⟩)] #[]), (41, .int .i64 (s.l.length : Int)), (42, .int .i64 (i : Int))] [(some b, .cells #[p, u.v (t).length, .pointer none, .bool v] 80 (0, 0)), (u.ob, .cells u.cs 5 u.fz)] _
     refine Zi ?_
     refine Zd (l := [0]) rfl ?_
     refine Za rfl rfl rfl rfl (Xh rfl rfl rfl) ?_
     refine Zg ?_
     refine Zi ?_
     refine Yl rfl (fun hc2 => ?_) (fun hc2 => ?_)
     ·
      refine Zu ?_
      refine Zi ?_
      refine Zp ?_
      refine Zi ?_
      refine Zd (l := [0, 1]) rfl ?_
      refine Za rfl rfl rfl rfl (Zc rfl rfl) ?_
      refine Za rfl rfl rfl rfl (Zk rfl rfl) ?_
      refine Zg ?_
      refine Zi ?_
      obtain ⟨x, hx⟩ := Xv (show i < s.l.length by omega)
      obtain ⟨bi, hb1, hb2, hss⟩ := hs.isS (i := i) (by omega)
      have hxo := hok x (List.mem_of_getElem? hx)
      have hfl := fmap_len encWk s.l (i + 1)
      rw [← Yw encWk hx, List.length_append] at hfl
      have htl := congrArg List.length ht
      simp only [List.length_append] at htl
      refine Zd (l := [0, 1, 2, 3, 4, 5, 6, 7]) rfl ?_
      refine Za rfl rfl rfl rfl (Zc rfl rfl) ?_
      refine Za rfl rfl rfl rfl (Ze rfl rfl) ?_
      refine Za rfl rfl rfl rfl (Zj rfl rfl (Zf 0 rfl) (Zr hk) Try.underlying25 rfl) ?_
      rw [hb1]
      refine Za rfl rfl rfl rfl (Zc rfl rfl) ?_
      refine Za rfl rfl rfl rfl (Zl (s := 7) rfl Try.underlying25 i_92 rfl rfl rfl rfl (by omega)) ?_
      refine Za rfl rfl rfl rfl (Xm (s := 7) (vs := (cWk x).toArray) rfl rfl (by rw [← hb2]; exact Zf 1 rfl) Try.underlying92 rfl i_92 rfl (hss.elem cWk_len hx) (by rfl)) ?_
      refine Yr rfl rfl rfl rfl (Xb rfl i_92 rfl) (fun b7 => ?_)
      refine Xl (l1 := []) (L' := [_, _, _]) rfl rfl rfl rfl (Xk (s := 7) rfl rfl rfl (Zf 0 rfl) (by rfl) i_92 rfl (by rfl) (by simp [Value.oneCell', cOp, cWk, cIv, cHr, cLt, cWt, cIt])) rfl ?_
      refine Zg ?_
      refine Zd (l := [0, 1]) rfl ?_
      refine Za rfl rfl rfl rfl (Zc rfl rfl) ?_
      refine G_callB (L2 := [_]) rfl rfl rfl rfl rfl rfl Try.call100 rfl (cw_worker b _ _ _ _ hp hu _ x _ _ hxo (by omega)) [1, 1] [2] rfl rfl ?_
      rintro v post ⟨rfl, p1, u1, hp1, hu1, rfl⟩
      show G _ _ _ [_, _, _] _
      refine Zg ?_
      refine Zs ?_
      refine Zd (l := [0, 1]) rfl ?_
      refine Za rfl rfl rfl rfl ((Yu rfl rfl rfl).int (Zv (by omega))) ?_
      refine Za rfl rfl rfl rfl (Zc rfl rfl) ?_
      refine Zg ?_
      refine Yc ?_ [0, 0] ?_ (ih (i + 1, p1, u1, t ++ encWk x, v || badWk x) ?_ ?_)
      · (refine (And.intro ?_ (And.intro ?_ (And.intro ?_ (And.intro ?_ (And.intro ?_ trivial))))) <;> first | rfl | exact Zm (by omega) | exact Zm (by simp))
      · exact ⟨_, rfl⟩
      · exact ⟨by omega, hp1, hu1, by rw [← Yw encWk hx, ht]; simp only [List.append_assoc], by rw [hv, ← Xx hx]; simp only [Bool.or_assoc]⟩
      · (first | omega | (dsimp only; omega))
     refine Yx rfl ?_
     refine Xa (post := [_, _]) Try.func99 rfl Zo [0, 0] rfl ?_
     dsimp only [packed]
     have e : s.l.take i = s.l := List.take_of_length_le (by omega)
     rw [e] at ht hv
     subst ht hv
     exact ⟨rfl, p, u, hp, hu, rfl⟩
 refine Za rfl rfl rfl rfl (Zc rfl rfl) ?_
 refine Za rfl rfl rfl rfl (Ze rfl rfl) ?_
 refine Za rfl rfl rfl rfl (Zj rfl rfl (Zf 0 rfl) (Zr hk) Try.underlying25 rfl) ?_
 refine Za rfl rfl rfl rfl (Yf rfl rfl Try.underlying25 rfl) ?_
 refine Za rfl rfl rfl rfl (V_gtr rfl rfl rfl) ?_
 refine Za rfl rfl rfl rfl (Xu rfl rfl rfl) ?_
 refine Za rfl rfl rfl rfl (Ze rfl rfl) ?_
 refine Za rfl rfl rfl rfl (Zb (fo := 3) rfl Try.underlying80 rfl i_4 rfl rfl rfl) ?_
 refine Xl (l1 := []) (L' := [_, _]) rfl rfl rfl rfl (Zq rfl rfl rfl (Zf 0 rfl) (by first | exact of_decide_eq_true rfl | omega | (simp [cOp, cWk, cIv, cHr, cLt, cWt, cIt]; done) | (simp [cOp, cWk, cIv, cHr, cLt, cWt, cIt]; omega) | (simp [cOp, cWk, cIv, cHr, cLt, cWt, cIt] at *; omega)) i_4 rfl rfl) rfl ?_
 refine Zg ?_
 refine Zi ?_
 refine Ya (Lq := []) (isq := []) (m := 10) Ym rfl rfl ?_
 refine Zh 0 rfl rfl rfl rfl (by kernel_rfl) (fun _ _ => Zc rfl rfl) ?_
 refine Zh 1 rfl rfl rfl rfl (by kernel_rfl) (fun _ _ => Ze rfl rfl) ?_
 refine Zh 2 rfl rfl rfl rfl (by kernel_rfl) (fun _ _ => Zb (fo := 0) rfl Try.underlying80 rfl i_78 rfl rfl rfl) ?_
 refine Zh 3 rfl rfl rfl rfl (by kernel_rfl) (fun _ _ => Zc rfl rfl) ?_
 refine Zh 4 rfl rfl rfl rfl (by kernel_rfl) (fun _ _ => Ze rfl rfl) ?_
 refine Zh 5 rfl rfl rfl rfl (by kernel_rfl) (fun _ _ => Zj rfl rfl (Zf 0 rfl) (Zr hk) Try.underlying25 rfl) ?_
 refine Zh 6 rfl rfl rfl rfl (by kernel_rfl) (fun _ _ => Yf rfl rfl Try.underlying25 rfl) ?_
 refine Zh 7 rfl rfl rfl rfl (by kernel_rfl) (fun _ _ => (V_conv rfl rfl Try.underlying3 Try.underlying23).int (Xs (by omega))) ?_
 refine GH_all [8] (by kernel_rfl) (by decide) ?_
 refine (And.intro ?_ trivial)
 ·
  refine Zz (L2 := [_, _]) rfl rfl rfl rfl rfl rfl Try.call80 (Xw _ (by omega) (by omega)) [] [] rfl rfl [] (by rintro v post ⟨rfl, rfl⟩; exact ⟨_, rfl⟩) ?_
  rintro v post ⟨rfl, rfl⟩
  show GH _ _ _ _ _ _ _ [_, _] _
  refine GH_all [9] (by kernel_rfl) (by decide) ?_
  refine (And.intro ?_ trivial)
  ·
   refine Zz (L2 := []) rfl rfl rfl rfl rfl rfl Try.call79 (Xo _ _ _ _ _ _ _ hp hu (by omega)) [0, 0] [] rfl rfl [] (by rintro v post ⟨rfl, u1, hu1, rfl⟩; exact ⟨_, rfl⟩) ?_
   rintro v post ⟨rfl, u1, hu1, rfl⟩
   show GH _ _ _ _ _ _ _ [_, _] _
   refine Zw (by kernel_rfl) ?_
   refine Zi ?_
   refine Zi ?_
   refine Zd (l := [0, 1, 2, 3, 4]) rfl ?_
   refine Za rfl rfl rfl rfl (Zc rfl rfl) ?_
   refine Za rfl rfl rfl rfl (Ze rfl rfl) ?_
   refine Za rfl rfl rfl rfl (Zj rfl rfl (Zf 0 rfl) (Zr hk) Try.underlying25 rfl) ?_
   refine Za rfl rfl rfl rfl (Yf rfl rfl Try.underlying25 rfl) ?_
   refine Za rfl rfl rfl rfl (Zc rfl rfl) ?_
   refine Zg ?_
   refine Zp ?_
   refine Yc ?he4 [0, 0] ?hl4 (Xc (X := Nat × Value × Sl × List UInt8 × Bool) (fun x_ => match x_ with | ⟨i, p, u, t, v⟩ => i ≤ s.l.length ∧ UsedOr b p ∧ Txt u t ∧ t = tx ++ (chainI (s.l.length : Int) ++ (s.l.take i).flatMap encWk) ∧ v = (w || (decide (1000 < (s.l.length : Int)) || (s.l.take i).any badWk))) (fun x_ => match x_ with | ⟨i, p, u, t, v⟩ => s.l.length - i) (fun x_ => match x_ with | ⟨i, p, u, t, v⟩ => [(0, .pointer (some ⟨b, 0, none⟩)), (1, .pointer (some ⟨bx, k, none⟩)), (2, .func (.func 100) #[.pointer (some ⟨b, 0, none⟩)] #[]), (41, .int .i64 (s.l.length : Int)), (42, .int .i64 (i : Int))]) (fun x_ => match x_ with | ⟨i, p, u, t, v⟩ => [(some b, .cells #[p, u.v (t).length, .pointer none, .bool v] 80 (0, 0)), (u.ob, .cells u.cs 5 u.fz)]) ?round4 (0, .pointer (some ⟨b, 0, none⟩), u1, tx ++ chainI (s.l.length : Int), (decide (1000 < (s.l.length : Int)))) ?h04)
   case he4 => exact (And.intro rfl (And.intro rfl (And.intro rfl (And.intro rfl (And.intro rfl trivial)))))
   case hl4 => exact ⟨_, rfl⟩
   case h04 => exact ⟨Nat.zero_le _, .inr rfl, hu1, by simp, by simp [*]⟩
   case round4 =>
    intro x_ hJ ih
    try dsimp only at hJ ih
    obtain ⟨i, p, u, t, v⟩ := x_
    try dsimp only at hJ ih
    obtain ⟨hi, hp, hu, ht, hv⟩ := hJ
    show G _ _ [(0, .pointer (some ⟨b, 0, none⟩)), (1, .pointer (some ⟨bx, k, none⟩)), (2, .func (.func 100) #[.pointer (some ⟨b, 0, none⟩)] #[]), (41, .int .i64 (s.l.length : Int)), (42, .int .i64 (i : Int))] [(some b, .cells #[p, u.v (t).length, .pointer none, .bool v] 80 (0, 0)), (u.ob, .cells u.cs 5 u.fz)] _
    refine Zi ?_
    refine Zd (l := [0]) rfl ?_
    refine Za rfl rfl rfl rfl (Xh rfl rfl rfl) ?_
    refine Zg ?_
    refine Zi ?_
    refine Yl rfl (fun hc2 => ?_) (fun hc2 => ?_)
    ·
     refine Zu ?_
     refine Zi ?_
     refine Zp ?_
     refine Zi ?_
     refine Zd (l := [0, 1]) rfl ?_
     refine Za rfl rfl rfl rfl (Zc rfl rfl) ?_
     refine Za rfl rfl rfl rfl (Zk rfl rfl) ?_
     refine Zg ?_
     refine Zi ?_
     obtain ⟨x, hx⟩ := Xv (show i < s.l.length by omega)
     obtain ⟨bi, hb1, hb2, hss⟩ := hs.isS (i := i) (by omega)
     have hxo := hok x (List.mem_of_getElem? hx)
     have hfl := fmap_len encWk s.l (i + 1)
     rw [← Yw encWk hx, List.length_append] at hfl
     have htl := congrArg List.length ht
     simp only [List.length_append] at htl
     refine Zd (l := [0, 1, 2, 3, 4, 5, 6, 7]) rfl ?_
     refine Za rfl rfl rfl rfl (Zc rfl rfl) ?_
     refine Za rfl rfl rfl rfl (Ze rfl rfl) ?_
     refine Za rfl rfl rfl rfl (Zj rfl rfl (Zf 0 rfl) (Zr hk) Try.underlying25 rfl) ?_
     rw [hb1]
     refine Za rfl rfl rfl rfl (Zc rfl rfl) ?_
     refine Za rfl rfl rfl rfl (Zl (s := 7) rfl Try.underlying25 i_92 rfl rfl rfl rfl (by omega)) ?_
     refine Za rfl rfl rfl rfl (Xm (s := 7) (vs := (cWk x).toArray) rfl rfl (by rw [← hb2]; exact Zf 1 rfl) Try.underlying92 rfl i_92 rfl (hss.elem cWk_len hx) (by rfl)) ?_
     refine Yr rfl rfl rfl rfl (Xb rfl i_92 rfl) (fun b7 => ?_)
     refine Xl (l1 := []) (L' := [_, _, _]) rfl rfl rfl rfl (Xk (s := 7) rfl rfl rfl (Zf 0 rfl) (by rfl) i_92 rfl (by rfl) (by simp [Value.oneCell', cOp, cWk, cIv, cHr, cLt, cWt, cIt])) rfl ?_
     refine Zg ?_
     refine Zd (l := [0, 1]) rfl ?_
     refine Za rfl rfl rfl rfl (Zc rfl rfl) ?_
     refine G_callB (L2 := [_]) rfl rfl rfl rfl rfl rfl Try.call100 rfl (cw_worker b _ _ _ _ hp hu _ x _ _ hxo (by omega)) [1, 1] [2] rfl rfl ?_
     rintro v post ⟨rfl, p1, u1, hp1, hu1, rfl⟩
     show G _ _ _ [_, _, _] _
     refine Zg ?_
     refine Zs ?_
     refine Zd (l := [0, 1]) rfl ?_
     refine Za rfl rfl rfl rfl ((Yu rfl rfl rfl).int (Zv (by omega))) ?_
     refine Za rfl rfl rfl rfl (Zc rfl rfl) ?_
     refine Zg ?_
     refine Yc ?_ [0, 0] ?_ (ih (i + 1, p1, u1, t ++ encWk x, v || badWk x) ?_ ?_)
     · (refine (And.intro ?_ (And.intro ?_ (And.intro ?_ (And.intro ?_ (And.intro ?_ trivial))))) <;> first | rfl | exact Zm (by omega) | exact Zm (by simp))
     · exact ⟨_, rfl⟩
     · exact ⟨by omega, hp1, hu1, by rw [← Yw encWk hx, ht]; simp only [List.append_assoc], by rw [hv, ← Xx hx]; simp only [Bool.or_assoc]⟩
     · (first | omega | (dsimp only; omega))
    refine Yx rfl ?_
    refine Xa (post := [_, _]) Try.func99 rfl Zo [0, 0] rfl ?_
    dsimp only [packed]
    have e : s.l.take i = s.l := List.take_of_length_le (by omega)
    rw [e] at ht hv
    subst ht hv
    exact ⟨rfl, p, u, hp, hu, rfl⟩

set_option maxRecDepth 100000 in
set_option maxHeartbeats 1000000 in
theorem cw_listIv (b : Nat) (p : Value) (u : Sl) (tx : List UInt8) (w : Bool) (hp : UsedOr b p) (hu : Txt u tx) (bx k : Nat) (cs : Array Value) (T : TypeId) (fz : Nat × Nat) (s : Ins Iv) (hs : InsOk 5 cIv s) (hok : ∀ x ∈ s.l, OkIv x) (hk : cs[k]? = some (.slice s.p s.l.length s.cap)) (hl : tx.length + (encL encIv s.l).length ≤ 140737488350000) :
    Ct Try.prog 101 [.pointer (some ⟨b, 0, none⟩), .pointer (some ⟨bx, k, none⟩), .func (.func 102) #[.pointer (some ⟨b, 0, none⟩)] #[]] [(some bx, .cells cs T fz), (s.ob, .cells s.cs s.T s.fr)] [(some b, .cells #[p, u.v (tx).length, .pointer none, .bool w] 80 (0, 0)), (u.ob, .cells u.cs 5 u.fz)] fun v post => v = .tuple #[] ∧ ∃ p1 u1, UsedOr b p1 ∧ Txt u1 (tx ++ encL encIv s.l) ∧ post = [(some b, .cells #[p1, u1.v (tx ++ encL encIv s.l).length, .pointer none, .bool (w || badL badIv s.l)] 80 (0, 0)), (u1.ob, .cells u1.cs 5 u1.fz)] := by
 have hl1 := hs.le
 have hl2 := hs.max
 have hln := hs.n
 have hcl := chainI_len (s.l.length : Int) (by omega) (by omega)
 have hl_ := hl
 unfold encL at hl_
 simp only [List.length_append] at hl_
 refine Yv Try.func101 rfl rfl (fun w0 => ?_)
 show G _ _ [(0, _), (1, _), (2, _)] _ _
 refine Zi ?_
 refine Zi ?_
 refine Zd (l := [0, 1, 2, 3, 4]) rfl ?_
 refine Za rfl rfl rfl rfl (Zc rfl rfl) ?_
 refine Za rfl rfl rfl rfl (Ze rfl rfl) ?_
 refine Za rfl rfl rfl rfl (Zb (fo := 2) rfl Try.underlying80 rfl i_74 rfl rfl rfl) ?_
 refine Za rfl rfl rfl rfl (Zj rfl rfl (Zf 2 rfl) rfl Try.underlying74 rfl) ?_
 refine Za rfl rfl rfl rfl (V_peqlN rfl Try.underlying74 rfl rfl) ?_
 refine Zg ?_
 refine G_then rfl ?_
 refine Zi ?_
 refine Zd (l := [0, 1, 2, 3, 4, 5, 6, 7, 8, 9, 10, 11, 12, 13, 14]) rfl ?_
 refine Za rfl rfl rfl rfl (Zc rfl rfl) ?_
 refine Za rfl rfl rfl rfl (Zc rfl rfl) ?_
 refine Za rfl rfl rfl rfl (Ze rfl rfl) ?_
 refine Za rfl rfl rfl rfl (Zb (fo := 3) rfl Try.underlying80 rfl i_4 rfl rfl rfl) ?_
 refine Za rfl rfl rfl rfl (Zj rfl rfl (Zf 2 rfl) rfl Try.underlying4 rfl) ?_
 refine Za rfl rfl rfl rfl (Zc rfl rfl) ?_
 refine G_split 19 rfl (fun hc1 => ?_) (fun hc1 => ?_)
 ·
  refine Zt rfl rfl rfl rfl ?_
  refine Zt rfl rfl rfl rfl ?_
  refine Zt rfl rfl rfl rfl ?_
  refine Zt rfl rfl rfl rfl ?_
  refine Zt rfl rfl rfl rfl ?_
  refine Za rfl rfl rfl rfl (Yk rfl rfl rfl) ?_
  refine Za rfl rfl rfl rfl (Ze rfl rfl) ?_
  refine Za rfl rfl rfl rfl (Zb (fo := 3) rfl Try.underlying80 rfl i_4 rfl rfl rfl) ?_
  refine Xl (l1 := []) (L' := [_, _]) rfl rfl rfl rfl (Zq rfl rfl rfl (Zf 0 rfl) (by first | exact of_decide_eq_true rfl | omega | (simp [cOp, cWk, cIv, cHr, cLt, cWt, cIt]; done) | (simp [cOp, cWk, cIv, cHr, cLt, cWt, cIt]; omega) | (simp [cOp, cWk, cIv, cHr, cLt, cWt, cIt] at *; omega)) i_4 rfl rfl) rfl ?_
  refine Zg ?_
  refine Zi ?_
  refine Ya (Lq := []) (isq := []) (m := 10) Ym rfl rfl ?_
  refine Zh 0 rfl rfl rfl rfl (by kernel_rfl) (fun _ _ => Zc rfl rfl) ?_
  refine Zh 1 rfl rfl rfl rfl (by kernel_rfl) (fun _ _ => Ze rfl rfl) ?_
  refine Zh 2 rfl rfl rfl rfl (by kernel_rfl) (fun _ _ => Zb (fo := 0) rfl Try.underlying80 rfl i_78 rfl rfl rfl) ?_
  refine Zh 3 rfl rfl rfl rfl (by kernel_rfl) (fun _ _ => Zc rfl rfl) ?_
  refine Zh 4 rfl rfl rfl rfl (by kernel_rfl) (fun _ _ => Ze rfl rfl) ?_
  refine Zh 5 rfl rfl rfl rfl (by kernel_rfl) (fun _ _ => Zj rfl rfl (Zf 0 rfl) (Zr hk) Try.underlying26 rfl) ?_
  refine Zh 6 rfl rfl rfl rfl (by kernel_rfl) (fun _ _ => Yf rfl rfl Try.underlying26 rfl) ?_
  refine Zh 7 rfl rfl rfl rfl (by kernel_rfl) (fun _ _ => (V_conv rfl rfl Try.underlying3 Try.underlying23).int (Xs (by omega))) ?_
  refine GH_all [8] (by kernel_rfl) (by decide) ?_
  refine (And.intro ?_ trivial)
  ·
   refine Zz (L2 := [_, _]) rfl rfl rfl rfl rfl rfl Try.call80 (Xw _ (by omega) (by omega)) [] [] rfl rfl [] (by rintro v post ⟨rfl, rfl⟩; exact ⟨_, rfl⟩) ?_
   rintro v post ⟨rfl, rfl⟩
   show GH _ _ _ _ _ _ _ [_, _] _
   refine GH_all [9] (by kernel_rfl) (by decide) ?_
   refine (And.intro ?_ trivial)
   ·
    refine Zz (L2 := []) rfl rfl rfl rfl rfl rfl Try.call79 (Xo _ _ _ _ _ _ _ hp hu (by omega)) [0, 0] [] rfl rfl [] (by rintro v post ⟨rfl, u1, hu1, rfl⟩; exact ⟨_, rfl⟩) ?_
    rintro v post ⟨rfl, u1, hu1, rfl⟩
    show GH _ _ _ _ _ _ _ [_, _] _
    refine Zw (by kernel_rfl) ?_
    refine Zi ?_
    refine Zi ?_
    refine Zd (l := [0, 1, 2, 3, 4]) rfl ?_
    refine Za rfl rfl rfl rfl (Zc rfl rfl) ?_
    refine Za rfl rfl rfl rfl (Ze rfl rfl) ?_
    refine Za rfl rfl rfl rfl (Zj rfl rfl (Zf 0 rfl) (Zr hk) Try.underlying26 rfl) ?_
    refine Za rfl rfl rfl rfl (Yf rfl rfl Try.underlying26 rfl) ?_
    refine Za rfl rfl rfl rfl (Zc rfl rfl) ?_
    refine Zg ?_
    refine Zp ?_
    refine Yc ?he4 [0, 0] ?hl4 (Xc (X := Nat × Value × Sl × List UInt8 × Bool) (fun x_ => match x_ with | ⟨i, p, u, t, v⟩ => i ≤ s.l.length ∧ UsedOr b p ∧ Txt u t ∧ t = tx ++ (chainI (s.l.length : Int) ++ (s.l.take i).flatMap encIv) ∧ v = (w || (decide (1000 < (s.l.length : Int)) || (s.l.take i).any badIv))) (fun x_ => match x_ with | ⟨i, p, u, t, v⟩ => s.l.length - i) (fun x_ => match x_ with | ⟨i, p, u, t, v⟩ => [(0, .pointer (some ⟨b, 0, none⟩)), (1, .pointer (some ⟨bx, k, none⟩)), (2, .func (.func 102) #[.pointer (some ⟨b, 0, none⟩)] #[]), (41, .int .i64 (s.l.length : Int)), (42, .int .i64 (i : Int))]) (fun x_ => match x_ with | ⟨i, p, u, t, v⟩ => [(some b, .cells #[p, u.v (t).length, .pointer none, .bool v] 80 (0, 0)), (u.ob, .cells u.cs 5 u.fz)]) ?round4 (0, .pointer (some ⟨b, 0, none⟩), u1, tx ++ chainI (s.l.length : Int), true) ?h04)
    case he4 => exact (And.intro rfl (And.intro rfl (And.intro rfl (And.intro rfl (And.intro rfl trivial)))))
    case hl4 => exact ⟨_, rfl⟩
    case h04 => exact ⟨Nat.zero_le _, .inr rfl, hu1, by simp, by simp [*]⟩
    case round4 =>
     intro x_ hJ ih
     try dsimp only at hJ ih
     obtain ⟨i, p, u, t, v⟩ := x_
     try dsimp only at hJ ih
     obtain ⟨hi, hp, hu, ht, hv⟩ := hJ
     show G _ _ [(0, .pointer (some ⟨b, 0, none⟩)), (1, .pointer (some ⟨bx, k, none⟩)), (2, .func (.func 102) #[.pointer (some ⟨b, 0, none⟩)] #[]), (41, .int .i64 (s.l.length : Int)), (42, .int .i64 (i : Int))] [(some b, .cells #[p, u.v (t).length, .pointer none, .bool v] 80 (0, 0)), (u.ob, .cells u.cs 5 u.fz)] _
     refine Zi ?_
     refine Zd (l := [0]) rfl ?_
     refine Za rfl rfl rfl rfl (Xh rfl rfl rfl) ?_
     refine Zg ?_
     refine Zi ?_
     refine Yl rfl (fun hc2 => ?_) (fun hc2 => ?_)
     ·
      refine Zu ?_
      refine Zi ?_
      refine Zp ?_
      refine Zi ?_
      refine Zd (l := [0, 1]) rfl ?_
      refine Za rfl rfl rfl rfl (Zc rfl rfl) ?_
      refine Za rfl rfl rfl rfl (Zk rfl rfl) ?_
      refine Zg ?_
      refine Zi ?_
      obtain ⟨x, hx⟩ := Xv (show i < s.l.length by omega)
      obtain ⟨bi, hb1, hb2, hss⟩ := hs.isS (i := i) (by omega)
      have hxo := hok x (List.mem_of_getElem? hx)
      have hfl := fmap_len encIv s.l (i + 1)
      rw [← Yw encIv hx, List.length_append] at hfl
      have htl := congrArg List.length ht
      simp only [List.length_append] at htl
      refine Zd (l := [0, 1, 2, 3, 4, 5, 6, 7]) rfl ?_
      refine Za rfl rfl rfl rfl (Zc rfl rfl) ?_
      refine Za rfl rfl rfl rfl (Ze rfl rfl) ?_
      refine Za rfl rfl rfl rfl (Zj rfl rfl (Zf 0 rfl) (Zr hk) Try.underlying26 rfl) ?_
      rw [hb1]
      refine Za rfl rfl rfl rfl (Zc rfl rfl) ?_
      refine Za rfl rfl rfl rfl (Zl (s := 5) rfl Try.underlying26 i_95 rfl rfl rfl rfl (by omega)) ?_
      refine Za rfl rfl rfl rfl (Xm (s := 5) (vs := (cIv x).toArray) rfl rfl (by rw [← hb2]; exact Zf 1 rfl) Try.underlying95 rfl i_95 rfl (hss.elem cIv_len hx) (by rfl)) ?_
      refine Yr rfl rfl rfl rfl (Xb rfl i_95 rfl) (fun b7 => ?_)
      refine Xl (l1 := []) (L' := [_, _, _]) rfl rfl rfl rfl (Xk (s := 5) rfl rfl rfl (Zf 0 rfl) (by rfl) i_95 rfl (by rfl) (by simp [Value.oneCell', cOp, cWk, cIv, cHr, cLt, cWt, cIt])) rfl ?_
      refine Zg ?_
      refine Zd (l := [0, 1]) rfl ?_
      refine Za rfl rfl rfl rfl (Zc rfl rfl) ?_
      refine G_callB (L2 := [_]) rfl rfl rfl rfl rfl rfl Try.call102 rfl (cw_inv b _ _ _ _ hp hu _ x _ _ hxo (by omega)) [1, 1] [2] rfl rfl ?_
      rintro v post ⟨rfl, p1, u1, hp1, hu1, rfl⟩
      show G _ _ _ [_, _, _] _
      refine Zg ?_
      refine Zs ?_
      refine Zd (l := [0, 1]) rfl ?_
      refine Za rfl rfl rfl rfl ((Yu rfl rfl rfl).int (Zv (by omega))) ?_
      refine Za rfl rfl rfl rfl (Zc rfl rfl) ?_
      refine Zg ?_
      refine Yc ?_ [0, 0] ?_ (ih (i + 1, p1, u1, t ++ encIv x, v || badIv x) ?_ ?_)
      · (refine (And.intro ?_ (And.intro ?_ (And.intro ?_ (And.intro ?_ (And.intro ?_ trivial))))) <;> first | rfl | exact Zm (by omega) | exact Zm (by simp))
      · exact ⟨_, rfl⟩
      · exact ⟨by omega, hp1, hu1, by rw [← Yw encIv hx, ht]; simp only [List.append_assoc], by rw [hv, ← Xx hx]; simp only [Bool.or_assoc]⟩
      · (first | omega | (dsimp only; omega))
     refine Yx rfl ?_
     refine Xa (post := [_, _]) Try.func101 rfl Zo [0, 0] rfl ?_
     dsimp only [packed]
     have e : s.l.take i = s.l := List.take_of_length_le (by omega)
     rw [e] at ht hv
     subst ht hv
     exact ⟨rfl, p, u, hp, hu, rfl⟩
 refine Za rfl rfl rfl rfl (Zc rfl rfl) ?_
 refine Za rfl rfl rfl rfl (Ze rfl rfl) ?_
 refine Za rfl rfl rfl rfl (Zj rfl rfl (Zf 0 rfl) (Zr hk) Try.underlying26 rfl) ?_
 refine Za rfl rfl rfl rfl (Yf rfl rfl Try.underlying26 rfl) ?_
 refine Za rfl rfl rfl rfl (V_gtr rfl rfl rfl) ?_
 refine Za rfl rfl rfl rfl (Xu rfl rfl rfl) ?_
 refine Za rfl rfl rfl rfl (Ze rfl rfl) ?_
 refine Za rfl rfl rfl rfl (Zb (fo := 3) rfl Try.underlying80 rfl i_4 rfl rfl rfl) ?_
 refine Xl (l1 := []) (L' := [_, _]) rfl rfl rfl rfl (Zq rfl rfl rfl (Zf 0 rfl) (by first | exact of_decide_eq_true rfl | omega | (simp [cOp, cWk, cIv, cHr, cLt, cWt, cIt]; done) | (simp [cOp, cWk, cIv, cHr, cLt, cWt, cIt]; omega) | (simp [cOp, cWk, cIv, cHr, cLt, cWt, cIt] at *; omega)) i_4 rfl rfl) rfl ?_
 refine Zg ?_
 refine Zi ?_
 refine Ya (Lq := []) (isq := []) (m := 10) Ym rfl rfl ?_
 refine Zh 0 rfl rfl rfl rfl (by kernel_rfl) (fun _ _ => Zc rfl rfl) ?_
 refine Zh 1 rfl rfl rfl rfl (by kernel_rfl) (fun _ _ => Ze rfl rfl) ?_
 refine Zh 2 rfl rfl rfl rfl (by kernel_rfl) (fun _ _ => Zb (fo := 0) rfl Try.underlying80 rfl i_78 rfl rfl rfl) ?_
 refine Zh 3 rfl rfl rfl rfl (by kernel_rfl) (fun _ _ => Zc rfl rfl) ?_
 refine Zh 4 rfl rfl rfl rfl (by kernel_rfl) (fun _ _ => Ze rfl rfl) ?_
 refine Zh 5 rfl rfl rfl rfl (by kernel_rfl) (fun _ _ => Zj rfl rfl (Zf 0 rfl) (Zr hk) Try.underlying26 rfl) ?_
 refine Zh 6 rfl rfl rfl rfl (by kernel_rfl) (fun _ _ => Yf rfl rfl Try.underlying26 rfl) ?_
 refine Zh 7 rfl rfl rfl rfl (by kernel_rfl) (fun _ _ => (V_conv rfl rfl Try.underlying3 Try.underlying23).int (Xs (by omega))) ?_
 refine GH_all [8] (by kernel_rfl) (by decide) ?_
 refine (And.intro ?_ trivial)
 ·
  refine Zz (L2 := [_, _]) rfl rfl rfl rfl rfl rfl Try.call80 (Xw _ (by omega) (by omega)) [] [] rfl rfl [] (by rintro v post ⟨rfl, rfl⟩; exact ⟨_, rfl⟩) ?_
  rintro v post ⟨rfl, rfl⟩
  show GH _ _ _ _ _ _ _ [_, _] _
  refine GH_all [9] (by kernel_rfl) (by decide) ?_
  refine (And.intro ?_ trivial)
  ·
   refine Zz (L2 := []) rfl rfl rfl rfl rfl rfl Try.call79 (Xo _ _ _ _ _ _ _ hp hu (by omega)) [0, 0] [] rfl rfl [] (by rintro v post ⟨rfl, u1, hu1, rfl⟩; exact ⟨_, rfl⟩) ?_
   rintro v post ⟨rfl, u1, hu1, rfl⟩
   show GH _ _ _ _ _ _ _ [_, _] _
   refine Zw (by kernel_rfl) ?_
   refine Zi ?_
   refine Zi ?_
   refine Zd (l := [0, 1, 2, 3, 4]) rfl ?_
   refine Za rfl rfl rfl rfl (Zc rfl rfl) ?_
   refine Za rfl rfl rfl rfl (Ze rfl rfl) ?_
   refine Za rfl rfl rfl rfl (Zj rfl rfl (Zf 0 rfl) (Zr hk) Try.underlying26 rfl) ?_
   refine Za rfl rfl rfl rfl (Yf rfl rfl Try.underlying26 rfl) ?_
   refine Za rfl rfl rfl rfl (Zc rfl rfl) ?_
   refine Zg ?_
   refine Zp ?_
   refine Yc ?he4 [0, 0] ?hl4 (Xc (X := Nat × Value × Sl × List UInt8 × Bool) (fun x_ => match x_ with | ⟨i, p, u, t, v⟩ => i ≤ s.l.length ∧ UsedOr b p ∧ Txt u t ∧ t = tx ++ (chainI (s.l.length : Int) ++ (s.l.take i).flatMap encIv) ∧ v = (w || (decide (1000 < (s.l.length : Int)) || (s.l.take i).any badIv))) (fun x_ => match x_ with | ⟨i, p, u, t, v⟩ => s.l.length - i) (fun x_ => match x_ with | ⟨i, p, u, t, v⟩ => [(0, .pointer (some ⟨b, 0, none⟩)), (1, .pointer (some ⟨bx, k, none⟩)), (2, .func (.func 102) #[.pointer (some ⟨b, 0, none⟩)] #[]), (41, .int .i64 (s.l.length : Int)), (42, .int .i64 (i : Int))]) (fun x_ => match x_ with | ⟨i, p, u, t, v⟩ => [(some b, .cells #[p, u.v (t).length, .pointer none, .bool v] 80 (0, 0)), (u.ob, .cells u.cs 5 u.fz)]) ?round4 (0, .pointer (some ⟨b, 0, none⟩), u1, tx ++ chainI (s.l.length : Int), (decide (1000 < (s.l.length : Int)))) ?h04)
   case he4 => exact (And.intro rfl (And.intro rfl (And.intro rfl (And.intro rfl (And.intro rfl trivial)))))
   case hl4 => exact ⟨_, rfl⟩
   case h04 => exact ⟨Nat.zero_le _, .inr rfl, hu1, by simp, by simp [*]⟩
   case round4 =>
    intro x_ hJ ih
    try dsimp only at hJ ih
    obtain ⟨i, p, u, t, v⟩ := x_
    try dsimp only at hJ ih
    obtain ⟨hi, hp, hu, ht, hv⟩ := hJ
    show G _ _ [(0, .pointer (some ⟨b, 0, none⟩)), (1, .pointer (some ⟨bx, k, none⟩)), (2, .func (.func 102) #[.pointer (some ⟨b, 0, none⟩)] #[]), (41, .int .i64 (s.l.length : Int)), (42, .int .i64 (i : Int))] [(some b, .cells #[p, u.v (t).length, .pointer none, .bool v] 80 (0, 0)), (u.ob, .cells u.cs 5 u.fz)] _
    refine Zi ?_
    refine Zd (l := [0]) rfl ?_
    refine Za rfl rfl rfl rfl (Xh rfl rfl rfl) ?_
    refine Zg ?_
    refine Zi ?_
    refine Yl rfl (fun hc2 => ?_) (fun hc2 => ?_)
    ·
     refine Zu ?_
     refine Zi ?_
     refine Zp ?_
     refine Zi ?_
     refine Zd (l := [0, 1]) rfl ?_
     refine Za rfl rfl rfl rfl (Zc rfl rfl) ?_
     refine Za rfl rfl rfl rfl (Zk rfl rfl) ?_
     refine Zg ?_
     refine Zi ?_
     obtain ⟨x, hx⟩ := Xv (show i < s.l.length by omega)
     obtain ⟨bi, hb1, hb2, hss⟩ := hs.isS (i := i) (by omega)
     have hxo := hok x (List.mem_of_getElem? hx)
     have hfl := fmap_len encIv s.l (i + 1)
     rw [← Yw encIv hx, List.length_append] at hfl
     have htl := congrArg List.length ht
     simp only [List.length_append] at htl
     refine Zd (l := [0, 1, 2, 3, 4, 5, 6, 7]) rfl ?_
     refine Za rfl rfl rfl rfl (Zc rfl rfl) ?_
     refine Za rfl rfl rfl rfl (Ze rfl rfl) ?_
     refine Za rfl rfl rfl rfl (Zj rfl rfl (Zf 0 rfl) (Zr hk) Try.underlying26 rfl) ?_
     rw [hb1]
     refine Za rfl rfl rfl rfl (Zc rfl rfl) ?_
     refine Za rfl rfl rfl rfl (Zl (s := 5) rfl Try.underlying26 i_95 rfl rfl rfl rfl (by omega)) ?_
     refine Za rfl rfl rfl rfl (Xm (s := 5) (vs := (cIv x).toArray) rfl rfl (by rw [← hb2]; exact Zf 1 rfl) Try.underlying95 rfl i_95 rfl (hss.elem cIv_len hx) (by rfl)) ?_
     refine Yr rfl rfl rfl rfl (Xb rfl i_95 rfl) (fun b7 => ?_)
     refine Xl (l1 := []) (L' := [_, _, _]) rfl rfl rfl rfl (Xk (s := 5) rfl rfl rfl (Zf 0 rfl) (by rfl) i_95 rfl (by rfl) (by simp [Value.oneCell', cOp, cWk, cIv, cHr, cLt, cWt, cIt])) rfl ?_
     refine Zg ?_
     refine Zd (l := [0, 1]) rfl ?_
     refine Za rfl rfl rfl rfl (Zc rfl rfl) ?_
     refine G_callB (L2 := [_]) rfl rfl rfl rfl rfl rfl Try.call102 rfl (cw_inv b _ _ _ _ hp hu _ x _ _ hxo (by omega)) [1, 1] [2] rfl rfl ?_
     rintro v post ⟨rfl, p1, u1, hp1, hu1, rfl⟩
     show G _ _ _ [_, _, _] _
     refine Zg ?_
     refine Zs ?_
     refine Zd (l := [0, 1]) rfl ?_
     refine Za rfl rfl rfl rfl ((Yu rfl rfl rfl).int (Zv (by omega))) ?_
     refine Za rfl rfl rfl rfl (Zc rfl rfl) ?_
     refine Zg ?_
     refine Yc ?_ [0, 0] ?_ (ih (i + 1, p1, u1, t ++ encIv x, v || badIv x) ?_ ?_)
     · (refine (And.intro ?_ (And.intro ?_ (And.intro ?_ (And.intro ?_ (And.intro ?_ trivial))))) <;> first | rfl | exact Zm (by omega) | exact Zm (by simp))
     · exact ⟨_, rfl⟩
     · exact ⟨by omega, hp1, hu1, by rw [← Yw encIv hx, ht]; simp only [List.append_assoc], by rw [hv, ← Xx hx]; simp only [Bool.or_assoc]⟩
     · (first | omega | (dsimp only; omega))
    refine Yx rfl ?_
    refine Xa (post := [_, _]) Try.func101 rfl Zo [0, 0] rfl ?_
    dsimp only [packed]
    have e : s.l.take i = s.l := List.take_of_length_le (by omega)
    rw [e] at ht hv
    subst ht hv
    exact ⟨rfl, p, u, hp, hu, rfl⟩

set_option maxRecDepth 100000 in
set_option maxHeartbeats 1000000 in
theorem cw_listHr (b : Nat) (p : Value) (u : Sl) (tx : List UInt8) (w : Bool) (hp : UsedOr b p) (hu : Txt u tx) (bx k : Nat) (cs : Array Value) (T : TypeId) (fz : Nat × Nat) (s : Ins Hr) (hs : InsOk 17 cHr s) (hok : ∀ x ∈ s.l, OkHr x) (hk : cs[k]? = some (.slice s.p s.l.length s.cap)) (hl : tx.length + (encL encHr s.l).length ≤ 140737488350000) :
    Ct Try.prog 105 [.pointer (some ⟨b, 0, none⟩), .pointer (some ⟨bx, k, none⟩), .func (.func 106) #[.pointer (some ⟨b, 0, none⟩)] #[]] [(some bx, .cells cs T fz), (s.ob, .cells s.cs s.T s.fr)] [(some b, .cells #[p, u.v (tx).length, .pointer none, .bool w] 80 (0, 0)), (u.ob, .cells u.cs 5 u.fz)] fun v post => v = .tuple #[] ∧ ∃ p1 u1, UsedOr b p1 ∧ Txt u1 (tx ++ encL encHr s.l) ∧ post = [(some b, .cells #[p1, u1.v (tx ++ encL encHr s.l).length, .pointer none, .bool (w || badL badHr s.l)] 80 (0, 0)), (u1.ob, .cells u1.cs 5 u1.fz)] := by
 have hl1 := hs.le
 have hl2 := hs.max
 have hln := hs.n
 have hcl := chainI_len (s.l.length : Int) (by omega) (by omega)
 have hl_ := hl
 unfold encL at hl_
 simp only [List.length_append] at hl_
 refine Yv Try.func105 rfl rfl (fun w0 => ?_)
 show G _ _ [(0, _), (1, _), (2, _)] _ _
 refine Zi ?_
 refine Zi ?_
 refine Zd (l := [0, 1, 2, 3, 4]) rfl ?_
 refine Za rfl rfl rfl rfl (Zc rfl rfl) ?_
 refine Za rfl rfl rfl rfl (Ze rfl rfl) ?_
 refine Za rfl rfl rfl rfl (Zb (fo := 2) rfl Try.underlying80 rfl i_74 rfl rfl rfl) ?_
 refine Za rfl rfl rfl rfl (Zj rfl rfl (Zf 2 rfl) rfl Try.underlying74 rfl) ?_
 refine Za rfl rfl rfl rfl (V_peqlN rfl Try.underlying74 rfl rfl) ?_
 refine Zg ?_
 refine G_then rfl ?_
 refine Zi ?_
 refine Zd (l := [0, 1, 2, 3, 4, 5, 6, 7, 8, 9, 10, 11, 12, 13, 14]) rfl ?_
 refine Za rfl rfl rfl rfl (Zc rfl rfl) ?_
 refine Za rfl rfl rfl rfl (Zc rfl rfl) ?_
 refine Za rfl rfl rfl rfl (Ze rfl rfl) ?_
 refine Za rfl rfl rfl rfl (Zb (fo := 3) rfl Try.underlying80 rfl i_4 rfl rfl rfl) ?_
 refine Za rfl rfl rfl rfl (Zj rfl rfl (Zf 2 rfl) rfl Try.underlying4 rfl) ?_
 refine Za rfl rfl rfl rfl (Zc rfl rfl) ?_
 refine G_split 19 rfl (fun hc1 => ?_) (fun hc1 => ?_)
 ·
  refine Zt rfl rfl rfl rfl ?_
  refine Zt rfl rfl rfl rfl ?_
  refine Zt rfl rfl rfl rfl ?_
  refine Zt rfl rfl rfl rfl ?_
  refine Zt rfl rfl rfl rfl ?_
  refine Za rfl rfl rfl rfl (Yk rfl rfl rfl) ?_
  refine Za rfl rfl rfl rfl (Ze rfl rfl) ?_
  refine Za rfl rfl rfl rfl (Zb (fo := 3) rfl Try.underlying80 rfl i_4 rfl rfl rfl) ?_
  refine Xl (l1 := []) (L' := [_, _]) rfl rfl rfl rfl (Zq rfl rfl rfl (Zf 0 rfl) (by first | exact of_decide_eq_true rfl | omega | (simp [cOp, cWk, cIv, cHr, cLt, cWt, cIt]; done) | (simp [cOp, cWk, cIv, cHr, cLt, cWt, cIt]; omega) | (simp [cOp, cWk, cIv, cHr, cLt, cWt, cIt] at *; omega)) i_4 rfl rfl) rfl ?_
  refine Zg ?_
  refine Zi ?_
  refine Ya (Lq := []) (isq := []) (m := 10) Ym rfl rfl ?_
  refine Zh 0 rfl rfl rfl rfl (by kernel_rfl) (fun _ _ => Zc rfl rfl) ?_
  refine Zh 1 rfl rfl rfl rfl (by kernel_rfl) (fun _ _ => Ze rfl rfl) ?_
  refine Zh 2 rfl rfl rfl rfl (by kernel_rfl) (fun _ _ => Zb (fo := 0) rfl Try.underlying80 rfl i_78 rfl rfl rfl) ?_
  refine Zh 3 rfl rfl rfl rfl (by kernel_rfl) (fun _ _ => Zc rfl rfl) ?_
  refine Zh 4 rfl rfl rfl rfl (by kernel_rfl) (fun _ _ => Ze rfl rfl) ?_
  refine Zh 5 rfl rfl rfl rfl (by kernel_rfl) (fun _ _ => Zj rfl rfl (Zf 0 rfl) (Zr hk) Try.underlying28 rfl) ?_
  refine Zh 6 rfl rfl rfl rfl (by kernel_rfl) (fun _ _ => Yf rfl rfl Try.underlying28 rfl) ?_
  refine Zh 7 rfl rfl rfl rfl (by kernel_rfl) (fun _ _ => (V_conv rfl rfl Try.underlying3 Try.underlying23).int (Xs (by omega))) ?_
  refine GH_all [8] (by kernel_rfl) (by decide) ?_
  refine (And.intro ?_ trivial)
  ·
   refine Zz (L2 := [_, _]) rfl rfl rfl rfl rfl rfl Try.call80 (Xw _ (by omega) (by omega)) [] [] rfl rfl [] (by rintro v post ⟨rfl, rfl⟩; exact ⟨_, rfl⟩) ?_
   rintro v post ⟨rfl, rfl⟩
   show GH _ _ _ _ _ _ _ [_, _] _
   refine GH_all [9] (by kernel_rfl) (by decide) ?_
   refine (And.intro ?_ trivial)
   ·
    refine Zz (L2 := []) rfl rfl rfl rfl rfl rfl Try.call79 (Xo _ _ _ _ _ _ _ hp hu (by omega)) [0, 0] [] rfl rfl [] (by rintro v post ⟨rfl, u1, hu1, rfl⟩; exact ⟨_, rfl⟩) ?_
    rintro v post ⟨rfl, u1, hu1, rfl⟩
    show GH _ _ _ _ _ _ _ [_, _] _
    refine Zw (by kernel_rfl) ?_
    refine Zi ?_
    refine Zi ?_
    refine Zd (l := [0, 1, 2, 3, 4]) rfl ?_
    refine Za rfl rfl rfl rfl (Zc rfl rfl) ?_
    refine Za rfl rfl rfl rfl (Ze rfl rfl) ?_
    refine Za rfl rfl rfl rfl (Zj rfl rfl (Zf 0 rfl) (Zr hk) Try.underlying28 rfl) ?_
    refine Za rfl rfl rfl rfl (Yf rfl rfl Try.underlying28 rfl) ?_
    refine Za rfl rfl rfl rfl (Zc rfl rfl) ?_
    refine Zg ?_
    refine Zp ?_
    refine Yc ?he4 [0, 0] ?hl4 (Xc (X := Nat × Value × Sl × List UInt8 × Bool) (fun x_ => match x_ with | ⟨i, p, u, t, v⟩ => i ≤ s.l.length ∧ UsedOr b p ∧ Txt u t ∧ t = tx ++ (chainI (s.l.length : Int) ++ (s.l.take i).flatMap encHr) ∧ v = (w || (decide (1000 < (s.l.length : Int)) || (s.l.take i).any badHr))) (fun x_ => match x_ with | ⟨i, p, u, t, v⟩ => s.l.length - i) (fun x_ => match x_ with | ⟨i, p, u, t, v⟩ => [(0, .pointer (some ⟨b, 0, none⟩)), (1, .pointer (some ⟨bx, k, none⟩)), (2, .func (.func 106) #[.pointer (some ⟨b, 0, none⟩)] #[]), (41, .int .i64 (s.l.length : Int)), (42, .int .i64 (i : Int))]) (fun x_ => match x_ with | ⟨i, p, u, t, v⟩ => [(some b, .cells #[p, u.v (t).length, .pointer none, .bool v] 80 (0, 0)), (u.ob, .cells u.cs 5 u.fz)]) ?round4 (0, .pointer (some ⟨b, 0, none⟩), u1, tx ++ chainI (s.l.length : Int), true) ?h04)
    case he4 => exact (And.intro rfl (And.intro rfl (And.intro rfl (And.intro rfl (And.intro rfl trivial)))))
    case hl4 => exact ⟨_, rfl⟩
    case h04 => exact ⟨Nat.zero_le _, .inr rfl, hu1, by simp, by simp [*]⟩
    case round4 =>
     intro x_ hJ ih
     try dsimp only at hJ ih
     obtain ⟨i, p, u, t, v⟩ := x_
     try dsimp only at hJ ih
     obtain ⟨hi, hp, hu, ht, hv⟩ := hJ
     show G _ _ [(0, .pointer (some ⟨b, 0, none⟩)), (1, .pointer (some ⟨bx, k, none⟩)), (2, .func (.func 106) #[.pointer (some ⟨b, 0, none⟩)] #[]), (41, .int .i64 (s.l.length : Int)), (42, .int .i64 (i : Int))] [(some b, .cells #[p, u.v (t).length, .pointer none, .bool v] 80 (0, 0)), (u.ob, .cells u.cs 5 u.fz)] _
     refine Zi ?_
     refine Zd (l := [0]) rfl ?_
     refine Za rfl rfl rfl rfl (Xh rfl rfl rfl) ?_
     refine Zg ?_
     refine Zi ?_
     refine Yl rfl (fun hc2 => ?_) (fun hc2 => ?_)
     ·
      refine Zu ?_
      refine Zi ?_
      refine Zp ?_
      refine Zi ?_
      refine Zd (l := [0, 1]) rfl ?_
      refine Za rfl rfl rfl rfl (Zc rfl rfl) ?_
      refine Za rfl rfl rfl rfl (Zk rfl rfl) ?_
      refine Zg ?_
      refine Zi ?_
      obtain ⟨x, hx⟩ := Xv (show i < s.l.length by omega)
      obtain ⟨bi, hb1, hb2, hss⟩ := hs.isS (i := i) (by omega)
      have hxo := hok x (List.mem_of_getElem? hx)
      have hfl := fmap_len encHr s.l (i + 1)
      rw [← Yw encHr hx, List.length_append] at hfl
      have htl := congrArg List.length ht
      simp only [List.length_append] at htl
      refine Zd (l := [0, 1, 2, 3, 4, 5, 6, 7]) rfl ?_
      refine Za rfl rfl rfl rfl (Zc rfl rfl) ?_
      refine Za rfl rfl rfl rfl (Ze rfl rfl) ?_
      refine Za rfl rfl rfl rfl (Zj rfl rfl (Zf 0 rfl) (Zr hk) Try.underlying28 rfl) ?_
      rw [hb1]
      refine Za rfl rfl rfl rfl (Zc rfl rfl) ?_
      refine Za rfl rfl rfl rfl (Zl (s := 17) rfl Try.underlying28 i_141 rfl rfl rfl rfl (by omega)) ?_
      refine Za rfl rfl rfl rfl (Xm (s := 17) (vs := (cHr x).toArray) rfl rfl (by rw [← hb2]; exact Zf 1 rfl) Try.underlying141 rfl i_141 rfl (hss.elem cHr_len hx) (by rfl)) ?_
      refine Yr rfl rfl rfl rfl (Xb rfl i_141 rfl) (fun b7 => ?_)
      refine Xl (l1 := []) (L' := [_, _, _]) rfl rfl rfl rfl (Xk (s := 17) rfl rfl rfl (Zf 0 rfl) (by rfl) i_141 rfl (by rfl) (by simp [Value.oneCell', cOp, cWk, cIv, cHr, cLt, cWt, cIt])) rfl ?_
      refine Zg ?_
      refine Zd (l := [0, 1]) rfl ?_
      refine Za rfl rfl rfl rfl (Zc rfl rfl) ?_
      refine G_callB (L2 := [_]) rfl rfl rfl rfl rfl rfl Try.call106 rfl (cw_row b _ _ _ _ hp hu _ x _ _ hxo (by omega)) [1, 1] [2] rfl rfl ?_
      rintro v post ⟨rfl, p1, u1, hp1, hu1, rfl⟩
      show G _ _ _ [_, _, _] _
      refine Zg ?_
      refine Zs ?_
      refine Zd (l := [0, 1]) rfl ?_
      refine Za rfl rfl rfl rfl ((Yu rfl rfl rfl).int (Zv (by omega))) ?_
      refine Za rfl rfl rfl rfl (Zc rfl rfl) ?_
      refine Zg ?_
      refine Yc ?_ [0, 0] ?_ (ih (i + 1, p1, u1, t ++ encHr x, v || badHr x) ?_ ?_)
      · (refine (And.intro ?_ (And.intro ?_ (And.intro ?_ (And.intro ?_ (And.intro ?_ trivial))))) <;> first | rfl | exact Zm (by omega) | exact Zm (by simp))
      · exact ⟨_, rfl⟩
      · exact ⟨by omega, hp1, hu1, by rw [← Yw encHr hx, ht]; simp only [List.append_assoc], by rw [hv, ← Xx hx]; simp only [Bool.or_assoc]⟩
      · (first | omega | (dsimp only; omega))
     refine Yx rfl ?_
     refine Xa (post := [_, _]) Try.func105 rfl Zo [0, 0] rfl ?_
     dsimp only [packed]
     have e : s.l.take i = s.l := List.take_of_length_le (by omega)
     rw [e] at ht hv
     subst ht hv
     exact ⟨rfl, p, u, hp, hu, rfl⟩
 refine Za rfl rfl rfl rfl (Zc rfl rfl) ?_
 refine Za rfl rfl rfl rfl (Ze rfl rfl) ?_
 refine Za rfl rfl rfl rfl (Zj rfl rfl (Zf 0 rfl) (Zr hk) Try.underlying28 rfl) ?_
 refine Za rfl rfl rfl rfl (Yf rfl rfl Try.underlying28 rfl) ?_
 refine Za rfl rfl rfl rfl (V_gtr rfl rfl rfl) ?_
 refine Za rfl rfl rfl rfl (Xu rfl rfl rfl) ?_
 refine Za rfl rfl rfl rfl (Ze rfl rfl) ?_
 refine Za rfl rfl rfl rfl (Zb (fo := 3) rfl Try.underlying80 rfl i_4 rfl rfl rfl) ?_
 refine Xl (l1 := []) (L' := [_, _]) rfl rfl rfl rfl (Zq rfl rfl rfl (Zf 0 rfl) (by first | exact of_decide_eq_true rfl | omega | (simp [cOp, cWk, cIv, cHr, cLt, cWt, cIt]; done) | (simp [cOp, cWk, cIv, cHr, cLt, cWt, cIt]; omega) | (simp [cOp, cWk, cIv, cHr, cLt, cWt, cIt] at *; omega)) i_4 rfl rfl) rfl ?_
 refine Zg ?_
 refine Zi ?_
 refine Ya (Lq := []) (isq := []) (m := 10) Ym rfl rfl ?_
 refine Zh 0 rfl rfl rfl rfl (by kernel_rfl) (fun _ _ => Zc rfl rfl) ?_
 refine Zh 1 rfl rfl rfl rfl (by kernel_rfl) (fun _ _ => Ze rfl rfl) ?_
 refine Zh 2 rfl rfl rfl rfl (by kernel_rfl) (fun _ _ => Zb (fo := 0) rfl Try.underlying80 rfl i_78 rfl rfl rfl) ?_
 refine Zh 3 rfl rfl rfl rfl (by kernel_rfl) (fun _ _ => Zc rfl rfl) ?_
 refine Zh 4 rfl rfl rfl rfl (by kernel_rfl) (fun _ _ => Ze rfl rfl) ?_
 refine Zh 5 rfl rfl rfl rfl (by kernel_rfl) (fun _ _ => Zj rfl rfl (Zf 0 rfl) (Zr hk) Try.underlying28 rfl) ?_
 refine Zh 6 rfl rfl rfl rfl (by kernel_rfl) (fun _ _ => Yf rfl rfl Try.underlying28 rfl) ?_
 refine Zh 7 rfl rfl rfl rfl (by kernel_rfl) (fun _ _ => (V_conv rfl rfl Try.underlying3 Try.underlying23).int (Xs (by omega))) ?_
 refine GH_all [8] (by kernel_rfl) (by decide) ?_
 refine (And.intro ?_ trivial)
 ·
  refine Zz (L2 := [_, _]) rfl rfl rfl rfl rfl rfl Try.call80 (Xw _ (by omega) (by omega)) [] [] rfl rfl [] (by rintro v post ⟨rfl, rfl⟩; exact ⟨_, rfl⟩) ?_
  rintro v post ⟨rfl, rfl⟩
  show GH _ _ _ _ _ _ _ [_, _] _
  refine GH_all [9] (by kernel_rfl) (by decide) ?_
  refine (And.intro ?_ trivial)
  ·
   refine Zz (L2 := []) rfl rfl rfl rfl rfl rfl Try.call79 (Xo _ _ _ _ _ _ _ hp hu (by omega)) [0, 0] [] rfl rfl [] (by rintro v post ⟨rfl, u1, hu1, rfl⟩; exact ⟨_, rfl⟩) ?_
   rintro v post ⟨rfl, u1, hu1, rfl⟩
   show GH _ _ _ _ _ _ _ [_, _] _
   refine Zw (by kernel_rfl) ?_
   refine Zi ?_
   refine Zi ?_
   refine Zd (l := [0, 1, 2, 3, 4]) rfl ?_
   refine Za rfl rfl rfl rfl (Zc rfl rfl) ?_
   refine Za rfl rfl rfl rfl (Ze rfl rfl) ?_
   refine Za rfl rfl rfl rfl (Zj rfl rfl (Zf 0 rfl) (Zr hk) Try.underlying28 rfl) ?_
   refine Za rfl rfl rfl rfl (Yf rfl rfl Try.underlying28 rfl) ?_
   refine Za rfl rfl rfl rfl (Zc rfl rfl) ?_
   refine Zg ?_
   refine Zp ?_
   refine Yc ?he4 [0, 0] ?hl4 (Xc (X := Nat × Value × Sl × List UInt8 × Bool) (fun x_ => match x_ with | ⟨i, p, u, t, v⟩ => i ≤ s.l.length ∧ UsedOr b p ∧ Txt u t ∧ t = tx ++ (chainI (s.l.length : Int) ++ (s.l.take i).flatMap encHr) ∧ v = (w || (decide (1000 < (s.l.length : Int)) || (s.l.take i).any badHr))) (fun x_ => match x_ with | ⟨i, p, u, t, v⟩ => s.l.length - i) (fun x_ => match x_ with | ⟨i, p, u, t, v⟩ => [(0, .pointer (some ⟨b, 0, none⟩)), (1, .pointer (some ⟨bx, k, none⟩)), (2, .func (.func 106) #[.pointer (some ⟨b, 0, none⟩)] #[]), (41, .int .i64 (s.l.length : Int)), (42, .int .i64 (i : Int))]) (fun x_ => match x_ with | ⟨i, p, u, t, v⟩ => [(some b, .cells #[p, u.v (t).length, .pointer none, .bool v] 80 (0, 0)), (u.ob, .cells u.cs 5 u.fz)]) ?round4 (0, .pointer (some ⟨b, 0, none⟩), u1, tx ++ chainI (s.l.length : Int), (decide (1000 < (s.l.length : Int)))) ?h04)
   case he4 => exact (And.intro rfl (And.intro rfl (And.intro rfl (And.intro rfl (And.intro rfl trivial)))))
   case hl4 => exact ⟨_, rfl⟩
   case h04 => exact ⟨Nat.zero_le _, .inr rfl, hu1, by simp, by simp [*]⟩
   case round4 =>
    intro x_ hJ ih
    try dsimp only at hJ ih
    obtain ⟨i, p, u, t, v⟩ := x_
    try dsimp only at hJ ih
    obtain ⟨hi, hp, hu, ht, hv⟩ := hJ
    show G _ _ [(0, .pointer (some ⟨b, 0, none⟩)), (1, .pointer (some ⟨bx, k, none⟩)), (2, .func (.func 106) #[.pointer (some ⟨b, 0, none⟩)] #[]), (41, .int .i64 (s.l.length : Int)), (42, .int .i64 (i : Int))] [(some b, .cells #[p, u.v (t).length, .pointer none, .bool v] 80 (0, 0)), (u.ob, .cells u.cs 5 u.fz)] _
    refine Zi ?_
    refine Zd (l := [0]) rfl ?_
    refine Za rfl rfl rfl rfl (Xh rfl rfl rfl) ?_
    refine Zg ?_
    refine Zi ?_
    refine Yl rfl (fun hc2 => ?_) (fun hc2 => ?_)
    ·
     refine Zu ?_
     refine Zi ?_
     refine Zp ?_
     refine Zi ?_
     refine Zd (l := [0, 1]) rfl ?_
     refine Za rfl rfl rfl rfl (Zc rfl rfl) ?_
     refine Za rfl rfl rfl rfl (Zk rfl rfl) ?_
     refine Zg ?_
     refine Zi ?_
     obtain ⟨x, hx⟩ := Xv (show i < s.l.length by omega)
     obtain ⟨bi, hb1, hb2, hss⟩ := hs.isS (i := i) (by omega)
     have hxo := hok x (List.mem_of_getElem? hx)
     have hfl := fmap_len encHr s.l (i + 1)
     rw [← Yw encHr hx, List.length_append] at hfl
     have htl := congrArg List.length ht
     simp only [List.length_append] at htl
     refine Zd (l := [0, 1, 2, 3, 4, 5, 6, 7]) rfl ?_
     refine Za rfl rfl rfl rfl (Zc rfl rfl) ?_
     refine Za rfl rfl rfl rfl (Ze rfl rfl) ?_
     refine Za rfl rfl rfl rfl (Zj rfl rfl (Zf 0 rfl) (Zr hk) Try.underlying28 rfl) ?_
     rw [hb1]
     refine Za rfl rfl rfl rfl (Zc rfl rfl) ?_
     refine Za rfl rfl rfl rfl (Zl (s := 17) rfl Try.underlying28 i_141 rfl rfl rfl rfl (by omega)) ?_
     refine Za rfl rfl rfl rfl (Xm (s := 17) (vs := (cHr x).toArray) rfl rfl (by rw [← hb2]; exact Zf 1 rfl) Try.underlying141 rfl i_141 rfl (hss.elem cHr_len hx) (by rfl)) ?_
     refine Yr rfl rfl rfl rfl (Xb rfl i_141 rfl) (fun b7 => ?_)
     refine Xl (l1 := []) (L' := [_, _, _]) rfl rfl rfl rfl (Xk (s := 17) rfl rfl rfl (Zf 0 rfl) (by rfl) i_141 rfl (by rfl) (by simp [Value.oneCell', cOp, cWk, cIv, cHr, cLt, cWt, cIt])) rfl ?_
     refine Zg ?_
     refine Zd (l := [0, 1]) rfl ?_
     refine Za rfl rfl rfl rfl (Zc rfl rfl) ?_
     refine G_callB (L2 := [_]) rfl rfl rfl rfl rfl rfl Try.call106 rfl (cw_row b _ _ _ _ hp hu _ x _ _ hxo (by omega)) [1, 1] [2] rfl rfl ?_
     rintro v post ⟨rfl, p1, u1, hp1, hu1, rfl⟩
     show G _ _ _ [_, _, _] _
     refine Zg ?_
     refine Zs ?_
     refine Zd (l := [0, 1]) rfl ?_
     refine Za rfl rfl rfl rfl ((Yu rfl rfl rfl).int (Zv (by omega))) ?_
     refine Za rfl rfl rfl rfl (Zc rfl rfl) ?_
     refine Zg ?_
     refine Yc ?_ [0, 0] ?_ (ih (i + 1, p1, u1, t ++ encHr x, v || badHr x) ?_ ?_)
     · (refine (And.intro ?_ (And.intro ?_ (And.intro ?_ (And.intro ?_ (And.intro ?_ trivial))))) <;> first | rfl | exact Zm (by omega) | exact Zm (by simp))
     · exact ⟨_, rfl⟩
     · exact ⟨by omega, hp1, hu1, by rw [← Yw encHr hx, ht]; simp only [List.append_assoc], by rw [hv, ← Xx hx]; simp only [Bool.or_assoc]⟩
     · (first | omega | (dsimp only; omega))
    refine Yx rfl ?_
    refine Xa (post := [_, _]) Try.func105 rfl Zo [0, 0] rfl ?_
    dsimp only [packed]
    have e : s.l.take i = s.l := List.take_of_length_le (by omega)
    rw [e] at ht hv
    subst ht hv
    exact ⟨rfl, p, u, hp, hu, rfl⟩

set_option maxRecDepth 100000 in
set_option maxHeartbeats 1000000 in
theorem cw_listLt (b : Nat) (p : Value) (u : Sl) (tx : List UInt8) (w : Bool) (hp : UsedOr b p) (hu : Txt u tx) (bx k : Nat) (cs : Array Value) (T : TypeId) (fz : Nat × Nat) (s : Ins Lt) (hs : InsOk 6 cLt s) (hok : ∀ x ∈ s.l, OkLt x) (hk : cs[k]? = some (.slice s.p s.l.length s.cap)) (hl : tx.length + (encL encLt s.l).length ≤ 140737488350000) :
    Ct Try.prog 107 [.pointer (some ⟨b, 0, none⟩), .pointer (some ⟨bx, k, none⟩), .func (.func 108) #[.pointer (some ⟨b, 0, none⟩)] #[]] [(some bx, .cells cs T fz), (s.ob, .cells s.cs s.T s.fr)] [(some b, .cells #[p, u.v (tx).length, .pointer none, .bool w] 80 (0, 0)), (u.ob, .cells u.cs 5 u.fz)] fun v post => v = .tuple #[] ∧ ∃ p1 u1, UsedOr b p1 ∧ Txt u1 (tx ++ encL encLt s.l) ∧ post = [(some b, .cells #[p1, u1.v (tx ++ encL encLt s.l).length, .pointer none, .bool (w || badL badLt s.l)] 80 (0, 0)), (u1.ob, .cells u1.cs 5 u1.fz)] := by
 have hl1 := hs.le
 have hl2 := hs.max
 have hln := hs.n
 have hcl := chainI_len (s.l.length : Int) (by omega) (by omega)
 have hl_ := hl
 unfold encL at hl_
 simp only [List.length_append] at hl_
 refine Yv Try.func107 rfl rfl (fun w0 => ?_)
 show G _ _ [(0, _), (1, _), (2, _)] _ _
 refine Zi ?_
 refine Zi ?_
 refine Zd (l := [0, 1, 2, 3, 4]) rfl ?_
 refine Za rfl rfl rfl rfl (Zc rfl rfl) ?_
 refine Za rfl rfl rfl rfl (Ze rfl rfl) ?_
 refine Za rfl rfl rfl rfl (Zb (fo := 2) rfl Try.underlying80 rfl i_74 rfl rfl rfl) ?_
 refine Za rfl rfl rfl rfl (Zj rfl rfl (Zf 2 rfl) rfl Try.underlying74 rfl) ?_
 refine Za rfl rfl rfl rfl (V_peqlN rfl Try.underlying74 rfl rfl) ?_
 refine Zg ?_
 refine G_then rfl ?_
 refine Zi ?_
 refine Zd (l := [0, 1, 2, 3, 4, 5, 6, 7, 8, 9, 10, 11, 12, 13, 14]) rfl ?_
 refine Za rfl rfl rfl rfl (Zc rfl rfl) ?_
 refine Za rfl rfl rfl rfl (Zc rfl rfl) ?_
 refine Za rfl rfl rfl rfl (Ze rfl rfl) ?_
 refine Za rfl rfl rfl rfl (Zb (fo := 3) rfl Try.underlying80 rfl i_4 rfl rfl rfl) ?_
 refine Za rfl rfl rfl rfl (Zj rfl rfl (Zf 2 rfl) rfl Try.underlying4 rfl) ?_
 refine Za rfl rfl rfl rfl (Zc rfl rfl) ?_
 refine G_split 19 rfl (fun hc1 => ?_) (fun hc1 => ?_)
 ·
  refine Zt rfl rfl rfl rfl ?_
  refine Zt rfl rfl rfl rfl ?_
  refine Zt rfl rfl rfl rfl ?_
  refine Zt rfl rfl rfl rfl ?_
  refine Zt rfl rfl rfl rfl ?_
  refine Za rfl rfl rfl rfl (Yk rfl rfl rfl) ?_
  refine Za rfl rfl rfl rfl (Ze rfl rfl) ?_
  refine Za rfl rfl rfl rfl (Zb (fo := 3) rfl Try.underlying80 rfl i_4 rfl rfl rfl) ?_
  refine Xl (l1 := []) (L' := [_, _]) rfl rfl rfl rfl (Zq rfl rfl rfl (Zf 0 rfl) (by first | exact of_decide_eq_true rfl | omega | (simp [cOp, cWk, cIv, cHr, cLt, cWt, cIt]; done) | (simp [cOp, cWk, cIv, cHr, cLt, cWt, cIt]; omega) | (simp [cOp, cWk, cIv, cHr, cLt, cWt, cIt] at *; omega)) i_4 rfl rfl) rfl ?_
  refine Zg ?_
  refine Zi ?_
  refine Ya (Lq := []) (isq := []) (m := 10) Ym rfl rfl ?_
  refine Zh 0 rfl rfl rfl rfl (by kernel_rfl) (fun _ _ => Zc rfl rfl) ?_
  refine Zh 1 rfl rfl rfl rfl (by kernel_rfl) (fun _ _ => Ze rfl rfl) ?_
  refine Zh 2 rfl rfl rfl rfl (by kernel_rfl) (fun _ _ => Zb (fo := 0) rfl Try.underlying80 rfl i_78 rfl rfl rfl) ?_
  refine Zh 3 rfl rfl rfl rfl (by kernel_rfl) (fun _ _ => Zc rfl rfl) ?_
  refine Zh 4 rfl rfl rfl rfl (by kernel_rfl) (fun _ _ => Ze rfl rfl) ?_
  refine Zh 5 rfl rfl rfl rfl (by kernel_rfl) (fun _ _ => Zj rfl rfl (Zf 0 rfl) (Zr hk) Try.underlying29 rfl) ?_
  refine Zh 6 rfl rfl rfl rfl (by kernel_rfl) (fun _ _ => Yf rfl rfl Try.underlying29 rfl) ?_
  refine Zh 7 rfl rfl rfl rfl (by kernel_rfl) (fun _ _ => (V_conv rfl rfl Try.underlying3 Try.underlying23).int (Xs (by omega))) ?_
  refine GH_all [8] (by kernel_rfl) (by decide) ?_
  refine (And.intro ?_ trivial)
  ·
   refine Zz (L2 := [_, _]) rfl rfl rfl rfl rfl rfl Try.call80 (Xw _ (by omega) (by omega)) [] [] rfl rfl [] (by rintro v post ⟨rfl, rfl⟩; exact ⟨_, rfl⟩) ?_
   rintro v post ⟨rfl, rfl⟩
   show GH _ _ _ _ _ _ _ [_, _] _
   refine GH_all [9] (by kernel_rfl) (by decide) ?_
   refine (And.intro ?_ trivial)
   ·
    refine Zz (L2 := []) rfl rfl rfl rfl rfl rfl Try.call79 (Xo _ _ _ _ _ _ _ hp hu (by omega)) [0, 0] [] rfl rfl [] (by rintro v post ⟨rfl, u1, hu1, rfl⟩; exact ⟨_, rfl⟩) ?_
    rintro v post ⟨rfl, u1, hu1, rfl⟩
    show GH _ _ _ _ _ _ _ [_, _] _
    refine Zw (by kernel_rfl) ?_
    refine Zi ?_
    refine Zi ?_
    refine Zd (l := [0, 1, 2, 3, 4]) rfl ?_
    refine Za rfl rfl rfl rfl (Zc rfl rfl) ?_
    refine Za rfl rfl rfl rfl (Ze rfl rfl) ?_
    refine Za rfl rfl rfl rfl (Zj rfl rfl (Zf 0 rfl) (Zr hk) Try.underlying29 rfl) ?_
    refine Za rfl rfl rfl rfl (Yf rfl rfl Try.underlying29 rfl) ?_
    refine Za rfl rfl rfl rfl (Zc rfl rfl) ?_
    refine Zg ?_
    refine Zp ?_
    refine Yc ?he4 [0, 0] ?hl4 (Xc (X := Nat × Value × Sl × List UInt8 × Bool) (fun x_ => match x_ with | ⟨i, p, u, t, v⟩ => i ≤ s.l.length ∧ UsedOr b p ∧ Txt u t ∧ t = tx ++ (chainI (s.l.length : Int) ++ (s.l.take i).flatMap encLt) ∧ v = (w || (decide (1000 < (s.l.length : Int)) || (s.l.take i).any badLt))) (fun x_ => match x_ with | ⟨i, p, u, t, v⟩ => s.l.length - i) (fun x_ => match x_ with | ⟨i, p, u, t, v⟩ => [(0, .pointer (some ⟨b, 0, none⟩)), (1, .pointer (some ⟨bx, k, none⟩)), (2, .func (.func 108) #[.pointer (some ⟨b, 0, none⟩)] #[]), (41, .int .i64 (s.l.length : Int)), (42, .int .i64 (i : Int))]) (fun x_ => match x_ with | ⟨i, p, u, t, v⟩ => [(some b, .cells #[p, u.v (t).length, .pointer none, .bool v] 80 (0, 0)), (u.ob, .cells u.cs 5 u.fz)]) ?round4 (0, .pointer (some ⟨b, 0, none⟩), u1, tx ++ chainI (s.l.length : Int), true) ?h04)
    case he4 => exact (And.intro rfl (And.intro rfl (And.intro rfl (And.intro rfl (And.intro rfl trivial)))))
    case hl4 => exact ⟨_, rfl⟩
    case h04 => exact ⟨Nat.zero_le _, .inr rfl, hu1, by simp, by simp [*]⟩
    case round4 =>
     intro x_ hJ ih
     try dsimp only at hJ ih
     obtain ⟨i, p, u, t, v⟩ := x_
     try dsimp only at hJ ih
     obtain ⟨hi, hp, hu, ht, hv⟩ := hJ
     show G _ _ [(0, .pointer (some ⟨b, 0, none⟩)), (1, .pointer (some ⟨bx, k, none⟩)), (2, .func (.func 108) #[.pointer (some ⟨b, 0, none⟩)] #[]), (41, .int .i64 (s.l.length : Int)), (42, .int .i64 (i : Int))] [(some b, .cells #[p, u.v (t).length, .pointer none, .bool v] 80 (0, 0)), (u.ob, .cells u.cs 5 u.fz)] _
     refine Zi ?_
     refine Zd (l := [0]) rfl ?_
     refine Za rfl rfl rfl rfl (Xh rfl rfl rfl) ?_
     refine Zg ?_
     refine Zi ?_
     refine Yl rfl (fun hc2 => ?_) (fun hc2 => ?_)
     ·
      refine Zu ?_
      refine Zi ?_
      refine Zp ?_
      refine Zi ?_
      refine Zd (l := [0, 1]) rfl ?_
      refine Za rfl rfl rfl rfl (Zc rfl rfl) ?_
      refine Za rfl rfl rfl rfl (Zk rfl rfl) ?_
      refine Zg ?_
      refine Zi ?_
      obtain ⟨x, hx⟩ := Xv (show i < s.l.length by omega)
      obtain ⟨bi, hb1, hb2, hss⟩ := hs.isS (i := i) (by omega)
      have hxo := hok x (List.mem_of_getElem? hx)
      have hfl := fmap_len encLt s.l (i + 1)
      rw [← Yw encLt hx, List.length_append] at hfl
      have htl := congrArg List.length ht
      simp only [List.length_append] at htl
      refine Zd (l := [0, 1, 2, 3, 4, 5, 6, 7]) rfl ?_
      refine Za rfl rfl rfl rfl (Zc rfl rfl) ?_
      refine Za rfl rfl rfl rfl (Ze rfl rfl) ?_
      refine Za rfl rfl rfl rfl (Zj rfl rfl (Zf 0 rfl) (Zr hk) Try.underlying29 rfl) ?_
      rw [hb1]
      refine Za rfl rfl rfl rfl (Zc rfl rfl) ?_
      refine Za rfl rfl rfl rfl (Zl (s := 6) rfl Try.underlying29 i_143 rfl rfl rfl rfl (by omega)) ?_
      refine Za rfl rfl rfl rfl (Xm (s := 6) (vs := (cLt x).toArray) rfl rfl (by rw [← hb2]; exact Zf 1 rfl) Try.underlying143 rfl i_143 rfl (hss.elem cLt_len hx) (by rfl)) ?_
      refine Yr rfl rfl rfl rfl (Xb rfl i_143 rfl) (fun b7 => ?_)
      refine Xl (l1 := []) (L' := [_, _, _]) rfl rfl rfl rfl (Xk (s := 6) rfl rfl rfl (Zf 0 rfl) (by rfl) i_143 rfl (by rfl) (by simp [Value.oneCell', cOp, cWk, cIv, cHr, cLt, cWt, cIt])) rfl ?_
      refine Zg ?_
      refine Zd (l := [0, 1]) rfl ?_
      refine Za rfl rfl rfl rfl (Zc rfl rfl) ?_
      refine G_callB (L2 := [_]) rfl rfl rfl rfl rfl rfl Try.call108 rfl (cw_letter b _ _ _ _ hp hu _ x _ _ hxo (by omega)) [1, 1] [2] rfl rfl ?_
      rintro v post ⟨rfl, p1, u1, hp1, hu1, rfl⟩
      show G _ _ _ [_, _, _] _
      refine Zg ?_
      refine Zs ?_
      refine Zd (l := [0, 1]) rfl ?_
      refine Za rfl rfl rfl rfl ((Yu rfl rfl rfl).int (Zv (by omega))) ?_
      refine Za rfl rfl rfl rfl (Zc rfl rfl) ?_
      refine Zg ?_
      refine Yc ?_ [0, 0] ?_ (ih (i + 1, p1, u1, t ++ encLt x, v || badLt x) ?_ ?_)
      · (refine (And.intro ?_ (And.intro ?_ (And.intro ?_ (And.intro ?_ (And.intro ?_ trivial))))) <;> first | rfl | exact Zm (by omega) | exact Zm (by simp))
      · exact ⟨_, rfl⟩
      · exact ⟨by omega, hp1, hu1, by rw [← Yw encLt hx, ht]; simp only [List.append_assoc], by rw [hv, ← Xx hx]; simp only [Bool.or_assoc]⟩
      · (first | omega | (dsimp only; omega))
     refine Yx rfl ?_
     refine Xa (post := [_, _]) Try.func107 rfl Zo [0, 0] rfl ?_
     dsimp only [packed]
     have e : s.l.take i = s.l := List.take_of_length_le (by omega)
     rw [e] at ht hv
     subst ht hv
     exact ⟨rfl, p, u, hp, hu, rfl⟩
 refine Za rfl rfl rfl rfl (Zc rfl rfl) ?_
 refine Za rfl rfl rfl rfl (Ze rfl rfl) ?_
 refine Za rfl rfl rfl rfl (Zj rfl rfl (Zf 0 rfl) (Zr hk) Try.underlying29 rfl) ?_
 refine Za rfl rfl rfl rfl (Yf rfl rfl Try.underlying29 rfl) ?_
 refine Za rfl rfl rfl rfl (V_gtr rfl rfl rfl) ?_
 refine Za rfl rfl rfl rfl (Xu rfl rfl rfl) ?_
 refine Za rfl rfl rfl rfl (Ze rfl rfl) ?_
 refine Za rfl rfl rfl rfl (Zb (fo := 3) rfl Try.underlying80 rfl i_4 rfl rfl rfl) ?_
 refine Xl (l1 := []) (L' := [_, _]) rfl rfl rfl rfl (Zq rfl rfl rfl (Zf 0 rfl) (by first | exact of_decide_eq_true rfl | omega | (simp [cOp, cWk, cIv, cHr, cLt, cWt, cIt]; done) | (simp [cOp, cWk, cIv, cHr, cLt, cWt, cIt]; omega) | (simp [cOp, cWk, cIv, cHr, cLt, cWt, cIt] at *; omega)) i_4 rfl rfl) rfl ?_
 refine Zg ?_
 refine Zi ?_
 refine Ya (Lq := []) (isq := []) (m := 10) Ym rfl rfl ?_
 refine Zh 0 rfl rfl rfl rfl (by kernel_rfl) (fun _ _ => Zc rfl rfl) ?_
 refine Zh 1 rfl rfl rfl rfl (by kernel_rfl) (fun _ _ => Ze rfl rfl) ?_
 refine Zh 2 rfl rfl rfl rfl (by kernel_rfl) (fun _ _ => Zb (fo := 0) rfl Try.underlying80 rfl i_78 rfl rfl rfl) ?_
 refine Zh 3 rfl rfl rfl rfl (by kernel_rfl) (fun _ _ => Zc rfl rfl) ?_
 refine Zh 4 rfl rfl rfl rfl (by kernel_rfl) (fun _ _ => Ze rfl rfl) ?_
 refine Zh 5 rfl rfl rfl rfl (by kernel_rfl) (fun _ _ => Zj rfl rfl (Zf 0 rfl) (Zr hk) Try.underlying29 rfl) ?_
 refine Zh 6 rfl rfl rfl rfl (by kernel_rfl) (fun _ _ => Yf rfl rfl Try.underlying29 rfl) ?_
 refine Zh 7 rfl rfl rfl rfl (by kernel_rfl) (fun _ _ => (V_conv rfl rfl Try.underlying3 Try.underlying23).int (Xs (by omega))) ?_
 refine GH_all [8] (by kernel_rfl) (by decide) ?_
 refine (And.intro ?_ trivial)
 ·
  refine Zz (L2 := [_, _]) rfl rfl rfl rfl rfl rfl Try.call80 (Xw _ (by omega) (by omega)) [] [] rfl rfl [] (by rintro v post ⟨rfl, rfl⟩; exact ⟨_, rfl⟩) ?_
  rintro v post ⟨rfl, rfl⟩
  show GH _ _ _ _ _ _ _ [_, _] _
  refine GH_all [9] (by kernel_rfl) (by decide) ?_
  refine (And.intro ?_ trivial)
  ·
   refine Zz (L2 := []) rfl rfl rfl rfl rfl rfl Try.call79 (Xo _ _ _ _ _ _ _ hp hu (by omega)) [0, 0] [] rfl rfl [] (by rintro v post ⟨rfl, u1, hu1, rfl⟩; exact ⟨_, rfl⟩) ?_
   rintro v post ⟨rfl, u1, hu1, rfl⟩
   show GH _ _ _ _ _ _ _ [_, _] _
   refine Zw (by kernel_rfl) ?_
   refine Zi ?_
   refine Zi ?_
   refine Zd (l := [0, 1, 2, 3, 4]) rfl ?_
   refine Za rfl rfl rfl rfl (Zc rfl rfl) ?_
   refine Za rfl rfl rfl rfl (Ze rfl rfl) ?_
   refine Za rfl rfl rfl rfl (Zj rfl rfl (Zf 0 rfl) (Zr hk) Try.underlying29 rfl) ?_
   refine Za rfl rfl rfl rfl (Yf rfl rfl Try.underlying29 rfl) ?_
   refine Za rfl rfl rfl rfl (Zc rfl rfl) ?_
   refine Zg ?_
   refine Zp ?_
   refine Yc ?he4 [0, 0] ?hl4 (Xc (X := Nat × Value × Sl × List UInt8 × Bool) (fun x_ => match x_ with | ⟨i, p, u, t, v⟩ => i ≤ s.l.length ∧ UsedOr b p ∧ Txt u t ∧ t = tx ++ (chainI (s.l.length : Int) ++ (s.l.take i).flatMap encLt) ∧ v = (w || (decide (1000 < (s.l.length : Int)) || (s.l.take i).any badLt))) (fun x_ => match x_ with | ⟨i, p, u, t, v⟩ => s.l.length - i) (fun x_ => match x_ with | ⟨i, p, u, t, v⟩ => [(0, .pointer (some ⟨b, 0, none⟩)), (1, .pointer (some ⟨bx, k, none⟩)), (2, .func (.func 108) #[.pointer (some ⟨b, 0, none⟩)] #[]), (41, .int .i64 (s.l.length : Int)), (42, .int .i64 (i : Int))]) (fun x_ => match x_ with | ⟨i, p, u, t, v⟩ => [(some b, .cells #[p, u.v (t).length, .pointer none, .bool v] 80 (0, 0)), (u.ob, .cells u.cs 5 u.fz)]) ?round4 (0, .pointer (some ⟨b, 0, none⟩), u1, tx ++ chainI (s.l.length : Int), (decide (1000 < (s.l.length : Int)))) ?h04)
   case he4 => exact (And.intro rfl (And.intro rfl (And.intro rfl (And.intro rfl (And.intro rfl trivial)))))
   case hl4 => exact ⟨_, rfl⟩
   case h04 => exact ⟨Nat.zero_le _, .inr rfl, hu1, by simp, by simp [*]⟩
   case round4 =>
    intro x_ hJ ih
    try dsimp only at hJ ih
    obtain ⟨i, p, u, t, v⟩ := x_
    try dsimp only at hJ ih
    obtain ⟨hi, hp, hu, ht, hv⟩ := hJ
    show G _ _ [(0, .pointer (some ⟨b, 0, none⟩)), (1, .pointer (some ⟨bx, k, none⟩)), (2, .func (.func 108) #[.pointer (some ⟨b, 0, none⟩)] #[]), (41, .int .i64 (s.l.length : Int)), (42, .int .i64 (i : Int))] [(some b, .cells #[p, u.v (t).length, .pointer none, .bool v] 80 (0, 0)), (u.ob, .cells u.cs 5 u.fz)] _
    refine Zi ?_
    refine Zd (l := [0]) rfl ?_
    refine Za rfl rfl rfl rfl (Xh rfl rfl rfl) ?_
    refine Zg ?_
    refine Zi ?_
    refine Yl rfl (fun hc2 => ?_) (fun hc2 => ?_)
    ·
     refine Zu ?_
     refine Zi ?_
     refine Zp ?_
     refine Zi ?_
     refine Zd (l := [0, 1]) rfl ?_
     refine Za rfl rfl rfl rfl (Zc rfl rfl) ?_
     refine Za rfl rfl rfl rfl (Zk rfl rfl) ?_
     refine Zg ?_
     refine Zi ?_
     obtain ⟨x, hx⟩ := Xv (show i < s.l.length by omega)
     obtain ⟨bi, hb1, hb2, hss⟩ := hs.isS (i := i) (by omega)
     have hxo := hok x (List.mem_of_getElem? hx)
     have hfl := fmap_len encLt s.l (i + 1)
     rw [← Yw encLt hx, List.length_append] at hfl
     have htl := congrArg List.length ht
     simp only [List.length_append] at htl
     refine Zd (l := [0, 1, 2, 3, 4, 5, 6, 7]) rfl ?_
     refine Za rfl rfl rfl rfl (Zc rfl rfl) ?_
     refine Za rfl rfl rfl rfl (Ze rfl rfl) ?_
     refine Za rfl rfl rfl rfl (Zj rfl rfl (Zf 0 rfl) (Zr hk) Try.underlying29 rfl) ?_
     rw [hb1]
     refine Za rfl rfl rfl rfl (Zc rfl rfl) ?_
     refine Za rfl rfl rfl rfl (Zl (s := 6) rfl Try.underlying29 i_143 rfl rfl rfl rfl (by omega)) ?_
     refine Za rfl rfl rfl rfl (Xm (s := 6) (vs := (cLt x).toArray) rfl rfl (by rw [← hb2]; exact Zf 1 rfl) Try.underlying143 rfl i_143 rfl (hss.elem cLt_len hx) (by rfl)) ?_
     refine Yr rfl rfl rfl rfl (Xb rfl i_143 rfl) (fun b7 => ?_)
     refine Xl (l1 := []) (L' := [_, _, _]) rfl rfl rfl rfl (Xk (s := 6) rfl rfl rfl (Zf 0 rfl) (by rfl) i_143 rfl (by rfl) (by simp [Value.oneCell', cOp, cWk, cIv, cHr, cLt, cWt, cIt])) rfl ?_
     refine Zg ?_
     refine Zd (l := [0, 1]) rfl ?_
     refine Za rfl rfl rfl rfl (Zc rfl rfl) ?_
     refine G_callB (L2 := [_]) rfl rfl rfl rfl rfl rfl Try.call108 rfl (cw_letter b _ _ _ _ hp hu _ x _ _ hxo (by omega)) [1, 1] [2] rfl rfl ?_
     rintro v post ⟨rfl, p1, u1, hp1, hu1, rfl⟩
     show G _ _ _ [_, _, _] _
     refine Zg ?_
     refine Zs ?_
     refine Zd (l := [0, 1]) rfl ?_
     refine Za rfl rfl rfl rfl ((Yu rfl rfl rfl).int (Zv (by omega))) ?_
     refine Za rfl rfl rfl rfl (Zc rfl rfl) ?_
     refine Zg ?_
     refine Yc ?_ [0, 0] ?_ (ih (i + 1, p1, u1, t ++ encLt x, v || badLt x) ?_ ?_)
     · (refine (And.intro ?_ (And.intro ?_ (And.intro ?_ (And.intro ?_ (And.intro ?_ trivial))))) <;> first | rfl | exact Zm (by omega) | exact Zm (by simp))
     · exact ⟨_, rfl⟩
     · exact ⟨by omega, hp1, hu1, by rw [← Yw encLt hx, ht]; simp only [List.append_assoc], by rw [hv, ← Xx hx]; simp only [Bool.or_assoc]⟩
     · (first | omega | (dsimp only; omega))
    refine Yx rfl ?_
    refine Xa (post := [_, _]) Try.func107 rfl Zo [0, 0] rfl ?_
    dsimp only [packed]
    have e : s.l.take i = s.l := List.take_of_length_le (by omega)
    rw [e] at ht hv
    subst ht hv
    exact ⟨rfl, p, u, hp, hu, rfl⟩

set_option maxRecDepth 100000 in
set_option maxHeartbeats 1000000 in
theorem cw_listWt (b : Nat) (p : Value) (u : Sl) (tx : List UInt8) (w : Bool) (hp : UsedOr b p) (hu : Txt u tx) (bx k : Nat) (cs : Array Value) (T : TypeId) (fz : Nat × Nat) (s : Ins Wt) (hs : InsOk 2 cWt s) (hok : ∀ x ∈ s.l, OkWt x) (hk : cs[k]? = some (.slice s.p s.l.length s.cap)) (hl : tx.length + (encL encWt s.l).length ≤ 140737488350000) :
    Ct Try.prog 109 [.pointer (some ⟨b, 0, none⟩), .pointer (some ⟨bx, k, none⟩), .func (.func 110) #[.pointer (some ⟨b, 0, none⟩)] #[]] [(some bx, .cells cs T fz), (s.ob, .cells s.cs s.T s.fr)] [(some b, .cells #[p, u.v (tx).length, .pointer none, .bool w] 80 (0, 0)), (u.ob, .cells u.cs 5 u.fz)] fun v post => v = .tuple #[] ∧ ∃ p1 u1, UsedOr b p1 ∧ Txt u1 (tx ++ encL encWt s.l) ∧ post = [(some b, .cells #[p1, u1.v (tx ++ encL encWt s.l).length, .pointer none, .bool (w || badL badWt s.l)] 80 (0, 0)), (u1.ob, .cells u1.cs 5 u1.fz)] := by
 have hl1 := hs.le
 have hl2 := hs.max
 have hln := hs.n
 have hcl := chainI_len (s.l.length : Int) (by omega) (by omega)
 have hl_ := hl
 unfold encL at hl_
 simp only [List.length_append] at hl_
 refine Yv Try.func109 rfl rfl (fun w0 => ?_)
 show G _ _ [(0, _), (1, _), (2, _)] _ _
 refine Zi ?_
 refine Zi ?_
 refine Zd (l := [0, 1, 2, 3, 4]) rfl ?_
 refine Za rfl rfl rfl rfl (Zc rfl rfl) ?_
 refine Za rfl rfl rfl rfl (Ze rfl rfl) ?_
 refine Za rfl rfl rfl rfl (Zb (fo := 2) rfl Try.underlying80 rfl i_74 rfl rfl rfl) ?_
 refine Za rfl rfl rfl rfl (Zj rfl rfl (Zf 2 rfl) rfl Try.underlying74 rfl) ?_
 refine Za rfl rfl rfl rfl (V_peqlN rfl Try.underlying74 rfl rfl) ?_
 refine Zg ?_
 refine G_then rfl ?_
 refine Zi ?_
 refine Zd (l := [0, 1, 2, 3, 4, 5, 6, 7, 8, 9, 10, 11, 12, 13, 14]) rfl ?_
 refine Za rfl rfl rfl rfl (Zc rfl rfl) ?_
 refine Za rfl rfl rfl rfl (Zc rfl rfl) ?_
 refine Za rfl rfl rfl rfl (Ze rfl rfl) ?_
 refine Za rfl rfl rfl rfl (Zb (fo := 3) rfl Try.underlying80 rfl i_4 rfl rfl rfl) ?_
 refine Za rfl rfl rfl rfl (Zj rfl rfl (Zf 2 rfl) rfl Try.underlying4 rfl) ?_
 refine Za rfl rfl rfl rfl (Zc rfl rfl) ?_
 refine G_split 19 rfl (fun hc1 => ?_) (fun hc1 => ?_)
 ·
  refine Zt rfl rfl rfl rfl ?_
  refine Zt rfl rfl rfl rfl ?_
  refine Zt rfl rfl rfl rfl ?_
  refine Zt rfl rfl rfl rfl ?_
  refine Zt rfl rfl rfl rfl ?_
  refine Za rfl rfl rfl rfl (Yk rfl rfl rfl) ?_
  refine Za rfl rfl rfl rfl (Ze rfl rfl) ?_
  refine Za rfl rfl rfl rfl (Zb (fo := 3) rfl Try.underlying80 rfl i_4 rfl rfl rfl) ?_
  refine Xl (l1 := []) (L' := [_, _]) rfl rfl rfl rfl (Zq rfl rfl rfl (Zf 0 rfl) (by first | exact of_decide_eq_true rfl | omega | (simp [cOp, cWk, cIv, cHr, cLt, cWt, cIt]; done) | (simp [cOp, cWk, cIv, cHr, cLt, cWt, cIt]; omega) | (simp [cOp, cWk, cIv, cHr, cLt, cWt, cIt] at *; omega)) i_4 rfl rfl) rfl ?_
  refine Zg ?_
  refine Zi ?_
  refine Ya (Lq := []) (isq := []) (m := 10) Ym rfl rfl ?_
  refine Zh 0 rfl rfl rfl rfl (by kernel_rfl) (fun _ _ => Zc rfl rfl) ?_
  refine Zh 1 rfl rfl rfl rfl (by kernel_rfl) (fun _ _ => Ze rfl rfl) ?_
  refine Zh 2 rfl rfl rfl rfl (by kernel_rfl) (fun _ _ => Zb (fo := 0) rfl Try.underlying80 rfl i_78 rfl rfl rfl) ?_
  refine Zh 3 rfl rfl rfl rfl (by kernel_rfl) (fun _ _ => Zc rfl rfl) ?_
  refine Zh 4 rfl rfl rfl rfl (by kernel_rfl) (fun _ _ => Ze rfl rfl) ?_
  refine Zh 5 rfl rfl rfl rfl (by kernel_rfl) (fun _ _ => Zj rfl rfl (Zf 0 rfl) (Zr hk) Try.underlying30 rfl) ?_
  refine Zh 6 rfl rfl rfl rfl (by kernel_rfl) (fun _ _ => Yf rfl rfl Try.underlying30 rfl) ?_
  refine Zh 7 rfl rfl rfl rfl (by kernel_rfl) (fun _ _ => (V_conv rfl rfl Try.underlying3 Try.underlying23).int (Xs (by omega))) ?_
  refine GH_all [8] (by kernel_rfl) (by decide) ?_
  refine (And.intro ?_ trivial)
  ·
   refine Zz (L2 := [_, _]) rfl rfl rfl rfl rfl rfl Try.call80 (Xw _ (by omega) (by omega)) [] [] rfl rfl [] (by rintro v post ⟨rfl, rfl⟩; exact ⟨_, rfl⟩) ?_
   rintro v post ⟨rfl, rfl⟩
   show GH _ _ _ _ _ _ _ [_, _] _
   refine GH_all [9] (by kernel_rfl) (by decide) ?_
   refine (And.intro ?_ trivial)
   ·
    refine Zz (L2 := []) rfl rfl rfl rfl rfl rfl Try.call79 (Xo _ _ _ _ _ _ _ hp hu (by omega)) [0, 0] [] rfl rfl [] (by rintro v post ⟨rfl, u1, hu1, rfl⟩; exact ⟨_, rfl⟩) ?_
    rintro v post ⟨rfl, u1, hu1, rfl⟩
    show GH _ _ _ _ _ _ _ [_, _] _
    refine Zw (by kernel_rfl) ?_
    refine Zi ?_
    refine Zi ?_
    refine Zd (l := [0, 1, 2, 3, 4]) rfl ?_
    refine Za rfl rfl rfl rfl (Zc rfl rfl) ?_
    refine Za rfl rfl rfl rfl (Ze rfl rfl) ?_
    refine Za rfl rfl rfl rfl (Zj rfl rfl (Zf 0 rfl) (Zr hk) Try.underlying30 rfl) ?_
    refine Za rfl rfl rfl rfl (Yf rfl rfl Try.underlying30 rfl) ?_
    refine Za rfl rfl rfl rfl (Zc rfl rfl) ?_
    refine Zg ?_
    refine Zp ?_
    refine Yc ?he4 [0, 0] ?hl4 (Xc (X := Nat × Value × Sl × List UInt8 × Bool) (fun x_ => match x_ with | ⟨i, p, u, t, v⟩ => i ≤ s.l.length ∧ UsedOr b p ∧ Txt u t ∧ t = tx ++ (chainI (s.l.length : Int) ++ (s.l.take i).flatMap encWt) ∧ v = (w || (decide (1000 < (s.l.length : Int)) || (s.l.take i).any badWt))) (fun x_ => match x_ with | ⟨i, p, u, t, v⟩ => s.l.length - i) (fun x_ => match x_ with | ⟨i, p, u, t, v⟩ => [(0, .pointer (some ⟨b, 0, none⟩)), (1, .pointer (some ⟨bx, k, none⟩)), (2, .func (.func 110) #[.pointer (some ⟨b, 0, none⟩)] #[]), (41, .int .i64 (s.l.length : Int)), (42, .int .i64 (i : Int))]) (fun x_ => match x_ with | ⟨i, p, u, t, v⟩ => [(some b, .cells #[p, u.v (t).length, .pointer none, .bool v] 80 (0, 0)), (u.ob, .cells u.cs 5 u.fz)]) ?round4 (0, .pointer (some ⟨b, 0, none⟩), u1, tx ++ chainI (s.l.length : Int), true) ?h04)
    case he4 => exact (And.intro rfl (And.intro rfl (And.intro rfl (And.intro rfl (And.intro rfl trivial)))))
    case hl4 => exact ⟨_, rfl⟩
    case h04 => exact ⟨Nat.zero_le _, .inr rfl, hu1, by simp, by simp [*]⟩
    case round4 =>
     intro x_ hJ ih
     try dsimp only at hJ ih
     obtain ⟨i, p, u, t, v⟩ := x_
     try dsimp only at hJ ih
     obtain ⟨hi, hp, hu, ht, hv⟩ := hJ
     show G _ _ [(0, .pointer (some ⟨b, 0, none⟩)), (1, .pointer (some ⟨bx, k, none⟩)), (2, .func (.func 110) #[.pointer (some ⟨b, 0, none⟩)] #[]), (41, .int .i64 (s.l.length : Int)), (42, .int .i64 (i : Int))] [(some b, .cells #[p, u.v (t).length, .pointer none, .bool v] 80 (0, 0)), (u.ob, .cells u.cs 5 u.fz)] _
     refine Zi ?_
     refine Zd (l := [0]) rfl ?_
     refine Za rfl rfl rfl rfl (Xh rfl rfl rfl) ?_
     refine Zg ?_
     refine Zi ?_
     refine Yl rfl (fun hc2 => ?_) (fun hc2 => ?_)
     ·
      refine Zu ?_
      refine Zi ?_
      refine Zp ?_
      refine Zi ?_
      refine Zd (l := [0, 1]) rfl ?_
      refine Za rfl rfl rfl rfl (Zc rfl rfl) ?_
      refine Za rfl rfl rfl rfl (Zk rfl rfl) ?_
      refine Zg ?_
      refine Zi ?_
      obtain ⟨x, hx⟩ := Xv (show i < s.l.length by omega)
      obtain ⟨bi, hb1, hb2, hss⟩ := hs.isS (i := i) (by omega)
      have hxo := hok x (List.mem_of_getElem? hx)
      have hfl := fmap_len encWt s.l (i + 1)
      rw [← Yw encWt hx, List.length_append] at hfl
      have htl := congrArg List.length ht
      simp only [List.length_append] at htl
      refine Zd (l := [0, 1, 2, 3, 4, 5, 6, 7]) rfl ?_
      refine Za rfl rfl rfl rfl (Zc rfl rfl) ?_
      refine Za rfl rfl rfl rfl (Ze rfl rfl) ?_
      refine Za rfl rfl rfl rfl (Zj rfl rfl (Zf 0 rfl) (Zr hk) Try.underlying30 rfl) ?_
      rw [hb1]
      refine Za rfl rfl rfl rfl (Zc rfl rfl) ?_
      refine Za rfl rfl rfl rfl (Zl (s := 2) rfl Try.underlying30 i_145 rfl rfl rfl rfl (by omega)) ?_
      refine Za rfl rfl rfl rfl (Xm (s := 2) (vs := (cWt x).toArray) rfl rfl (by rw [← hb2]; exact Zf 1 rfl) Try.underlying145 rfl i_145 rfl (hss.elem cWt_len hx) (by rfl)) ?_
      refine Yr rfl rfl rfl rfl (Xb rfl i_145 rfl) (fun b7 => ?_)
      refine Xl (l1 := []) (L' := [_, _, _]) rfl rfl rfl rfl (Xk (s := 2) rfl rfl rfl (Zf 0 rfl) (by rfl) i_145 rfl (by rfl) (by simp [Value.oneCell', cOp, cWk, cIv, cHr, cLt, cWt, cIt])) rfl ?_
      refine Zg ?_
      refine Zd (l := [0, 1]) rfl ?_
      refine Za rfl rfl rfl rfl (Zc rfl rfl) ?_
      refine G_callB (L2 := [_]) rfl rfl rfl rfl rfl rfl Try.call110 rfl (cw_watcher b _ _ _ _ hp hu _ x _ _ hxo (by omega)) [1, 1] [2] rfl rfl ?_
      rintro v post ⟨rfl, p1, u1, hp1, hu1, rfl⟩
      show G _ _ _ [_, _, _] _
      refine Zg ?_
      refine Zs ?_
      refine Zd (l := [0, 1]) rfl ?_
      refine Za rfl rfl rfl rfl ((Yu rfl rfl rfl).int (Zv (by omega))) ?_
      refine Za rfl rfl rfl rfl (Zc rfl rfl) ?_
      refine Zg ?_
      refine Yc ?_ [0, 0] ?_ (ih (i + 1, p1, u1, t ++ encWt x, v || badWt x) ?_ ?_)
      · (refine (And.intro ?_ (And.intro ?_ (And.intro ?_ (And.intro ?_ (And.intro ?_ trivial))))) <;> first | rfl | exact Zm (by omega) | exact Zm (by simp))
      · exact ⟨_, rfl⟩
      · exact ⟨by omega, hp1, hu1, by rw [← Yw encWt hx, ht]; simp only [List.append_assoc], by rw [hv, ← Xx hx]; simp only [Bool.or_assoc]⟩
      · (first | omega | (dsimp only; omega))
     refine Yx rfl ?_
     refine Xa (post := [_, _]) Try.func109 rfl Zo [0, 0] rfl ?_
     dsimp only [packed]
     have e : s.l.take i = s.l := List.take_of_length_le (by omega)
     rw [e] at ht hv
     subst ht hv
     exact ⟨rfl, p, u, hp, hu, rfl⟩
 refine Za rfl rfl rfl rfl (Zc rfl rfl) ?_
 refine Za rfl rfl rfl rfl (Ze rfl rfl) ?_
 refine Za rfl rfl rfl rfl (Zj rfl rfl (Zf 0 rfl) (Zr hk) Try.underlying30 rfl) ?_
 refine Za rfl rfl rfl rfl (Yf rfl rfl Try.underlying30 rfl) ?_
 refine Za rfl rfl rfl rfl (V_gtr rfl rfl rfl) ?_
 refine Za rfl rfl rfl rfl (Xu rfl rfl rfl) ?_
 refine Za rfl rfl rfl rfl (Ze rfl rfl) ?_
 refine Za rfl rfl rfl rfl (Zb (fo := 3) rfl Try.underlying80 rfl i_4 rfl rfl rfl) ?_
 refine Xl (l1 := []) (L' := [_, _]) rfl rfl rfl rfl (Zq rfl rfl rfl (Zf 0 rfl) (by first | exact of_decide_eq_true rfl | omega | (simp [cOp, cWk, cIv, cHr, cLt, cWt, cIt]; done) | (simp [cOp, cWk, cIv, cHr, cLt, cWt, cIt]; omega) | (simp [cOp, cWk, cIv, cHr, cLt, cWt, cIt] at *; omega)) i_4 rfl rfl) rfl ?_
 refine Zg ?_
 refine Zi ?_
 refine Ya (Lq := []) (isq := []) (m := 10) Ym rfl rfl ?_
 refine Zh 0 rfl rfl rfl rfl (by kernel_rfl) (fun _ _ => Zc rfl rfl) ?_
 refine Zh 1 rfl rfl rfl rfl (by kernel_rfl) (fun _ _ => Ze rfl rfl) ?_
 refine Zh 2 rfl rfl rfl rfl (by kernel_rfl) (fun _ _ => Zb (fo := 0) rfl Try.underlying80 rfl i_78 rfl rfl rfl) ?_
 refine Zh 3 rfl rfl rfl rfl (by kernel_rfl) (fun _ _ => Zc rfl rfl) ?_
 refine Zh 4 rfl rfl rfl rfl (by kernel_rfl) (fun _ _ => Ze rfl rfl) ?_
 refine Zh 5 rfl rfl rfl rfl (by kernel_rfl) (fun _ _ => Zj rfl rfl (Zf 0 rfl) (Zr hk) Try.underlying30 rfl) ?_
 refine Zh 6 rfl rfl rfl rfl (by kernel_rfl) (fun _ _ => Yf rfl rfl Try.underlying30 rfl) ?_
 refine Zh 7 rfl rfl rfl rfl (by kernel_rfl) (fun _ _ => (V_conv rfl rfl Try.underlying3 Try.underlying23).int (Xs (by omega))) ?_
 refine GH_all [8] (by kernel_rfl) (by decide) ?_
 refine (And.intro ?_ trivial)
 ·
  refine Zz (L2 := [_, _]) rfl rfl rfl rfl rfl rfl Try.call80 (Xw _ (by omega) (by omega)) [] [] rfl rfl [] (by rintro v post ⟨rfl, rfl⟩; exact ⟨_, rfl⟩) ?_
  rintro v post ⟨rfl, rfl⟩
  show GH _ _ _ _ _ _ _ [_, _] _
  refine GH_all [9] (by kernel_rfl) (by decide) ?_
  refine (And.intro ?_ trivial)
  ·
   refine Zz (L2 := []) rfl rfl rfl rfl rfl rfl Try.call79 (Xo _ _ _ _ _ _ _ hp hu (by omega)) [0, 0] [] rfl rfl [] (by rintro v post ⟨rfl, u1, hu1, rfl⟩; exact ⟨_, rfl⟩) ?_
   rintro v post ⟨rfl, u1, hu1, rfl⟩
   show GH _ _ _ _ _ _ _ [_, _] _
   refine Zw (by kernel_rfl) ?_
   refine Zi ?_
   refine Zi ?_
   refine Zd (l := [0, 1, 2, 3, 4]) rfl ?_
   refine Za rfl rfl rfl rfl (Zc rfl rfl) ?_
   refine Za rfl rfl rfl rfl (Ze rfl rfl) ?_
   refine Za rfl rfl rfl rfl (Zj rfl rfl (Zf 0 rfl) (Zr hk) Try.underlying30 rfl) ?_
   refine Za rfl rfl rfl rfl (Yf rfl rfl Try.underlying30 rfl) ?_
   refine Za rfl rfl rfl rfl (Zc rfl rfl) ?_
   refine Zg ?_
   refine Zp ?_
   refine Yc ?he4 [0, 0] ?hl4 (Xc (X := Nat × Value × Sl × List UInt8 × Bool) (fun x_ => match x_ with | ⟨i, p, u, t, v⟩ => i ≤ s.l.length ∧ UsedOr b p ∧ Txt u t ∧ t = tx ++ (chainI (s.l.length : Int) ++ (s.l.take i).flatMap encWt) ∧ v = (w || (decide (1000 < (s.l.length : Int)) || (s.l.take i).any badWt))) (fun x_ => match x_ with | ⟨i, p, u, t, v⟩ => s.l.length - i) (fun x_ => match x_ with | ⟨i, p, u, t, v⟩ => [(0, .pointer (some ⟨b, 0, none⟩)), (1, .pointer (some ⟨bx, k, none⟩)), (2, .func (.func 110) #[.pointer (some ⟨b, 0, none⟩)] #[]), (41, .int .i64 (s.l.length : Int)), (42, .int .i64 (i : Int))]) (fun x_ => match x_ with | ⟨i, p, u, t, v⟩ => [(some b, .cells #[p, u.v (t).length, .pointer none, .bool v] 80 (0, 0)), (u.ob, .cells u.cs 5 u.fz)]) ?round4 (0, .pointer (some ⟨b, 0, none⟩), u1, tx ++ chainI (s.l.length : Int), (decide (1000 < (s.l.length : Int)))) ?h04)
   case he4 => exact (And.intro rfl (And.intro rfl (And.intro rfl (And.intro rfl (And.intro rfl trivial)))))
   case hl4 => exact ⟨_, rfl⟩
   case h04 => exact ⟨Nat.zero_le _, .inr rfl, hu1, by simp, by simp [*]⟩
   case round4 =>
    intro x_ hJ ih
    try dsimp only at hJ ih
    obtain ⟨i, p, u, t, v⟩ := x_
    try dsimp only at hJ ih
    obtain ⟨hi, hp, hu, ht, hv⟩ := hJ
    show G _ _ [(0, .pointer (some ⟨b, 0, none⟩)), (1, .pointer (some ⟨bx, k, none⟩)), (2, .func (.func 110) #[.pointer (some ⟨b, 0, none⟩)] #[]), (41, .int .i64 (s.l.length : Int)), (42, .int .i64 (i : Int))] [(some b, .cells #[p, u.v (t).length, .pointer none, .bool v] 80 (0, 0)), (u.ob, .cells u.cs 5 u.fz)] _
    refine Zi ?_
    refine Zd (l := [0]) rfl ?_
    refine Za rfl rfl rfl rfl (Xh rfl rfl rfl) ?_
    refine Zg ?_
    refine Zi ?_
    refine Yl rfl (fun hc2 => ?_) (fun hc2 => ?_)
    ·
     refine Zu ?_
     refine Zi ?_
     refine Zp ?_
     refine Zi ?_
     refine Zd (l := [0, 1]) rfl ?_
     refine Za rfl rfl rfl rfl (Zc rfl rfl) ?_
     refine Za rfl rfl rfl rfl (Zk rfl rfl) ?_
     refine Zg ?_
     refine Zi ?_
     obtain ⟨x, hx⟩ := Xv (show i < s.l.length by omega)
     obtain ⟨bi, hb1, hb2, hss⟩ := hs.isS (i := i) (by omega)
     have hxo := hok x (List.mem_of_getElem? hx)
     have hfl := fmap_len encWt s.l (i + 1)
     rw [← Yw encWt hx, List.length_append] at hfl
     have htl := congrArg List.length ht
     simp only [List.length_append] at htl
     refine Zd (l := [0, 1, 2, 3, 4, 5, 6, 7]) rfl ?_
     refine Za rfl rfl rfl rfl (Zc rfl rfl) ?_
     refine Za rfl rfl rfl rfl (Ze rfl rfl) ?_
     refine Za rfl rfl rfl rfl (Zj rfl rfl (Zf 0 rfl) (Zr hk) Try.underlying30 rfl) ?_
     rw [hb1]
     refine Za rfl rfl rfl rfl (Zc rfl rfl) ?_
     refine Za rfl rfl rfl rfl (Zl (s := 2) rfl Try.underlying30 i_145 rfl rfl rfl rfl (by omega)) ?_
     refine Za rfl rfl rfl rfl (Xm (s := 2) (vs := (cWt x).toArray) rfl rfl (by rw [← hb2]; exact Zf 1 rfl) Try.underlying145 rfl i_145 rfl (hss.elem cWt_len hx) (by rfl)) ?_
     refine Yr rfl rfl rfl rfl (Xb rfl i_145 rfl) (fun b7 => ?_)
     refine Xl (l1 := []) (L' := [_, _, _]) rfl rfl rfl rfl (Xk (s := 2) rfl rfl rfl (Zf 0 rfl) (by rfl) i_145 rfl (by rfl) (by simp [Value.oneCell', cOp, cWk, cIv, cHr, cLt, cWt, cIt])) rfl ?_
     refine Zg ?_
     refine Zd (l := [0, 1]) rfl ?_
     refine Za rfl rfl rfl rfl (Zc rfl rfl) ?_
     refine G_callB (L2 := [_]) rfl rfl rfl rfl rfl rfl Try.call110 rfl (cw_watcher b _ _ _ _ hp hu _ x _ _ hxo (by omega)) [1, 1] [2] rfl rfl ?_
     rintro v post ⟨rfl, p1, u1, hp1, hu1, rfl⟩
     show G _ _ _ [_, _, _] _
     refine Zg ?_
     refine Zs ?_
     refine Zd (l := [0, 1]) rfl ?_
     refine Za rfl rfl rfl rfl ((Yu rfl rfl rfl).int (Zv (by omega))) ?_
     refine Za rfl rfl rfl rfl (Zc rfl rfl) ?_
     refine Zg ?_
     refine Yc ?_ [0, 0] ?_ (ih (i + 1, p1, u1, t ++ encWt x, v || badWt x) ?_ ?_)
     · (refine (And.intro ?_ (And.intro ?_ (And.intro ?_ (And.intro ?_ (And.intro ?_ trivial))))) <;> first | rfl | exact Zm (by omega) | exact Zm (by simp))
     · exact ⟨_, rfl⟩
     · exact ⟨by omega, hp1, hu1, by rw [← Yw encWt hx, ht]; simp only [List.append_assoc], by rw [hv, ← Xx hx]; simp only [Bool.or_assoc]⟩
     · (first | omega | (dsimp only; omega))
    refine Yx rfl ?_
    refine Xa (post := [_, _]) Try.func109 rfl Zo [0, 0] rfl ?_
    dsimp only [packed]
    have e : s.l.take i = s.l := List.take_of_length_le (by omega)
    rw [e] at ht hv
    subst ht hv
    exact ⟨rfl, p, u, hp, hu, rfl⟩

end
end Go.Proofs.Ytjnaeoelnmhjfaa

set_option linter.unusedSimpArgs false
set_option linter.unusedVariables false
namespace Go.Proofs.Ytjnaeoelnmhjfaa
open Go Go.RowKit

section
theorem i_109 : Try.prog.info? 109 = some Try.t109 := by kernel_rfl
theorem i_204 : Try.prog.info? 204 = some Try.t204 := by kernel_rfl
theorem i_206 : Try.prog.info? 206 = some Try.t206 := by kernel_rfl
theorem i_215 : Try.prog.info? 215 = some Try.t215 := by kernel_rfl
theorem i_250 : Try.prog.info? 250 = some Try.t250 := by kernel_rfl
theorem i_258 : Try.prog.info? 258 = some Try.t258 := by kernel_rfl


abbrev HBk := Option Nat × Obj
theorem sub_el {α : Type} {K : α → List HBk} {l : List α} {i : Nat} {x : α} (hx : l[i]? = some x) {b : HBk} {A1 L : List HBk} (hb : b ∈ (A1 ++ l.flatMap K) ++ L) : ∀ z ∈ b :: K x, z ∈ (A1 ++ l.flatMap K) ++ L := by
  intro z hz
  rcases List.mem_cons.1 hz with rfl | hz
  · exact hb
  · exact List.mem_append_left _ (List.mem_append_right _ (List.mem_flatMap.2 ⟨x, List.mem_of_getElem? hx, hz⟩))
/-- An invocation that waits. -/
structure Fl where
  v0 : Int
  v1 : Int
  v2 : Int
  s : Ins It
def cFl (x : Fl) : List Value := [.int .i64 x.v0, .int .i64 x.v1, .int .i64 x.v2, .slice x.s.p x.s.l.length x.s.cap]
theorem cFl_len (x : Fl) : (cFl x).length = 4 := rfl
def encFl (x : Fl) : List UInt8 := encIs [x.v0, x.v1, x.v2] ++ encL encIt x.s.l
def badFl (x : Fl) : Bool := [x.v0, x.v1, x.v2].any badI || badL badIt x.s.l
def OkFl (x : Fl) : Prop := InsOk 2 cIt x.s ∧ ∀ y ∈ x.s.l, OkIt y
def kFl (x : Fl) : List HBk := [insK x.s]
/-- A tenant that waits, as the program has it. -/
structure Tn where
  v0 : Int
  v1 : Int
  v2 : Int
  g : Bool
  s : Ins Fl

set_option maxRecDepth 100000 in
set_option maxHeartbeats 1000000 in
theorem cw_flow (b : Nat) (p : Value) (u : Sl) (tx : List UInt8) (w : Bool) (hp : UsedOr b p) (hu : Txt u tx) (bx : Nat) (x : Fl) (T : TypeId) (fz : Nat × Nat) (hx : OkFl x) (hl : tx.length + (encFl x).length ≤ 140737488350000) :
    Ct Try.prog 174 [.pointer (some ⟨b, 0, none⟩), .pointer (some ⟨bx, 0, none⟩)] ((some bx, .cells (cFl x).toArray T fz) :: kFl x) [(some b, .cells #[p, u.v (tx).length, .pointer none, .bool w] 80 (0, 0)), (u.ob, .cells u.cs 5 u.fz)] fun v post => v = .tuple #[] ∧ ∃ p1 u1, UsedOr b p1 ∧ Txt u1 (tx ++ encFl x) ∧ post = [(some b, .cells #[p1, u1.v (tx ++ encFl x).length, .pointer none, .bool (w || badFl x)] 80 (0, 0)), (u1.ob, .cells u1.cs 5 u1.fz)] := by
 have hl_ := hl
 unfold encFl at hl_
 simp only [List.length_append] at hl_
 refine Yv Try.func174 rfl rfl (fun w0 => ?_)
 show G _ _ [(0, _), (1, _)] _ _
 refine Zi ?_
 refine Ya (Lq := []) (isq := []) (m := 12) Ym rfl rfl ?_
 refine Zh 0 rfl rfl rfl rfl (by kernel_rfl) (fun _ _ => Zc rfl rfl) ?_
 refine Zh 1 rfl rfl rfl rfl (by kernel_rfl) (fun _ _ => Zc rfl rfl) ?_
 refine Zh 2 rfl rfl rfl rfl (by kernel_rfl) (fun _ _ => Ze rfl rfl) ?_
 refine Zh 3 rfl rfl rfl rfl (by kernel_rfl) (fun _ _ => Zb (fo := 0) rfl Try.underlying258 rfl i_3 rfl rfl rfl) ?_
 refine Zh 4 rfl rfl rfl rfl (by kernel_rfl) (fun _ _ => Zc rfl rfl) ?_
 refine Zh 5 rfl rfl rfl rfl (by kernel_rfl) (fun _ _ => Ze rfl rfl) ?_
 refine Zh 6 rfl rfl rfl rfl (by kernel_rfl) (fun _ _ => Zb (fo := 1) rfl Try.underlying258 rfl i_3 rfl rfl rfl) ?_
 refine Zh 7 rfl rfl rfl rfl (by kernel_rfl) (fun _ _ => Zc rfl rfl) ?_
 refine Zh 8 rfl rfl rfl rfl (by kernel_rfl) (fun _ _ => Ze rfl rfl) ?_
 refine Zh 9 rfl rfl rfl rfl (by kernel_rfl) (fun _ _ => Zb (fo := 2) rfl Try.underlying258 rfl i_3 rfl rfl rfl) ?_
 refine GH_all [10] (by kernel_rfl) (by decide) ?_
 refine (And.intro ?_ trivial)
 ·
  refine Yz rfl rfl rfl rfl (Zn (s := 1) (cs := [_, _, _]) rfl Try.underlying241 i_176 rfl rfl rfl rfl rfl rfl rfl rfl rfl) [] (fun _ => ⟨_, rfl⟩) (fun b14 => ?_)
  refine GH_all [11] (by kernel_rfl) (by decide) ?_
  refine (And.intro ?_ trivial)
  ·
   refine Xq (L2 := [_]) rfl rfl rfl rfl rfl rfl Try.call96 (cw_intsL b _ _ _ _ hp hu _ _ bx (cFl x).toArray T fz [(0, x.v0), (1, x.v1), (2, x.v2)] (by simp) ⟨rfl, rfl, rfl, trivial⟩ (by (try simp only [List.map_cons, List.map_nil, List.length_append]); omega)) [1, 1] rfl (Yb (List.mem_append_right _ (Zf 0 rfl)) (Yb (List.mem_append_left _ (Zf 0 rfl)) Yd)) [] (by rintro v post ⟨rfl, p1, u1, hp1, hu1, rfl⟩; exact ⟨_, rfl⟩) ?_
   rintro v post ⟨rfl, p1, u1, hp1, hu1, rfl⟩
   show GH _ _ _ _ _ _ _ [_, _, _] _
   refine Zw (by kernel_rfl) ?_
   refine Zd (l := [0, 1, 2, 3, 4, 5, 6]) rfl ?_
   refine Za rfl rfl rfl rfl (Zc rfl rfl) ?_
   refine Za rfl rfl rfl rfl (Zc rfl rfl) ?_
   refine Za rfl rfl rfl rfl (Ze rfl rfl) ?_
   refine Za rfl rfl rfl rfl (Zb (fo := 3) rfl Try.underlying258 rfl i_215 rfl rfl rfl) ?_
   refine Za rfl rfl rfl rfl (Zc rfl rfl) ?_
   refine Za rfl rfl rfl rfl (V_func rfl rfl rfl) ?_
   refine Yn (L2 := [_]) rfl rfl rfl rfl rfl rfl Try.call178 (cw_listIt b _ _ _ _ hp1 hu1 bx 3 (cFl x).toArray T fz x.s hx.1 hx.2 rfl (by (try simp only [List.map_cons, List.map_nil, List.length_append]); omega)) [0, 0] rfl (fun z hz => List.mem_append_left _ hz) ?_
   rintro v post ⟨rfl, p1, u1, hp1, hu1, rfl⟩
   show G _ _ _ [_, _, _] _
   refine Zg ?_
   refine G_end (post := [_, _]) Try.func174 rfl Zo [0, 0] rfl ?_
   dsimp only [packed]
   refine ⟨rfl, p1, u1, hp1, ?_, ?_⟩
   · simpa only [encFl, List.map_cons, List.map_nil, List.append_assoc] using hu1
   · simp only [encFl, badFl, List.map_cons, List.map_nil, List.append_assoc, Bool.or_assoc]

set_option maxRecDepth 100000 in
set_option maxHeartbeats 1000000 in
theorem cw_listFl (b : Nat) (p : Value) (u : Sl) (tx : List UInt8) (w : Bool) (hp : UsedOr b p) (hu : Txt u tx) (bx k : Nat) (cs : Array Value) (T : TypeId) (fz : Nat × Nat) (s : Ins Fl) (hs : InsOk 4 cFl s) (hok : ∀ x ∈ s.l, OkFl x) (hk : cs[k]? = some (.slice s.p s.l.length s.cap)) (hl : tx.length + (encL encFl s.l).length ≤ 140737488350000) :
    Ct Try.prog 173 [.pointer (some ⟨b, 0, none⟩), .pointer (some ⟨bx, k, none⟩), .func (.func 174) #[.pointer (some ⟨b, 0, none⟩)] #[]] ((some bx, .cells cs T fz) :: (s.ob, .cells s.cs s.T s.fr) :: s.l.flatMap kFl) [(some b, .cells #[p, u.v (tx).length, .pointer none, .bool w] 80 (0, 0)), (u.ob, .cells u.cs 5 u.fz)] fun v post => v = .tuple #[] ∧ ∃ p1 u1, UsedOr b p1 ∧ Txt u1 (tx ++ encL encFl s.l) ∧ post = [(some b, .cells #[p1, u1.v (tx ++ encL encFl s.l).length, .pointer none, .bool (w || badL badFl s.l)] 80 (0, 0)), (u1.ob, .cells u1.cs 5 u1.fz)] := by
 have hl1 := hs.le
 have hl2 := hs.max
 have hln := hs.n
 have hcl := chainI_len (s.l.length : Int) (by omega) (by omega)
 have hl_ := hl
 unfold encL at hl_
 simp only [List.length_append] at hl_
 refine Yv Try.func173 rfl rfl (fun w0 => ?_)
 show G _ _ [(0, _), (1, _), (2, _)] _ _
 refine Zi ?_
 refine Zi ?_
 refine Zd (l := [0, 1, 2, 3, 4]) rfl ?_
 refine Za rfl rfl rfl rfl (Zc rfl rfl) ?_
 refine Za rfl rfl rfl rfl (Ze rfl rfl) ?_
 refine Za rfl rfl rfl rfl (Zb (fo := 2) rfl Try.underlying80 rfl i_74 rfl rfl rfl) ?_
 refine Za rfl rfl rfl rfl (Zj rfl rfl (List.mem_append_right _ (Zf 0 rfl)) rfl Try.underlying74 rfl) ?_
 refine Za rfl rfl rfl rfl (V_peqlN rfl Try.underlying74 rfl rfl) ?_
 refine Zg ?_
 refine G_then rfl ?_
 refine Zi ?_
 refine Zd (l := [0, 1, 2, 3, 4, 5, 6, 7, 8, 9, 10, 11, 12, 13, 14]) rfl ?_
 refine Za rfl rfl rfl rfl (Zc rfl rfl) ?_
 refine Za rfl rfl rfl rfl (Zc rfl rfl) ?_
 refine Za rfl rfl rfl rfl (Ze rfl rfl) ?_
 refine Za rfl rfl rfl rfl (Zb (fo := 3) rfl Try.underlying80 rfl i_4 rfl rfl rfl) ?_
 refine Za rfl rfl rfl rfl (Zj rfl rfl (List.mem_append_right _ (Zf 0 rfl)) rfl Try.underlying4 rfl) ?_
 refine Za rfl rfl rfl rfl (Zc rfl rfl) ?_
 refine G_split 19 rfl (fun hc1 => ?_) (fun hc1 => ?_)
 ·
  refine Zt rfl rfl rfl rfl ?_
  refine Zt rfl rfl rfl rfl ?_
  refine Zt rfl rfl rfl rfl ?_
  refine Zt rfl rfl rfl rfl ?_
  refine Zt rfl rfl rfl rfl ?_
  refine Za rfl rfl rfl rfl (Yk rfl rfl rfl) ?_
  refine Za rfl rfl rfl rfl (Ze rfl rfl) ?_
  refine Za rfl rfl rfl rfl (Zb (fo := 3) rfl Try.underlying80 rfl i_4 rfl rfl rfl) ?_
  refine Xl (l1 := []) (L' := [_, _]) rfl rfl rfl rfl (Zq rfl rfl rfl (Zf 0 rfl) (by first | exact of_decide_eq_true rfl | omega | (simp [cOp, cWk, cIv, cHr, cLt, cWt, cIt, cFl]; done) | (simp [cOp, cWk, cIv, cHr, cLt, cWt, cIt, cFl]; omega) | (simp [cOp, cWk, cIv, cHr, cLt, cWt, cIt, cFl] at *; omega)) i_4 rfl rfl) rfl ?_
  refine Zg ?_
  refine Zi ?_
  refine Ya (Lq := []) (isq := []) (m := 10) Ym rfl rfl ?_
  refine Zh 0 rfl rfl rfl rfl (by kernel_rfl) (fun _ _ => Zc rfl rfl) ?_
  refine Zh 1 rfl rfl rfl rfl (by kernel_rfl) (fun _ _ => Ze rfl rfl) ?_
  refine Zh 2 rfl rfl rfl rfl (by kernel_rfl) (fun _ _ => Zb (fo := 0) rfl Try.underlying80 rfl i_78 rfl rfl rfl) ?_
  refine Zh 3 rfl rfl rfl rfl (by kernel_rfl) (fun _ _ => Zc rfl rfl) ?_
  refine Zh 4 rfl rfl rfl rfl (by kernel_rfl) (fun _ _ => Ze rfl rfl) ?_
  refine Zh 5 rfl rfl rfl rfl (by kernel_rfl) (fun _ _ => Zj rfl rfl (List.mem_append_left _ (Zf 0 rfl)) (Zr hk) Try.underlying204 rfl) ?_
  refine Zh 6 rfl rfl rfl rfl (by kernel_rfl) (fun _ _ => Yf rfl rfl Try.underlying204 rfl) ?_
  refine Zh 7 rfl rfl rfl rfl (by kernel_rfl) (fun _ _ => (V_conv rfl rfl Try.underlying3 Try.underlying23).int (Xs (by omega))) ?_
  refine GH_all [8] (by kernel_rfl) (by decide) ?_
  refine (And.intro ?_ trivial)
  ·
   refine Xq (L2 := [_, _]) rfl rfl rfl rfl rfl rfl Try.call80 (Xw _ (by omega) (by omega)) [] rfl Yd [] (by rintro v post ⟨rfl, rfl⟩; exact ⟨_, rfl⟩) ?_
   rintro v post ⟨rfl, rfl⟩
   show GH _ _ _ _ _ _ _ [_, _] _
   refine GH_all [9] (by kernel_rfl) (by decide) ?_
   refine (And.intro ?_ trivial)
   ·
    refine Xq (L2 := []) rfl rfl rfl rfl rfl rfl Try.call79 (Xo _ _ _ _ _ _ _ hp hu (by omega)) [0, 0] rfl Yd [] (by rintro v post ⟨rfl, u1, hu1, rfl⟩; exact ⟨_, rfl⟩) ?_
    rintro v post ⟨rfl, u1, hu1, rfl⟩
    show GH _ _ _ _ _ _ _ [_, _] _
    refine Zw (by kernel_rfl) ?_
    refine Zi ?_
    refine Zi ?_
    refine Zd (l := [0, 1, 2, 3, 4]) rfl ?_
    refine Za rfl rfl rfl rfl (Zc rfl rfl) ?_
    refine Za rfl rfl rfl rfl (Ze rfl rfl) ?_
    refine Za rfl rfl rfl rfl (Zj rfl rfl (List.mem_append_left _ (Zf 0 rfl)) (Zr hk) Try.underlying204 rfl) ?_
    refine Za rfl rfl rfl rfl (Yf rfl rfl Try.underlying204 rfl) ?_
    refine Za rfl rfl rfl rfl (Zc rfl rfl) ?_
    refine Zg ?_
    refine Zp ?_
    refine Yc ?he4 [0, 0] ?hl4 (Xc (X := Nat × Value × Sl × List UInt8 × Bool) (fun x_ => match x_ with | ⟨i, p, u, t, v⟩ => i ≤ s.l.length ∧ UsedOr b p ∧ Txt u t ∧ t = tx ++ (chainI (s.l.length : Int) ++ (s.l.take i).flatMap encFl) ∧ v = (w || (decide (1000 < (s.l.length : Int)) || (s.l.take i).any badFl))) (fun x_ => match x_ with | ⟨i, p, u, t, v⟩ => s.l.length - i) (fun x_ => match x_ with | ⟨i, p, u, t, v⟩ => [(0, .pointer (some ⟨b, 0, none⟩)), (1, .pointer (some ⟨bx, k, none⟩)), (2, .func (.func 174) #[.pointer (some ⟨b, 0, none⟩)] #[]), (41, .int .i64 (s.l.length : Int)), (42, .int .i64 (i : Int))]) (fun x_ => match x_ with | ⟨i, p, u, t, v⟩ => [(some b, .cells #[p, u.v (t).length, .pointer none, .bool v] 80 (0, 0)), (u.ob, .cells u.cs 5 u.fz)]) ?round4 (0, .pointer (some ⟨b, 0, none⟩), u1, tx ++ chainI (s.l.length : Int), true) ?h04)
    case he4 => exact (And.intro rfl (And.intro rfl (And.intro rfl (And.intro rfl (And.intro rfl trivial)))))
    case hl4 => exact ⟨_, rfl⟩
    case h04 => exact ⟨Nat.zero_le _, .inr rfl, hu1, by simp, by simp [*]⟩
    case round4 =>
     intro x_ hJ ih
     try dsimp only at hJ ih
     obtain ⟨i, p, u, t, v⟩ := x_
     try dsimp only at hJ ih
     obtain ⟨hi, hp, hu, ht, hv⟩ := hJ
     show G _ _ [(0, .pointer (some ⟨b, 0, none⟩)), (1, .pointer (some ⟨bx, k, none⟩)), (2, .func (.func 174) #[.pointer (some ⟨b, 0, none⟩)] #[]), (41, .int .i64 (s.l.length : Int)), (42, .int .i64 (i : Int))] [(some b, .cells #[p, u.v (t).length, .pointer none, .bool v] 80 (0, 0)), (u.ob, .cells u.cs 5 u.fz)] _
     refine Zi ?_
     refine Zd (l := [0]) rfl ?_
     refine Za rfl rfl rfl rfl (Xh rfl rfl rfl) ?_
     refine Zg ?_
     refine Zi ?_
     refine Yl rfl (fun hc2 => ?_) (fun hc2 => ?_)
     ·
      refine Zu ?_
      refine Zi ?_
      refine Zp ?_
      refine Zi ?_
      refine Zd (l := [0, 1]) rfl ?_
      refine Za rfl rfl rfl rfl (Zc rfl rfl) ?_
      refine Za rfl rfl rfl rfl (Zk rfl rfl) ?_
      refine Zg ?_
      refine Zi ?_
      obtain ⟨x, hx⟩ := Xv (show i < s.l.length by omega)
      obtain ⟨bi, hb1, hb2, hss⟩ := hs.isS (i := i) (by omega)
      have hxo := hok x (List.mem_of_getElem? hx)
      have hfl := fmap_len encFl s.l (i + 1)
      rw [← Yw encFl hx, List.length_append] at hfl
      have htl := congrArg List.length ht
      simp only [List.length_append] at htl
      refine Zd (l := [0, 1, 2, 3, 4, 5, 6, 7]) rfl ?_
      refine Za rfl rfl rfl rfl (Zc rfl rfl) ?_
      refine Za rfl rfl rfl rfl (Ze rfl rfl) ?_
      refine Za rfl rfl rfl rfl (Zj rfl rfl (List.mem_append_left _ (Zf 0 rfl)) (Zr hk) Try.underlying204 rfl) ?_
      rw [hb1]
      refine Za rfl rfl rfl rfl (Zc rfl rfl) ?_
      refine Za rfl rfl rfl rfl (Zl (s := 4) rfl Try.underlying204 i_258 rfl rfl rfl rfl (by omega)) ?_
      refine Za rfl rfl rfl rfl (Xm (s := 4) (vs := (cFl x).toArray) rfl rfl (by rw [← hb2]; exact Zf 1 rfl) Try.underlying258 rfl i_258 rfl (hss.elem cFl_len hx) (by rfl)) ?_
      refine Yr rfl rfl rfl rfl (Xb rfl i_258 rfl) (fun b7 => ?_)
      refine Xl (l1 := []) (L' := [_, _, _]) rfl rfl rfl rfl (Xk (s := 4) rfl rfl rfl (Zf 0 rfl) (by rfl) i_258 rfl (by rfl) (by simp [Value.oneCell', cOp, cWk, cIv, cHr, cLt, cWt, cIt, cFl])) rfl ?_
      refine Zg ?_
      refine Zd (l := [0, 1]) rfl ?_
      refine Za rfl rfl rfl rfl (Zc rfl rfl) ?_
      refine G_callMB (L2 := [_]) rfl rfl rfl rfl rfl rfl Try.call174 rfl (cw_flow b _ _ _ _ hp hu _ x _ _ hxo (by omega)) [1, 1] rfl (sub_el (A1 := [_, _]) (K := kFl) hx (List.mem_append_right _ (Zf 0 rfl))) ?_
      rintro v post ⟨rfl, p1, u1, hp1, hu1, rfl⟩
      show G _ _ _ [_, _, _] _
      refine Zg ?_
      refine Zs ?_
      refine Zd (l := [0, 1]) rfl ?_
      refine Za rfl rfl rfl rfl ((Yu rfl rfl rfl).int (Zv (by omega))) ?_
      refine Za rfl rfl rfl rfl (Zc rfl rfl) ?_
      refine Zg ?_
      refine Yc ?_ [0, 0] ?_ (ih (i + 1, p1, u1, t ++ encFl x, v || badFl x) ?_ ?_)
      · (refine (And.intro ?_ (And.intro ?_ (And.intro ?_ (And.intro ?_ (And.intro ?_ trivial))))) <;> first | rfl | exact Zm (by omega) | exact Zm (by simp))
      · exact ⟨_, rfl⟩
      · exact ⟨by omega, hp1, hu1, by rw [← Yw encFl hx, ht]; simp only [List.append_assoc], by rw [hv, ← Xx hx]; simp only [Bool.or_assoc]⟩
      · (first | omega | (dsimp only; omega))
     refine Yx rfl ?_
     refine Xa (post := [_, _]) Try.func173 rfl Zo [0, 0] rfl ?_
     dsimp only [packed]
     have e : s.l.take i = s.l := List.take_of_length_le (by omega)
     rw [e] at ht hv
     subst ht hv
     exact ⟨rfl, p, u, hp, hu, rfl⟩
 refine Za rfl rfl rfl rfl (Zc rfl rfl) ?_
 refine Za rfl rfl rfl rfl (Ze rfl rfl) ?_
 refine Za rfl rfl rfl rfl (Zj rfl rfl (List.mem_append_left _ (Zf 0 rfl)) (Zr hk) Try.underlying204 rfl) ?_
 refine Za rfl rfl rfl rfl (Yf rfl rfl Try.underlying204 rfl) ?_
 refine Za rfl rfl rfl rfl (V_gtr rfl rfl rfl) ?_
 refine Za rfl rfl rfl rfl (Xu rfl rfl rfl) ?_
 refine Za rfl rfl rfl rfl (Ze rfl rfl) ?_
 refine Za rfl rfl rfl rfl (Zb (fo := 3) rfl Try.underlying80 rfl i_4 rfl rfl rfl) ?_
 refine Xl (l1 := []) (L' := [_, _]) rfl rfl rfl rfl (Zq rfl rfl rfl (Zf 0 rfl) (by first | exact of_decide_eq_true rfl | omega | (simp [cOp, cWk, cIv, cHr, cLt, cWt, cIt, cFl]; done) | (simp [cOp, cWk, cIv, cHr, cLt, cWt, cIt, cFl]; omega) | (simp [cOp, cWk, cIv, cHr, cLt, cWt, cIt, cFl] at *; omega)) i_4 rfl rfl) rfl ?_
 refine Zg ?_
 refine Zi ?_
 refine Ya (Lq := []) (isq := []) (m := 10) Ym rfl rfl ?_
 refine Zh 0 rfl rfl rfl rfl (by kernel_rfl) (fun _ _ => Zc rfl rfl) ?_
 refine Zh 1 rfl rfl rfl rfl (by kernel_rfl) (fun _ _ => Ze rfl rfl) ?_
 refine Zh 2 rfl rfl rfl rfl (by kernel_rfl) (fun _ _ => Zb (fo := 0) rfl Try.underlying80 rfl i_78 rfl rfl rfl) ?_
 refine Zh 3 rfl rfl rfl rfl (by kernel_rfl) (fun _ _ => Zc rfl rfl) ?_
 refine Zh 4 rfl rfl rfl rfl (by kernel_rfl) (fun _ _ => Ze rfl rfl) ?_
 refine Zh 5 rfl rfl rfl rfl (by kernel_rfl) (fun _ _ => Zj rfl rfl (List.mem_append_left _ (Zf 0 rfl)) (Zr hk) Try.underlying204 rfl) ?_
 refine Zh 6 rfl rfl rfl rfl (by kernel_rfl) (fun _ _ => Yf rfl rfl Try.underlying204 rfl) ?_
 refine Zh 7 rfl rfl rfl rfl (by kernel_rfl) (fun _ _ => (V_conv rfl rfl Try.underlying3 Try.underlying23).int (Xs (by omega))) ?_
 refine GH_all [8] (by kernel_rfl) (by decide) ?_
 refine (And.intro ?_ trivial)
 ·
  refine Xq (L2 := [_, _]) rfl rfl rfl rfl rfl rfl Try.call80 (Xw _ (by omega) (by omega)) [] rfl Yd [] (by rintro v post ⟨rfl, rfl⟩; exact ⟨_, rfl⟩) ?_
  rintro v post ⟨rfl, rfl⟩
  show GH _ _ _ _ _ _ _ [_, _] _
  refine GH_all [9] (by kernel_rfl) (by decide) ?_
  refine (And.intro ?_ trivial)
  ·
   refine Xq (L2 := []) rfl rfl rfl rfl rfl rfl Try.call79 (Xo _ _ _ _ _ _ _ hp hu (by omega)) [0, 0] rfl Yd [] (by rintro v post ⟨rfl, u1, hu1, rfl⟩; exact ⟨_, rfl⟩) ?_
   rintro v post ⟨rfl, u1, hu1, rfl⟩
   show GH _ _ _ _ _ _ _ [_, _] _
   refine Zw (by kernel_rfl) ?_
   refine Zi ?_
   refine Zi ?_
   refine Zd (l := [0, 1, 2, 3, 4]) rfl ?_
   refine Za rfl rfl rfl rfl (Zc rfl rfl) ?_
   refine Za rfl rfl rfl rfl (Ze rfl rfl) ?_
   refine Za rfl rfl rfl rfl (Zj rfl rfl (List.mem_append_left _ (Zf 0 rfl)) (Zr hk) Try.underlying204 rfl) ?_
   refine Za rfl rfl rfl rfl (Yf rfl rfl Try.underlying204 rfl) ?_
   refine Za rfl rfl rfl rfl (Zc rfl rfl) ?_
   refine Zg ?_
   refine Zp ?_
   refine Yc ?he4 [0, 0] ?hl4 (Xc (X := Nat × Value × Sl × List UInt8 × Bool) (fun x_ => match x_ with | ⟨i, p, u, t, v⟩ => i ≤ s.l.length ∧ UsedOr b p ∧ Txt u t ∧ t = tx ++ (chainI (s.l.length : Int) ++ (s.l.take i).flatMap encFl) ∧ v = (w || (decide (1000 < (s.l.length : Int)) || (s.l.take i).any badFl))) (fun x_ => match x_ with | ⟨i, p, u, t, v⟩ => s.l.length - i) (fun x_ => match x_ with | ⟨i, p, u, t, v⟩ => [(0, .pointer (some ⟨b, 0, none⟩)), (1, .pointer (some ⟨bx, k, none⟩)), (2, .func (.func 174) #[.pointer (some ⟨b, 0, none⟩)] #[]), (41, .int .i64 (s.l.length : Int)), (42, .int .i64 (i : Int))]) (fun x_ => match x_ with | ⟨i, p, u, t, v⟩ => [(some b, .cells #[p, u.v (t).length, .pointer none, .bool v] 80 (0, 0)), (u.ob, .cells u.cs 5 u.fz)]) ?round4 (0, .pointer (some ⟨b, 0, none⟩), u1, tx ++ chainI (s.l.length : Int), (decide (1000 < (s.l.length : Int)))) ?h04)
   case he4 => exact (And.intro rfl (And.intro rfl (And.intro rfl (And.intro rfl (And.intro rfl trivial)))))
   case hl4 => exact ⟨_, rfl⟩
   case h04 => exact ⟨Nat.zero_le _, .inr rfl, hu1, by simp, by simp [*]⟩
   case round4 =>
    intro x_ hJ ih
    try dsimp only at hJ ih
    obtain ⟨i, p, u, t, v⟩ := x_
    try dsimp only at hJ ih
    obtain ⟨hi, hp, hu, ht, hv⟩ := hJ
    show G _ _ [(0, .pointer (some ⟨b, 0, none⟩)), (1, .pointer (some ⟨bx, k, none⟩)), (2, .func (.func 174) #[.pointer (some ⟨b, 0, none⟩)] #[]), (41, .int .i64 (s.l.length : Int)), (42, .int .i64 (i : Int))] [(some b, .cells #[p, u.v (t).length, .pointer none, .bool v] 80 (0, 0)), (u.ob, .cells u.cs 5 u.fz)] _
    refine Zi ?_
    refine Zd (l := [0]) rfl ?_
    refine Za rfl rfl rfl rfl (Xh rfl rfl rfl) ?_
    refine Zg ?_
    refine Zi ?_
    refine Yl rfl (fun hc2 => ?_) (fun hc2 => ?_)
    ·
     refine Zu ?_
     refine Zi ?_
     refine Zp ?_
     refine Zi ?_
     refine Zd (l := [0, 1]) rfl ?_
     refine Za rfl rfl rfl rfl (Zc rfl rfl) ?_
     refine Za rfl rfl rfl rfl (Zk rfl rfl) ?_
     refine Zg ?_
     refine Zi ?_
     obtain ⟨x, hx⟩ := Xv (show i < s.l.length by omega)
     obtain ⟨bi, hb1, hb2, hss⟩ := hs.isS (i := i) (by omega)
     have hxo := hok x (List.mem_of_getElem? hx)
     have hfl := fmap_len encFl s.l (i + 1)
     rw [← Yw encFl hx, List.length_append] at hfl
     have htl := congrArg List.length ht
     simp only [List.length_append] at htl
     refine Zd (l := [0, 1, 2, 3, 4, 5, 6, 7]) rfl ?_
     refine Za rfl rfl rfl rfl (Zc rfl rfl) ?_
     refine Za rfl rfl rfl rfl (Ze rfl rfl) ?_
     refine Za rfl rfl rfl rfl (Zj rfl rfl (List.mem_append_left _ (Zf 0 rfl)) (Zr hk) Try.underlying204 rfl) ?_
     rw [hb1]
     refine Za rfl rfl rfl rfl (Zc rfl rfl) ?_
     refine Za rfl rfl rfl rfl (Zl (s := 4) rfl Try.underlying204 i_258 rfl rfl rfl rfl (by omega)) ?_
     refine Za rfl rfl rfl rfl (Xm (s := 4) (vs := (cFl x).toArray) rfl rfl (by rw [← hb2]; exact Zf 1 rfl) Try.underlying258 rfl i_258 rfl (hss.elem cFl_len hx) (by rfl)) ?_
     refine Yr rfl rfl rfl rfl (Xb rfl i_258 rfl) (fun b7 => ?_)
     refine Xl (l1 := []) (L' := [_, _, _]) rfl rfl rfl rfl (Xk (s := 4) rfl rfl rfl (Zf 0 rfl) (by rfl) i_258 rfl (by rfl) (by simp [Value.oneCell', cOp, cWk, cIv, cHr, cLt, cWt, cIt, cFl])) rfl ?_
     refine Zg ?_
     refine Zd (l := [0, 1]) rfl ?_
     refine Za rfl rfl rfl rfl (Zc rfl rfl) ?_
     refine G_callMB (L2 := [_]) rfl rfl rfl rfl rfl rfl Try.call174 rfl (cw_flow b _ _ _ _ hp hu _ x _ _ hxo (by omega)) [1, 1] rfl (sub_el (A1 := [_, _]) (K := kFl) hx (List.mem_append_right _ (Zf 0 rfl))) ?_
     rintro v post ⟨rfl, p1, u1, hp1, hu1, rfl⟩
     show G _ _ _ [_, _, _] _
     refine Zg ?_
     refine Zs ?_
     refine Zd (l := [0, 1]) rfl ?_
     refine Za rfl rfl rfl rfl ((Yu rfl rfl rfl).int (Zv (by omega))) ?_
     refine Za rfl rfl rfl rfl (Zc rfl rfl) ?_
     refine Zg ?_
     refine Yc ?_ [0, 0] ?_ (ih (i + 1, p1, u1, t ++ encFl x, v || badFl x) ?_ ?_)
     · (refine (And.intro ?_ (And.intro ?_ (And.intro ?_ (And.intro ?_ (And.intro ?_ trivial))))) <;> first | rfl | exact Zm (by omega) | exact Zm (by simp))
     · exact ⟨_, rfl⟩
     · exact ⟨by omega, hp1, hu1, by rw [← Yw encFl hx, ht]; simp only [List.append_assoc], by rw [hv, ← Xx hx]; simp only [Bool.or_assoc]⟩
     · (first | omega | (dsimp only; omega))
    refine Yx rfl ?_
    refine Xa (post := [_, _]) Try.func173 rfl Zo [0, 0] rfl ?_
    dsimp only [packed]
    have e : s.l.take i = s.l := List.take_of_length_le (by omega)
    rw [e] at ht hv
    subst ht hv
    exact ⟨rfl, p, u, hp, hu, rfl⟩


def cTn (x : Tn) : List Value := [.int .i64 x.v0, .int .i64 x.v1, .int .i64 x.v2, .slice x.s.p x.s.l.length x.s.cap, .bool x.g]
theorem cTn_len (x : Tn) : (cTn x).length = 5 := rfl
def encTn (x : Tn) : List UInt8 := encIs [x.v0, x.v1, x.v2] ++ (encB x.g ++ encL encFl x.s.l)
def badTn (x : Tn) : Bool := [x.v0, x.v1, x.v2].any badI || badL badFl x.s.l
def OkTn (x : Tn) : Prop := InsOk 4 cFl x.s ∧ ∀ y ∈ x.s.l, OkFl y
def kTn (x : Tn) : List HBk := insK x.s :: x.s.l.flatMap kFl
/-- A class of a need. -/
structure Cl where
  v0 : Int
  g : Bool
  s : Ins Tn
def cCl (x : Cl) : List Value := [.int .i64 x.v0, .bool x.g, .slice x.s.p x.s.l.length x.s.cap]
theorem cCl_len (x : Cl) : (cCl x).length = 3 := rfl
def encCl (x : Cl) : List UInt8 := encIs [x.v0] ++ (encB x.g ++ encL encTn x.s.l)
def badCl (x : Cl) : Bool := [x.v0].any badI || badL badTn x.s.l
def OkCl (x : Cl) : Prop := InsOk 5 cTn x.s ∧ ∀ y ∈ x.s.l, OkTn y
def kCl (x : Cl) : List HBk := insK x.s :: x.s.l.flatMap kTn

set_option maxRecDepth 100000 in
set_option maxHeartbeats 1000000 in
theorem cw_tenant (b : Nat) (p : Value) (u : Sl) (tx : List UInt8) (w : Bool) (hp : UsedOr b p) (hu : Txt u tx) (bx : Nat) (x : Tn) (T : TypeId) (fz : Nat × Nat) (hx : OkTn x) (hl : tx.length + (encTn x).length ≤ 140737488350000) :
    Ct Try.prog 163 [.pointer (some ⟨b, 0, none⟩), .pointer (some ⟨bx, 0, none⟩)] ((some bx, .cells (cTn x).toArray T fz) :: kTn x) [(some b, .cells #[p, u.v (tx).length, .pointer none, .bool w] 80 (0, 0)), (u.ob, .cells u.cs 5 u.fz)] fun v post => v = .tuple #[] ∧ ∃ p1 u1, UsedOr b p1 ∧ Txt u1 (tx ++ encTn x) ∧ post = [(some b, .cells #[p1, u1.v (tx ++ encTn x).length, .pointer none, .bool (w || badTn x)] 80 (0, 0)), (u1.ob, .cells u1.cs 5 u1.fz)] := by
 have hl_ := hl
 unfold encTn at hl_
 simp only [List.length_append] at hl_
 refine Yv Try.func163 rfl rfl (fun w0 => ?_)
 show G _ _ [(0, _), (1, _)] _ _
 refine Zi ?_
 refine Ya (Lq := []) (isq := []) (m := 12) Ym rfl rfl ?_
 refine Zh 0 rfl rfl rfl rfl (by kernel_rfl) (fun _ _ => Zc rfl rfl) ?_
 refine Zh 1 rfl rfl rfl rfl (by kernel_rfl) (fun _ _ => Zc rfl rfl) ?_
 refine Zh 2 rfl rfl rfl rfl (by kernel_rfl) (fun _ _ => Ze rfl rfl) ?_
 refine Zh 3 rfl rfl rfl rfl (by kernel_rfl) (fun _ _ => Zb (fo := 0) rfl Try.underlying206 rfl i_3 rfl rfl rfl) ?_
 refine Zh 4 rfl rfl rfl rfl (by kernel_rfl) (fun _ _ => Zc rfl rfl) ?_
 refine Zh 5 rfl rfl rfl rfl (by kernel_rfl) (fun _ _ => Ze rfl rfl) ?_
 refine Zh 6 rfl rfl rfl rfl (by kernel_rfl) (fun _ _ => Zb (fo := 1) rfl Try.underlying206 rfl i_3 rfl rfl rfl) ?_
 refine Zh 7 rfl rfl rfl rfl (by kernel_rfl) (fun _ _ => Zc rfl rfl) ?_
 refine Zh 8 rfl rfl rfl rfl (by kernel_rfl) (fun _ _ => Ze rfl rfl) ?_
 refine Zh 9 rfl rfl rfl rfl (by kernel_rfl) (fun _ _ => Zb (fo := 2) rfl Try.underlying206 rfl i_3 rfl rfl rfl) ?_
 refine GH_all [10] (by kernel_rfl) (by decide) ?_
 refine (And.intro ?_ trivial)
 ·
  refine Yz rfl rfl rfl rfl (Zn (s := 1) (cs := [_, _, _]) rfl Try.underlying241 i_176 rfl rfl rfl rfl rfl rfl rfl rfl rfl) [] (fun _ => ⟨_, rfl⟩) (fun b14 => ?_)
  refine GH_all [11] (by kernel_rfl) (by decide) ?_
  refine (And.intro ?_ trivial)
  ·
   refine Xq (L2 := [_]) rfl rfl rfl rfl rfl rfl Try.call96 (cw_intsL b _ _ _ _ hp hu _ _ bx (cTn x).toArray T fz [(0, x.v0), (1, x.v1), (2, x.v2)] (by simp) ⟨rfl, rfl, rfl, trivial⟩ (by (try simp only [List.map_cons, List.map_nil, List.length_append]); omega)) [1, 1] rfl (Yb (List.mem_append_right _ (Zf 0 rfl)) (Yb (List.mem_append_left _ (Zf 0 rfl)) Yd)) [] (by rintro v post ⟨rfl, p1, u1, hp1, hu1, rfl⟩; exact ⟨_, rfl⟩) ?_
   rintro v post ⟨rfl, p1, u1, hp1, hu1, rfl⟩
   show GH _ _ _ _ _ _ _ [_, _, _] _
   refine Zw (by kernel_rfl) ?_
   refine Zi ?_
   refine Zd (l := [0, 1, 2, 3, 4]) rfl ?_
   refine Za rfl rfl rfl rfl (Zc rfl rfl) ?_
   refine Za rfl rfl rfl rfl (Zc rfl rfl) ?_
   refine Za rfl rfl rfl rfl (Ze rfl rfl) ?_
   refine Za rfl rfl rfl rfl (Zb (fo := 4) rfl Try.underlying206 rfl i_4 rfl rfl rfl) ?_
   refine Yn (L2 := [_]) rfl rfl rfl rfl rfl rfl Try.call95 (cw_flag b _ _ _ _ hp1 hu1 bx 4 (cTn x).toArray T fz x.g rfl (by (try simp only [List.map_cons, List.map_nil, List.length_append]); omega)) [0, 0] rfl (Yb (List.mem_append_left _ (Zf 0 rfl)) Yd) ?_
   rintro v post ⟨rfl, p1, u1, hp1, hu1, rfl⟩
   show G _ _ _ [_, _, _] _
   refine Zg ?_
   refine Zd (l := [0, 1, 2, 3, 4, 5, 6]) rfl ?_
   refine Za rfl rfl rfl rfl (Zc rfl rfl) ?_
   refine Za rfl rfl rfl rfl (Zc rfl rfl) ?_
   refine Za rfl rfl rfl rfl (Ze rfl rfl) ?_
   refine Za rfl rfl rfl rfl (Zb (fo := 3) rfl Try.underlying206 rfl i_204 rfl rfl rfl) ?_
   refine Za rfl rfl rfl rfl (Zc rfl rfl) ?_
   refine Za rfl rfl rfl rfl (V_func rfl rfl rfl) ?_
   refine Yn (L2 := [_]) rfl rfl rfl rfl rfl rfl Try.call173 (cw_listFl b _ _ _ _ hp1 hu1 bx 3 (cTn x).toArray T fz x.s hx.1 hx.2 rfl (by (try simp only [List.map_cons, List.map_nil, List.length_append]); omega)) [0, 0] rfl (fun z hz => List.mem_append_left _ hz) ?_
   rintro v post ⟨rfl, p1, u1, hp1, hu1, rfl⟩
   show G _ _ _ [_, _, _] _
   refine Zg ?_
   refine G_end (post := [_, _]) Try.func163 rfl Zo [0, 0] rfl ?_
   dsimp only [packed]
   refine ⟨rfl, p1, u1, hp1, ?_, ?_⟩
   · simpa only [encTn, List.map_cons, List.map_nil, List.append_assoc] using hu1
   · simp only [encTn, badTn, List.map_cons, List.map_nil, List.append_assoc, Bool.or_assoc]

set_option maxRecDepth 100000 in
set_option maxHeartbeats 1000000 in
theorem cw_listTn (b : Nat) (p : Value) (u : Sl) (tx : List UInt8) (w : Bool) (hp : UsedOr b p) (hu : Txt u tx) (bx k : Nat) (cs : Array Value) (T : TypeId) (fz : Nat × Nat) (s : Ins Tn) (hs : InsOk 5 cTn s) (hok : ∀ x ∈ s.l, OkTn x) (hk : cs[k]? = some (.slice s.p s.l.length s.cap)) (hl : tx.length + (encL encTn s.l).length ≤ 140737488350000) :
    Ct Try.prog 162 [.pointer (some ⟨b, 0, none⟩), .pointer (some ⟨bx, k, none⟩), .func (.func 163) #[.pointer (some ⟨b, 0, none⟩)] #[]] ((some bx, .cells cs T fz) :: (s.ob, .cells s.cs s.T s.fr) :: s.l.flatMap kTn) [(some b, .cells #[p, u.v (tx).length, .pointer none, .bool w] 80 (0, 0)), (u.ob, .cells u.cs 5 u.fz)] fun v post => v = .tuple #[] ∧ ∃ p1 u1, UsedOr b p1 ∧ Txt u1 (tx ++ encL encTn s.l) ∧ post = [(some b, .cells #[p1, u1.v (tx ++ encL encTn s.l).length, .pointer none, .bool (w || badL badTn s.l)] 80 (0, 0)), (u1.ob, .cells u1.cs 5 u1.fz)] := by
 have hl1 := hs.le
 have hl2 := hs.max
 have hln := hs.n
 have hcl := chainI_len (s.l.length : Int) (by omega) (by omega)
 have hl_ := hl
 unfold encL at hl_
 simp only [List.length_append] at hl_
 refine Yv Try.func162 rfl rfl (fun w0 => ?_)
 show G _ _ [(0, _), (1, _), (2, _)] _ _
 refine Zi ?_
 refine Zi ?_
 refine Zd (l := [0, 1, 2, 3, 4]) rfl ?_
 refine Za rfl rfl rfl rfl (Zc rfl rfl) ?_
 refine Za rfl rfl rfl rfl (Ze rfl rfl) ?_
 refine Za rfl rfl rfl rfl (Zb (fo := 2) rfl Try.underlying80 rfl i_74 rfl rfl rfl) ?_
 refine Za rfl rfl rfl rfl (Zj rfl rfl (List.mem_append_right _ (Zf 0 rfl)) rfl Try.underlying74 rfl) ?_
 refine Za rfl rfl rfl rfl (V_peqlN rfl Try.underlying74 rfl rfl) ?_
 refine Zg ?_
 refine G_then rfl ?_
 refine Zi ?_
 refine Zd (l := [0, 1, 2, 3, 4, 5, 6, 7, 8, 9, 10, 11, 12, 13, 14]) rfl ?_
 refine Za rfl rfl rfl rfl (Zc rfl rfl) ?_
 refine Za rfl rfl rfl rfl (Zc rfl rfl) ?_
 refine Za rfl rfl rfl rfl (Ze rfl rfl) ?_
 refine Za rfl rfl rfl rfl (Zb (fo := 3) rfl Try.underlying80 rfl i_4 rfl rfl rfl) ?_
 refine Za rfl rfl rfl rfl (Zj rfl rfl (List.mem_append_right _ (Zf 0 rfl)) rfl Try.underlying4 rfl) ?_
 refine Za rfl rfl rfl rfl (Zc rfl rfl) ?_
 refine G_split 19 rfl (fun hc1 => ?_) (fun hc1 => ?_)
 ·
  refine Zt rfl rfl rfl rfl ?_
  refine Zt rfl rfl rfl rfl ?_
  refine Zt rfl rfl rfl rfl ?_
  refine Zt rfl rfl rfl rfl ?_
  refine Zt rfl rfl rfl rfl ?_
  refine Za rfl rfl rfl rfl (Yk rfl rfl rfl) ?_
  refine Za rfl rfl rfl rfl (Ze rfl rfl) ?_
  refine Za rfl rfl rfl rfl (Zb (fo := 3) rfl Try.underlying80 rfl i_4 rfl rfl rfl) ?_
  refine Xl (l1 := []) (L' := [_, _]) rfl rfl rfl rfl (Zq rfl rfl rfl (Zf 0 rfl) (by first | exact of_decide_eq_true rfl | omega | (simp [cOp, cWk, cIv, cHr, cLt, cWt, cIt, cFl, cTn, cCl]; done) | (simp [cOp, cWk, cIv, cHr, cLt, cWt, cIt, cFl, cTn, cCl]; omega) | (simp [cOp, cWk, cIv, cHr, cLt, cWt, cIt, cFl, cTn, cCl] at *; omega)) i_4 rfl rfl) rfl ?_
  refine Zg ?_
  refine Zi ?_
  refine Ya (Lq := []) (isq := []) (m := 10) Ym rfl rfl ?_
  refine Zh 0 rfl rfl rfl rfl (by kernel_rfl) (fun _ _ => Zc rfl rfl) ?_
  refine Zh 1 rfl rfl rfl rfl (by kernel_rfl) (fun _ _ => Ze rfl rfl) ?_
  refine Zh 2 rfl rfl rfl rfl (by kernel_rfl) (fun _ _ => Zb (fo := 0) rfl Try.underlying80 rfl i_78 rfl rfl rfl) ?_
  refine Zh 3 rfl rfl rfl rfl (by kernel_rfl) (fun _ _ => Zc rfl rfl) ?_
  refine Zh 4 rfl rfl rfl rfl (by kernel_rfl) (fun _ _ => Ze rfl rfl) ?_
  refine Zh 5 rfl rfl rfl rfl (by kernel_rfl) (fun _ _ => Zj rfl rfl (List.mem_append_left _ (Zf 0 rfl)) (Zr hk) Try.underlying109 rfl) ?_
  refine Zh 6 rfl rfl rfl rfl (by kernel_rfl) (fun _ _ => Yf rfl rfl Try.underlying109 rfl) ?_
  refine Zh 7 rfl rfl rfl rfl (by kernel_rfl) (fun _ _ => (V_conv rfl rfl Try.underlying3 Try.underlying23).int (Xs (by omega))) ?_
  refine GH_all [8] (by kernel_rfl) (by decide) ?_
  refine (And.intro ?_ trivial)
  ·
   refine Xq (L2 := [_, _]) rfl rfl rfl rfl rfl rfl Try.call80 (Xw _ (by omega) (by omega)) [] rfl Yd [] (by rintro v post ⟨rfl, rfl⟩; exact ⟨_, rfl⟩) ?_
   rintro v post ⟨rfl, rfl⟩
   show GH _ _ _ _ _ _ _ [_, _] _
   refine GH_all [9] (by kernel_rfl) (by decide) ?_
   refine (And.intro ?_ trivial)
   ·
    refine Xq (L2 := []) rfl rfl rfl rfl rfl rfl Try.call79 (Xo _ _ _ _ _ _ _ hp hu (by omega)) [0, 0] rfl Yd [] (by rintro v post ⟨rfl, u1, hu1, rfl⟩; exact ⟨_, rfl⟩) ?_
    rintro v post ⟨rfl, u1, hu1, rfl⟩
    show GH _ _ _ _ _ _ _ [_, _] _
    refine Zw (by kernel_rfl) ?_
    refine Zi ?_
    refine Zi ?_
    refine Zd (l := [0, 1, 2, 3, 4]) rfl ?_
    refine Za rfl rfl rfl rfl (Zc rfl rfl) ?_
    refine Za rfl rfl rfl rfl (Ze rfl rfl) ?_
    refine Za rfl rfl rfl rfl (Zj rfl rfl (List.mem_append_left _ (Zf 0 rfl)) (Zr hk) Try.underlying109 rfl) ?_
    refine Za rfl rfl rfl rfl (Yf rfl rfl Try.underlying109 rfl) ?_
    refine Za rfl rfl rfl rfl (Zc rfl rfl) ?_
    refine Zg ?_
    refine Zp ?_
    refine Yc ?he4 [0, 0] ?hl4 (Xc (X := Nat × Value × Sl × List UInt8 × Bool) (fun x_ => match x_ with | ⟨i, p, u, t, v⟩ => i ≤ s.l.length ∧ UsedOr b p ∧ Txt u t ∧ t = tx ++ (chainI (s.l.length : Int) ++ (s.l.take i).flatMap encTn) ∧ v = (w || (decide (1000 < (s.l.length : Int)) || (s.l.take i).any badTn))) (fun x_ => match x_ with | ⟨i, p, u, t, v⟩ => s.l.length - i) (fun x_ => match x_ with | ⟨i, p, u, t, v⟩ => [(0, .pointer (some ⟨b, 0, none⟩)), (1, .pointer (some ⟨bx, k, none⟩)), (2, .func (.func 163) #[.pointer (some ⟨b, 0, none⟩)] #[]), (41, .int .i64 (s.l.length : Int)), (42, .int .i64 (i : Int))]) (fun x_ => match x_ with | ⟨i, p, u, t, v⟩ => [(some b, .cells #[p, u.v (t).length, .pointer none, .bool v] 80 (0, 0)), (u.ob, .cells u.cs 5 u.fz)]) ?round4 (0, .pointer (some ⟨b, 0, none⟩), u1, tx ++ chainI (s.l.length : Int), true) ?h04)
    case he4 => exact (And.intro rfl (And.intro rfl (And.intro rfl (And.intro rfl (And.intro rfl trivial)))))
    case hl4 => exact ⟨_, rfl⟩
    case h04 => exact ⟨Nat.zero_le _, .inr rfl, hu1, by simp, by simp [*]⟩
    case round4 =>
     intro x_ hJ ih
     try dsimp only at hJ ih
     obtain ⟨i, p, u, t, v⟩ := x_
     try dsimp only at hJ ih
     obtain ⟨hi, hp, hu, ht, hv⟩ := hJ
     show G _ _ [(0, .pointer (some ⟨b, 0, none⟩)), (1, .pointer (some ⟨bx, k, none⟩)), (2, .func (.func 163) #[.pointer (some ⟨b, 0, none⟩)] #[]), (41, .int .i64 (s.l.length : Int)), (42, .int .i64 (i : Int))] [(some b, .cells #[p, u.v (t).length, .pointer none, .bool v] 80 (0, 0)), (u.ob, .cells u.cs 5 u.fz)] _
     refine Zi ?_
     refine Zd (l := [0]) rfl ?_
     refine Za rfl rfl rfl rfl (Xh rfl rfl rfl) ?_
     refine Zg ?_
     refine Zi ?_
     refine Yl rfl (fun hc2 => ?_) (fun hc2 => ?_)
     ·
      refine Zu ?_
      refine Zi ?_
      refine Zp ?_
      refine Zi ?_
      refine Zd (l := [0, 1]) rfl ?_
      refine Za rfl rfl rfl rfl (Zc rfl rfl) ?_
      refine Za rfl rfl rfl rfl (Zk rfl rfl) ?_
      refine Zg ?_
      refine Zi ?_
      obtain ⟨x, hx⟩ := Xv (show i < s.l.length by omega)
      obtain ⟨bi, hb1, hb2, hss⟩ := hs.isS (i := i) (by omega)
      have hxo := hok x (List.mem_of_getElem? hx)
      have hfl := fmap_len encTn s.l (i + 1)
      rw [← Yw encTn hx, List.length_append] at hfl
      have htl := congrArg List.length ht
      simp only [List.length_append] at htl
      refine Zd (l := [0, 1, 2, 3, 4, 5, 6, 7]) rfl ?_
      refine Za rfl rfl rfl rfl (Zc rfl rfl) ?_
      refine Za rfl rfl rfl rfl (Ze rfl rfl) ?_
      refine Za rfl rfl rfl rfl (Zj rfl rfl (List.mem_append_left _ (Zf 0 rfl)) (Zr hk) Try.underlying109 rfl) ?_
      rw [hb1]
      refine Za rfl rfl rfl rfl (Zc rfl rfl) ?_
      refine Za rfl rfl rfl rfl (Zl (s := 5) rfl Try.underlying109 i_206 rfl rfl rfl rfl (by omega)) ?_
      refine Za rfl rfl rfl rfl (Xm (s := 5) (vs := (cTn x).toArray) rfl rfl (by rw [← hb2]; exact Zf 1 rfl) Try.underlying206 rfl i_206 rfl (hss.elem cTn_len hx) (by rfl)) ?_
      refine Yr rfl rfl rfl rfl (Xb rfl i_206 rfl) (fun b7 => ?_)
      refine Xl (l1 := []) (L' := [_, _, _]) rfl rfl rfl rfl (Xk (s := 5) rfl rfl rfl (Zf 0 rfl) (by rfl) i_206 rfl (by rfl) (by simp [Value.oneCell', cOp, cWk, cIv, cHr, cLt, cWt, cIt, cFl, cTn, cCl])) rfl ?_
      refine Zg ?_
      refine Zd (l := [0, 1]) rfl ?_
      refine Za rfl rfl rfl rfl (Zc rfl rfl) ?_
      refine G_callMB (L2 := [_]) rfl rfl rfl rfl rfl rfl Try.call163 rfl (cw_tenant b _ _ _ _ hp hu _ x _ _ hxo (by omega)) [1, 1] rfl (sub_el (A1 := [_, _]) (K := kTn) hx (List.mem_append_right _ (Zf 0 rfl))) ?_
      rintro v post ⟨rfl, p1, u1, hp1, hu1, rfl⟩
      show G _ _ _ [_, _, _] _
      refine Zg ?_
      refine Zs ?_
      refine Zd (l := [0, 1]) rfl ?_
      refine Za rfl rfl rfl rfl ((Yu rfl rfl rfl).int (Zv (by omega))) ?_
      refine Za rfl rfl rfl rfl (Zc rfl rfl) ?_
      refine Zg ?_
      refine Yc ?_ [0, 0] ?_ (ih (i + 1, p1, u1, t ++ encTn x, v || badTn x) ?_ ?_)
      · (refine (And.intro ?_ (And.intro ?_ (And.intro ?_ (And.intro ?_ (And.intro ?_ trivial))))) <;> first | rfl | exact Zm (by omega) | exact Zm (by simp))
      · exact ⟨_, rfl⟩
      · exact ⟨by omega, hp1, hu1, by rw [← Yw encTn hx, ht]; simp only [List.append_assoc], by rw [hv, ← Xx hx]; simp only [Bool.or_assoc]⟩
      · (first | omega | (dsimp only; omega))
     refine Yx rfl ?_
     refine Xa (post := [_, _]) Try.func162 rfl Zo [0, 0] rfl ?_
     dsimp only [packed]
     have e : s.l.take i = s.l := List.take_of_length_le (by omega)
     rw [e] at ht hv
     subst ht hv
     exact ⟨rfl, p, u, hp, hu, rfl⟩
 refine Za rfl rfl rfl rfl (Zc rfl rfl) ?_
 refine Za rfl rfl rfl rfl (Ze rfl rfl) ?_
 refine Za rfl rfl rfl rfl (Zj rfl rfl (List.mem_append_left _ (Zf 0 rfl)) (Zr hk) Try.underlying109 rfl) ?_
 refine Za rfl rfl rfl rfl (Yf rfl rfl Try.underlying109 rfl) ?_
 refine Za rfl rfl rfl rfl (V_gtr rfl rfl rfl) ?_
 refine Za rfl rfl rfl rfl (Xu rfl rfl rfl) ?_
 refine Za rfl rfl rfl rfl (Ze rfl rfl) ?_
 refine Za rfl rfl rfl rfl (Zb (fo := 3) rfl Try.underlying80 rfl i_4 rfl rfl rfl) ?_
 refine Xl (l1 := []) (L' := [_, _]) rfl rfl rfl rfl (Zq rfl rfl rfl (Zf 0 rfl) (by first | exact of_decide_eq_true rfl | omega | (simp [cOp, cWk, cIv, cHr, cLt, cWt, cIt, cFl, cTn, cCl]; done) | (simp [cOp, cWk, cIv, cHr, cLt, cWt, cIt, cFl, cTn, cCl]; omega) | (simp [cOp, cWk, cIv, cHr, cLt, cWt, cIt, cFl, cTn, cCl] at *; omega)) i_4 rfl rfl) rfl ?_
 refine Zg ?_
 refine Zi ?_
 refine Ya (Lq := []) (isq := []) (m := 10) Ym rfl rfl ?_
 refine Zh 0 rfl rfl rfl rfl (by kernel_rfl) (fun _ _ => Zc rfl rfl) ?_
 refine Zh 1 rfl rfl rfl rfl (by kernel_rfl) (fun _ _ => Ze rfl rfl) ?_
 refine Zh 2 rfl rfl rfl rfl (by kernel_rfl) (fun _ _ => Zb (fo := 0) rfl Try.underlying80 rfl i_78 rfl rfl rfl) ?_
 refine Zh 3 rfl rfl rfl rfl (by kernel_rfl) (fun _ _ => Zc rfl rfl) ?_
 refine Zh 4 rfl rfl rfl rfl (by kernel_rfl) (fun _ _ => Ze rfl rfl) ?_
 refine Zh 5 rfl rfl rfl rfl (by kernel_rfl) (fun _ _ => Zj rfl rfl (List.mem_append_left _ (Zf 0 rfl)) (Zr hk) Try.underlying109 rfl) ?_
 refine Zh 6 rfl rfl rfl rfl (by kernel_rfl) (fun _ _ => Yf rfl rfl Try.underlying109 rfl) ?_
 refine Zh 7 rfl rfl rfl rfl (by kernel_rfl) (fun _ _ => (V_conv rfl rfl Try.underlying3 Try.underlying23).int (Xs (by omega))) ?_
 refine GH_all [8] (by kernel_rfl) (by decide) ?_
 refine (And.intro ?_ trivial)
 ·
  refine Xq (L2 := [_, _]) rfl rfl rfl rfl rfl rfl Try.call80 (Xw _ (by omega) (by omega)) [] rfl Yd [] (by rintro v post ⟨rfl, rfl⟩; exact ⟨_, rfl⟩) ?_
  rintro v post ⟨rfl, rfl⟩
  show GH _ _ _ _ _ _ _ [_, _] _
  refine GH_all [9] (by kernel_rfl) (by decide) ?_
  refine (And.intro ?_ trivial)
  ·
   refine Xq (L2 := []) rfl rfl rfl rfl rfl rfl Try.call79 (Xo _ _ _ _ _ _ _ hp hu (by omega)) [0, 0] rfl Yd [] (by rintro v post ⟨rfl, u1, hu1, rfl⟩; exact ⟨_, rfl⟩) ?_
   rintro v post ⟨rfl, u1, hu1, rfl⟩
   show GH _ _ _ _ _ _ _ [_, _] _
   refine Zw (by kernel_rfl) ?_
   refine Zi ?_
   refine Zi ?_
   refine Zd (l := [0, 1, 2, 3, 4]) rfl ?_
   refine Za rfl rfl rfl rfl (Zc rfl rfl) ?_
   refine Za rfl rfl rfl rfl (Ze rfl rfl) ?_
   refine Za rfl rfl rfl rfl (Zj rfl rfl (List.mem_append_left _ (Zf 0 rfl)) (Zr hk) Try.underlying109 rfl) ?_
   refine Za rfl rfl rfl rfl (Yf rfl rfl Try.underlying109 rfl) ?_
   refine Za rfl rfl rfl rfl (Zc rfl rfl) ?_
   refine Zg ?_
   refine Zp ?_
   refine Yc ?he4 [0, 0] ?hl4 (Xc (X := Nat × Value × Sl × List UInt8 × Bool) (fun x_ => match x_ with | ⟨i, p, u, t, v⟩ => i ≤ s.l.length ∧ UsedOr b p ∧ Txt u t ∧ t = tx ++ (chainI (s.l.length : Int) ++ (s.l.take i).flatMap encTn) ∧ v = (w || (decide (1000 < (s.l.length : Int)) || (s.l.take i).any badTn))) (fun x_ => match x_ with | ⟨i, p, u, t, v⟩ => s.l.length - i) (fun x_ => match x_ with | ⟨i, p, u, t, v⟩ => [(0, .pointer (some ⟨b, 0, none⟩)), (1, .pointer (some ⟨bx, k, none⟩)), (2, .func (.func 163) #[.pointer (some ⟨b, 0, none⟩)] #[]), (41, .int .i64 (s.l.length : Int)), (42, .int .i64 (i : Int))]) (fun x_ => match x_ with | ⟨i, p, u, t, v⟩ => [(some b, .cells #[p, u.v (t).length, .pointer none, .bool v] 80 (0, 0)), (u.ob, .cells u.cs 5 u.fz)]) ?round4 (0, .pointer (some ⟨b, 0, none⟩), u1, tx ++ chainI (s.l.length : Int), (decide (1000 < (s.l.length : Int)))) ?h04)
   case he4 => exact (And.intro rfl (And.intro rfl (And.intro rfl (And.intro rfl (And.intro rfl trivial)))))
   case hl4 => exact ⟨_, rfl⟩
   case h04 => exact ⟨Nat.zero_le _, .inr rfl, hu1, by simp, by simp [*]⟩
   case round4 =>
    intro x_ hJ ih
    try dsimp only at hJ ih
    obtain ⟨i, p, u, t, v⟩ := x_
    try dsimp only at hJ ih
    obtain ⟨hi, hp, hu, ht, hv⟩ := hJ
    show G _ _ [(0, .pointer (some ⟨b, 0, none⟩)), (1, .pointer (some ⟨bx, k, none⟩)), (2, .func (.func 163) #[.pointer (some ⟨b, 0, none⟩)] #[]), (41, .int .i64 (s.l.length : Int)), (42, .int .i64 (i : Int))] [(some b, .cells #[p, u.v (t).length, .pointer none, .bool v] 80 (0, 0)), (u.ob, .cells u.cs 5 u.fz)] _
    refine Zi ?_
    refine Zd (l := [0]) rfl ?_
    refine Za rfl rfl rfl rfl (Xh rfl rfl rfl) ?_
    refine Zg ?_
    refine Zi ?_
    refine Yl rfl (fun hc2 => ?_) (fun hc2 => ?_)
    ·
     refine Zu ?_
     refine Zi ?_
     refine Zp ?_
     refine Zi ?_
     refine Zd (l := [0, 1]) rfl ?_
     refine Za rfl rfl rfl rfl (Zc rfl rfl) ?_
     refine Za rfl rfl rfl rfl (Zk rfl rfl) ?_
     refine Zg ?_
     refine Zi ?_
     obtain ⟨x, hx⟩ := Xv (show i < s.l.length by omega)
     obtain ⟨bi, hb1, hb2, hss⟩ := hs.isS (i := i) (by omega)
     have hxo := hok x (List.mem_of_getElem? hx)
     have hfl := fmap_len encTn s.l (i + 1)
     rw [← Yw encTn hx, List.length_append] at hfl
     have htl := congrArg List.length ht
     simp only [List.length_append] at htl
     refine Zd (l := [0, 1, 2, 3, 4, 5, 6, 7]) rfl ?_
     refine Za rfl rfl rfl rfl (Zc rfl rfl) ?_
     refine Za rfl rfl rfl rfl (Ze rfl rfl) ?_
     refine Za rfl rfl rfl rfl (Zj rfl rfl (List.mem_append_left _ (Zf 0 rfl)) (Zr hk) Try.underlying109 rfl) ?_
     rw [hb1]
     refine Za rfl rfl rfl rfl (Zc rfl rfl) ?_
     refine Za rfl rfl rfl rfl (Zl (s := 5) rfl Try.underlying109 i_206 rfl rfl rfl rfl (by omega)) ?_
     refine Za rfl rfl rfl rfl (Xm (s := 5) (vs := (cTn x).toArray) rfl rfl (by rw [← hb2]; exact Zf 1 rfl) Try.underlying206 rfl i_206 rfl (hss.elem cTn_len hx) (by rfl)) ?_
     refine Yr rfl rfl rfl rfl (Xb rfl i_206 rfl) (fun b7 => ?_)
     refine Xl (l1 := []) (L' := [_, _, _]) rfl rfl rfl rfl (Xk (s := 5) rfl rfl rfl (Zf 0 rfl) (by rfl) i_206 rfl (by rfl) (by simp [Value.oneCell', cOp, cWk, cIv, cHr, cLt, cWt, cIt, cFl, cTn, cCl])) rfl ?_
     refine Zg ?_
     refine Zd (l := [0, 1]) rfl ?_
     refine Za rfl rfl rfl rfl (Zc rfl rfl) ?_
     refine G_callMB (L2 := [_]) rfl rfl rfl rfl rfl rfl Try.call163 rfl (cw_tenant b _ _ _ _ hp hu _ x _ _ hxo (by omega)) [1, 1] rfl (sub_el (A1 := [_, _]) (K := kTn) hx (List.mem_append_right _ (Zf 0 rfl))) ?_
     rintro v post ⟨rfl, p1, u1, hp1, hu1, rfl⟩
     show G _ _ _ [_, _, _] _
     refine Zg ?_
     refine Zs ?_
     refine Zd (l := [0, 1]) rfl ?_
     refine Za rfl rfl rfl rfl ((Yu rfl rfl rfl).int (Zv (by omega))) ?_
     refine Za rfl rfl rfl rfl (Zc rfl rfl) ?_
     refine Zg ?_
     refine Yc ?_ [0, 0] ?_ (ih (i + 1, p1, u1, t ++ encTn x, v || badTn x) ?_ ?_)
     · (refine (And.intro ?_ (And.intro ?_ (And.intro ?_ (And.intro ?_ (And.intro ?_ trivial))))) <;> first | rfl | exact Zm (by omega) | exact Zm (by simp))
     · exact ⟨_, rfl⟩
     · exact ⟨by omega, hp1, hu1, by rw [← Yw encTn hx, ht]; simp only [List.append_assoc], by rw [hv, ← Xx hx]; simp only [Bool.or_assoc]⟩
     · (first | omega | (dsimp only; omega))
    refine Yx rfl ?_
    refine Xa (post := [_, _]) Try.func162 rfl Zo [0, 0] rfl ?_
    dsimp only [packed]
    have e : s.l.take i = s.l := List.take_of_length_le (by omega)
    rw [e] at ht hv
    subst ht hv
    exact ⟨rfl, p, u, hp, hu, rfl⟩

set_option maxRecDepth 100000 in
set_option maxHeartbeats 1000000 in
theorem cw_class (b : Nat) (p : Value) (u : Sl) (tx : List UInt8) (w : Bool) (hp : UsedOr b p) (hu : Txt u tx) (bx : Nat) (x : Cl) (T : TypeId) (fz : Nat × Nat) (hx : OkCl x) (hl : tx.length + (encCl x).length ≤ 140737488350000) :
    Ct Try.prog 144 [.pointer (some ⟨b, 0, none⟩), .pointer (some ⟨bx, 0, none⟩)] ((some bx, .cells (cCl x).toArray T fz) :: kCl x) [(some b, .cells #[p, u.v (tx).length, .pointer none, .bool w] 80 (0, 0)), (u.ob, .cells u.cs 5 u.fz)] fun v post => v = .tuple #[] ∧ ∃ p1 u1, UsedOr b p1 ∧ Txt u1 (tx ++ encCl x) ∧ post = [(some b, .cells #[p1, u1.v (tx ++ encCl x).length, .pointer none, .bool (w || badCl x)] 80 (0, 0)), (u1.ob, .cells u1.cs 5 u1.fz)] := by
 have hl_ := hl
 unfold encCl at hl_
 simp only [List.length_append] at hl_
 refine Yv Try.func144 rfl rfl (fun w0 => ?_)
 show G _ _ [(0, _), (1, _)] _ _
 refine Zi ?_
 refine Zd (l := [0, 1, 2, 3, 4, 5]) rfl ?_
 refine Za rfl rfl rfl rfl (Zc rfl rfl) ?_
 refine Za rfl rfl rfl rfl (Zc rfl rfl) ?_
 refine Za rfl rfl rfl rfl (Ze rfl rfl) ?_
 refine Za rfl rfl rfl rfl (Zb (fo := 0) rfl Try.underlying250 rfl i_3 rfl rfl rfl) ?_
 refine Yr rfl rfl rfl rfl (Zn (s := 1) (cs := [_]) rfl Try.underlying241 i_176 rfl rfl rfl rfl rfl rfl rfl rfl rfl) (fun b8 => ?_)
 refine Yn (L2 := [_]) rfl rfl rfl rfl rfl rfl Try.call96 (cw_intsL b _ _ _ _ hp hu _ _ bx (cCl x).toArray T fz [(0, x.v0)] (by simp) ⟨rfl, trivial⟩ (by (try simp only [List.map_cons, List.map_nil, List.length_append]); omega)) [1, 1] rfl (Yb (List.mem_append_right _ (Zf 0 rfl)) (Yb (List.mem_append_left _ (Zf 0 rfl)) Yd)) ?_
 rintro v post ⟨rfl, p1, u1, hp1, hu1, rfl⟩
 show G _ _ _ [_, _, _] _
 refine Zg ?_
 refine Zi ?_
 refine Zd (l := [0, 1, 2, 3, 4]) rfl ?_
 refine Za rfl rfl rfl rfl (Zc rfl rfl) ?_
 refine Za rfl rfl rfl rfl (Zc rfl rfl) ?_
 refine Za rfl rfl rfl rfl (Ze rfl rfl) ?_
 refine Za rfl rfl rfl rfl (Zb (fo := 1) rfl Try.underlying250 rfl i_4 rfl rfl rfl) ?_
 refine Yn (L2 := [_]) rfl rfl rfl rfl rfl rfl Try.call95 (cw_flag b _ _ _ _ hp1 hu1 bx 1 (cCl x).toArray T fz x.g rfl (by (try simp only [List.map_cons, List.map_nil, List.length_append]); omega)) [0, 0] rfl (Yb (List.mem_append_left _ (Zf 0 rfl)) Yd) ?_
 rintro v post ⟨rfl, p1, u1, hp1, hu1, rfl⟩
 show G _ _ _ [_, _, _] _
 refine Zg ?_
 refine Zd (l := [0, 1, 2, 3, 4, 5, 6]) rfl ?_
 refine Za rfl rfl rfl rfl (Zc rfl rfl) ?_
 refine Za rfl rfl rfl rfl (Zc rfl rfl) ?_
 refine Za rfl rfl rfl rfl (Ze rfl rfl) ?_
 refine Za rfl rfl rfl rfl (Zb (fo := 2) rfl Try.underlying250 rfl i_109 rfl rfl rfl) ?_
 refine Za rfl rfl rfl rfl (Zc rfl rfl) ?_
 refine Za rfl rfl rfl rfl (V_func rfl rfl rfl) ?_
 refine Yn (L2 := [_]) rfl rfl rfl rfl rfl rfl Try.call162 (cw_listTn b _ _ _ _ hp1 hu1 bx 2 (cCl x).toArray T fz x.s hx.1 hx.2 rfl (by (try simp only [List.map_cons, List.map_nil, List.length_append]); omega)) [0, 0] rfl (fun z hz => List.mem_append_left _ hz) ?_
 rintro v post ⟨rfl, p1, u1, hp1, hu1, rfl⟩
 show G _ _ _ [_, _, _] _
 refine Zg ?_
 refine G_end (post := [_, _]) Try.func144 rfl Zo [0, 0] rfl ?_
 dsimp only [packed]
 refine ⟨rfl, p1, u1, hp1, ?_, ?_⟩
 · simpa only [encCl, List.map_cons, List.map_nil, List.append_assoc] using hu1
 · simp only [encCl, badCl, List.map_cons, List.map_nil, List.append_assoc, Bool.or_assoc]

set_option maxRecDepth 100000 in
set_option maxHeartbeats 1000000 in
theorem cw_listCl (b : Nat) (p : Value) (u : Sl) (tx : List UInt8) (w : Bool) (hp : UsedOr b p) (hu : Txt u tx) (bx k : Nat) (cs : Array Value) (T : TypeId) (fz : Nat × Nat) (s : Ins Cl) (hs : InsOk 3 cCl s) (hok : ∀ x ∈ s.l, OkCl x) (hk : cs[k]? = some (.slice s.p s.l.length s.cap)) (hl : tx.length + (encL encCl s.l).length ≤ 140737488350000) :
    Ct Try.prog 143 [.pointer (some ⟨b, 0, none⟩), .pointer (some ⟨bx, k, none⟩), .func (.func 144) #[.pointer (some ⟨b, 0, none⟩)] #[]] ((some bx, .cells cs T fz) :: (s.ob, .cells s.cs s.T s.fr) :: s.l.flatMap kCl) [(some b, .cells #[p, u.v (tx).length, .pointer none, .bool w] 80 (0, 0)), (u.ob, .cells u.cs 5 u.fz)] fun v post => v = .tuple #[] ∧ ∃ p1 u1, UsedOr b p1 ∧ Txt u1 (tx ++ encL encCl s.l) ∧ post = [(some b, .cells #[p1, u1.v (tx ++ encL encCl s.l).length, .pointer none, .bool (w || badL badCl s.l)] 80 (0, 0)), (u1.ob, .cells u1.cs 5 u1.fz)] := by
 have hl1 := hs.le
 have hl2 := hs.max
 have hln := hs.n
 have hcl := chainI_len (s.l.length : Int) (by omega) (by omega)
 have hl_ := hl
 unfold encL at hl_
 simp only [List.length_append] at hl_
 refine Yv Try.func143 rfl rfl (fun w0 => ?_)
 show G _ _ [(0, _), (1, _), (2, _)] _ _
 refine Zi ?_
 refine Zi ?_
 refine Zd (l := [0, 1, 2, 3, 4]) rfl ?_
 refine Za rfl rfl rfl rfl (Zc rfl rfl) ?_
 refine Za rfl rfl rfl rfl (Ze rfl rfl) ?_
 refine Za rfl rfl rfl rfl (Zb (fo := 2) rfl Try.underlying80 rfl i_74 rfl rfl rfl) ?_
 refine Za rfl rfl rfl rfl (Zj rfl rfl (List.mem_append_right _ (Zf 0 rfl)) rfl Try.underlying74 rfl) ?_
 refine Za rfl rfl rfl rfl (V_peqlN rfl Try.underlying74 rfl rfl) ?_
 refine Zg ?_
 refine G_then rfl ?_
 refine Zi ?_
 refine Zd (l := [0, 1, 2, 3, 4, 5, 6, 7, 8, 9, 10, 11, 12, 13, 14]) rfl ?_
 refine Za rfl rfl rfl rfl (Zc rfl rfl) ?_
 refine Za rfl rfl rfl rfl (Zc rfl rfl) ?_
 refine Za rfl rfl rfl rfl (Ze rfl rfl) ?_
 refine Za rfl rfl rfl rfl (Zb (fo := 3) rfl Try.underlying80 rfl i_4 rfl rfl rfl) ?_
 refine Za rfl rfl rfl rfl (Zj rfl rfl (List.mem_append_right _ (Zf 0 rfl)) rfl Try.underlying4 rfl) ?_
 refine Za rfl rfl rfl rfl (Zc rfl rfl) ?_
 refine G_split 19 rfl (fun hc1 => ?_) (fun hc1 => ?_)
 ·
  refine Zt rfl rfl rfl rfl ?_
  refine Zt rfl rfl rfl rfl ?_
  refine Zt rfl rfl rfl rfl ?_
  refine Zt rfl rfl rfl rfl ?_
  refine Zt rfl rfl rfl rfl ?_
  refine Za rfl rfl rfl rfl (Yk rfl rfl rfl) ?_
  refine Za rfl rfl rfl rfl (Ze rfl rfl) ?_
  refine Za rfl rfl rfl rfl (Zb (fo := 3) rfl Try.underlying80 rfl i_4 rfl rfl rfl) ?_
  refine Xl (l1 := []) (L' := [_, _]) rfl rfl rfl rfl (Zq rfl rfl rfl (Zf 0 rfl) (by first | exact of_decide_eq_true rfl | omega | (simp [cOp, cWk, cIv, cHr, cLt, cWt, cIt, cFl, cTn, cCl]; done) | (simp [cOp, cWk, cIv, cHr, cLt, cWt, cIt, cFl, cTn, cCl]; omega) | (simp [cOp, cWk, cIv, cHr, cLt, cWt, cIt, cFl, cTn, cCl] at *; omega)) i_4 rfl rfl) rfl ?_
  refine Zg ?_
  refine Zi ?_
  refine Ya (Lq := []) (isq := []) (m := 10) Ym rfl rfl ?_
  refine Zh 0 rfl rfl rfl rfl (by kernel_rfl) (fun _ _ => Zc rfl rfl) ?_
  refine Zh 1 rfl rfl rfl rfl (by kernel_rfl) (fun _ _ => Ze rfl rfl) ?_
  refine Zh 2 rfl rfl rfl rfl (by kernel_rfl) (fun _ _ => Zb (fo := 0) rfl Try.underlying80 rfl i_78 rfl rfl rfl) ?_
  refine Zh 3 rfl rfl rfl rfl (by kernel_rfl) (fun _ _ => Zc rfl rfl) ?_
  refine Zh 4 rfl rfl rfl rfl (by kernel_rfl) (fun _ _ => Ze rfl rfl) ?_
  refine Zh 5 rfl rfl rfl rfl (by kernel_rfl) (fun _ _ => Zj rfl rfl (List.mem_append_left _ (Zf 0 rfl)) (Zr hk) Try.underlying248 rfl) ?_
  refine Zh 6 rfl rfl rfl rfl (by kernel_rfl) (fun _ _ => Yf rfl rfl Try.underlying248 rfl) ?_
  refine Zh 7 rfl rfl rfl rfl (by kernel_rfl) (fun _ _ => (V_conv rfl rfl Try.underlying3 Try.underlying23).int (Xs (by omega))) ?_
  refine GH_all [8] (by kernel_rfl) (by decide) ?_
  refine (And.intro ?_ trivial)
  ·
   refine Xq (L2 := [_, _]) rfl rfl rfl rfl rfl rfl Try.call80 (Xw _ (by omega) (by omega)) [] rfl Yd [] (by rintro v post ⟨rfl, rfl⟩; exact ⟨_, rfl⟩) ?_
   rintro v post ⟨rfl, rfl⟩
   show GH _ _ _ _ _ _ _ [_, _] _
   refine GH_all [9] (by kernel_rfl) (by decide) ?_
   refine (And.intro ?_ trivial)
   ·
    refine Xq (L2 := []) rfl rfl rfl rfl rfl rfl Try.call79 (Xo _ _ _ _ _ _ _ hp hu (by omega)) [0, 0] rfl Yd [] (by rintro v post ⟨rfl, u1, hu1, rfl⟩; exact ⟨_, rfl⟩) ?_
    rintro v post ⟨rfl, u1, hu1, rfl⟩
    show GH _ _ _ _ _ _ _ [_, _] _
    refine Zw (by kernel_rfl) ?_
    refine Zi ?_
    refine Zi ?_
    refine Zd (l := [0, 1, 2, 3, 4]) rfl ?_
    refine Za rfl rfl rfl rfl (Zc rfl rfl) ?_
    refine Za rfl rfl rfl rfl (Ze rfl rfl) ?_
    refine Za rfl rfl rfl rfl (Zj rfl rfl (List.mem_append_left _ (Zf 0 rfl)) (Zr hk) Try.underlying248 rfl) ?_
    refine Za rfl rfl rfl rfl (Yf rfl rfl Try.underlying248 rfl) ?_
    refine Za rfl rfl rfl rfl (Zc rfl rfl) ?_
    refine Zg ?_
    refine Zp ?_
    refine Yc ?he4 [0, 0] ?hl4 (Xc (X := Nat × Value × Sl × List UInt8 × Bool) (fun x_ => match x_ with | ⟨i, p, u, t, v⟩ => i ≤ s.l.length ∧ UsedOr b p ∧ Txt u t ∧ t = tx ++ (chainI (s.l.length : Int) ++ (s.l.take i).flatMap encCl) ∧ v = (w || (decide (1000 < (s.l.length : Int)) || (s.l.take i).any badCl))) (fun x_ => match x_ with | ⟨i, p, u, t, v⟩ => s.l.length - i) (fun x_ => match x_ with | ⟨i, p, u, t, v⟩ => [(0, .pointer (some ⟨b, 0, none⟩)), (1, .pointer (some ⟨bx, k, none⟩)), (2, .func (.func 144) #[.pointer (some ⟨b, 0, none⟩)] #[]), (41, .int .i64 (s.l.length : Int)), (42, .int .i64 (i : Int))]) (fun x_ => match x_ with | ⟨i, p, u, t, v⟩ => [(some b, .cells #[p, u.v (t).length, .pointer none, .bool v] 80 (0, 0)), (u.ob, .cells u.cs 5 u.fz)]) ?round4 (0, .pointer (some ⟨b, 0, none⟩), u1, tx ++ chainI (s.l.length : Int), true) ?h04)
    case he4 => exact (And.intro rfl (And.intro rfl (And.intro rfl (And.intro rfl (And.intro rfl trivial)))))
    case hl4 => exact ⟨_, rfl⟩
    case h04 => exact ⟨Nat.zero_le _, .inr rfl, hu1, by simp, by simp [*]⟩
    case round4 =>
     intro x_ hJ ih
     try dsimp only at hJ ih
     obtain ⟨i, p, u, t, v⟩ := x_
     try dsimp only at hJ ih
     obtain ⟨hi, hp, hu, ht, hv⟩ := hJ
     show G _ _ [(0, .pointer (some ⟨b, 0, none⟩)), (1, .pointer (some ⟨bx, k, none⟩)), (2, .func (.func 144) #[.pointer (some ⟨b, 0, none⟩)] #[]), (41, .int .i64 (s.l.length : Int)), (42, .int .i64 (i : Int))] [(some b, .cells #[p, u.v (t).length, .pointer none, .bool v] 80 (0, 0)), (u.ob, .cells u.cs 5 u.fz)] _
     refine Zi ?_
     refine Zd (l := [0]) rfl ?_
     refine Za rfl rfl rfl rfl (Xh rfl rfl rfl) ?_
     refine Zg ?_
     refine Zi ?_
     refine Yl rfl (fun hc2 => ?_) (fun hc2 => ?_)
     ·
      refine Zu ?_
      refine Zi ?_
      refine Zp ?_
      refine Zi ?_
      refine Zd (l := [0, 1]) rfl ?_
      refine Za rfl rfl rfl rfl (Zc rfl rfl) ?_
      refine Za rfl rfl rfl rfl (Zk rfl rfl) ?_
      refine Zg ?_
      refine Zi ?_
      obtain ⟨x, hx⟩ := Xv (show i < s.l.length by omega)
      obtain ⟨bi, hb1, hb2, hss⟩ := hs.isS (i := i) (by omega)
      have hxo := hok x (List.mem_of_getElem? hx)
      have hfl := fmap_len encCl s.l (i + 1)
      rw [← Yw encCl hx, List.length_append] at hfl
      have htl := congrArg List.length ht
      simp only [List.length_append] at htl
      refine Zd (l := [0, 1, 2, 3, 4, 5, 6, 7]) rfl ?_
      refine Za rfl rfl rfl rfl (Zc rfl rfl) ?_
      refine Za rfl rfl rfl rfl (Ze rfl rfl) ?_
      refine Za rfl rfl rfl rfl (Zj rfl rfl (List.mem_append_left _ (Zf 0 rfl)) (Zr hk) Try.underlying248 rfl) ?_
      rw [hb1]
      refine Za rfl rfl rfl rfl (Zc rfl rfl) ?_
      refine Za rfl rfl rfl rfl (Zl (s := 3) rfl Try.underlying248 i_250 rfl rfl rfl rfl (by omega)) ?_
      refine Za rfl rfl rfl rfl (Xm (s := 3) (vs := (cCl x).toArray) rfl rfl (by rw [← hb2]; exact Zf 1 rfl) Try.underlying250 rfl i_250 rfl (hss.elem cCl_len hx) (by rfl)) ?_
      refine Yr rfl rfl rfl rfl (Xb rfl i_250 rfl) (fun b7 => ?_)
      refine Xl (l1 := []) (L' := [_, _, _]) rfl rfl rfl rfl (Xk (s := 3) rfl rfl rfl (Zf 0 rfl) (by rfl) i_250 rfl (by rfl) (by simp [Value.oneCell', cOp, cWk, cIv, cHr, cLt, cWt, cIt, cFl, cTn, cCl])) rfl ?_
      refine Zg ?_
      refine Zd (l := [0, 1]) rfl ?_
      refine Za rfl rfl rfl rfl (Zc rfl rfl) ?_
      refine G_callMB (L2 := [_]) rfl rfl rfl rfl rfl rfl Try.call144 rfl (cw_class b _ _ _ _ hp hu _ x _ _ hxo (by omega)) [1, 1] rfl (sub_el (A1 := [_, _]) (K := kCl) hx (List.mem_append_right _ (Zf 0 rfl))) ?_
      rintro v post ⟨rfl, p1, u1, hp1, hu1, rfl⟩
      show G _ _ _ [_, _, _] _
      refine Zg ?_
      refine Zs ?_
      refine Zd (l := [0, 1]) rfl ?_
      refine Za rfl rfl rfl rfl ((Yu rfl rfl rfl).int (Zv (by omega))) ?_
      refine Za rfl rfl rfl rfl (Zc rfl rfl) ?_
      refine Zg ?_
      refine Yc ?_ [0, 0] ?_ (ih (i + 1, p1, u1, t ++ encCl x, v || badCl x) ?_ ?_)
      · (refine (And.intro ?_ (And.intro ?_ (And.intro ?_ (And.intro ?_ (And.intro ?_ trivial))))) <;> first | rfl | exact Zm (by omega) | exact Zm (by simp))
      · exact ⟨_, rfl⟩
      · exact ⟨by omega, hp1, hu1, by rw [← Yw encCl hx, ht]; simp only [List.append_assoc], by rw [hv, ← Xx hx]; simp only [Bool.or_assoc]⟩
      · (first | omega | (dsimp only; omega))
     refine Yx rfl ?_
     refine Xa (post := [_, _]) Try.func143 rfl Zo [0, 0] rfl ?_
     dsimp only [packed]
     have e : s.l.take i = s.l := List.take_of_length_le (by omega)
     rw [e] at ht hv
     subst ht hv
     exact ⟨rfl, p, u, hp, hu, rfl⟩
 refine Za rfl rfl rfl rfl (Zc rfl rfl) ?_
 refine Za rfl rfl rfl rfl (Ze rfl rfl) ?_
 refine Za rfl rfl rfl rfl (Zj rfl rfl (List.mem_append_left _ (Zf 0 rfl)) (Zr hk) Try.underlying248 rfl) ?_
 refine Za rfl rfl rfl rfl (Yf rfl rfl Try.underlying248 rfl) ?_
 refine Za rfl rfl rfl rfl (V_gtr rfl rfl rfl) ?_
 refine Za rfl rfl rfl rfl (Xu rfl rfl rfl) ?_
 refine Za rfl rfl rfl rfl (Ze rfl rfl) ?_
 refine Za rfl rfl rfl rfl (Zb (fo := 3) rfl Try.underlying80 rfl i_4 rfl rfl rfl) ?_
 refine Xl (l1 := []) (L' := [_, _]) rfl rfl rfl rfl (Zq rfl rfl rfl (Zf 0 rfl) (by first | exact of_decide_eq_true rfl | omega | (simp [cOp, cWk, cIv, cHr, cLt, cWt, cIt, cFl, cTn, cCl]; done) | (simp [cOp, cWk, cIv, cHr, cLt, cWt, cIt, cFl, cTn, cCl]; omega) | (simp [cOp, cWk, cIv, cHr, cLt, cWt, cIt, cFl, cTn, cCl] at *; omega)) i_4 rfl rfl) rfl ?_
 refine Zg ?_
 refine Zi ?_
 refine Ya (Lq := []) (isq := []) (m := 10) Ym rfl rfl ?_
 refine Zh 0 rfl rfl rfl rfl (by kernel_rfl) (fun _ _ => Zc rfl rfl) ?_
 refine Zh 1 rfl rfl rfl rfl (by kernel_rfl) (fun _ _ => Ze rfl rfl) ?_
 refine Zh 2 rfl rfl rfl rfl (by kernel_rfl) (fun _ _ => Zb (fo := 0) rfl Try.underlying80 rfl i_78 rfl rfl rfl) ?_
 refine Zh 3 rfl rfl rfl rfl (by kernel_rfl) (fun _ _ => Zc rfl rfl) ?_
 refine Zh 4 rfl rfl rfl rfl (by kernel_rfl) (fun _ _ => Ze rfl rfl) ?_
 refine Zh 5 rfl rfl rfl rfl (by kernel_rfl) (fun _ _ => Zj rfl rfl (List.mem_append_left _ (Zf 0 rfl)) (Zr hk) Try.underlying248 rfl) ?_
 refine Zh 6 rfl rfl rfl rfl (by kernel_rfl) (fun _ _ => Yf rfl rfl Try.underlying248 rfl) ?_
 refine Zh 7 rfl rfl rfl rfl (by kernel_rfl) (fun _ _ => (V_conv rfl rfl Try.underlying3 Try.underlying23).int (Xs (by omega))) ?_
 refine GH_all [8] (by kernel_rfl) (by decide) ?_
 refine (And.intro ?_ trivial)
 ·
  refine Xq (L2 := [_, _]) rfl rfl rfl rfl rfl rfl Try.call80 (Xw _ (by omega) (by omega)) [] rfl Yd [] (by rintro v post ⟨rfl, rfl⟩; exact ⟨_, rfl⟩) ?_
  rintro v post ⟨rfl, rfl⟩
  show GH _ _ _ _ _ _ _ [_, _] _
  refine GH_all [9] (by kernel_rfl) (by decide) ?_
  refine (And.intro ?_ trivial)
  ·
   refine Xq (L2 := []) rfl rfl rfl rfl rfl rfl Try.call79 (Xo _ _ _ _ _ _ _ hp hu (by omega)) [0, 0] rfl Yd [] (by rintro v post ⟨rfl, u1, hu1, rfl⟩; exact ⟨_, rfl⟩) ?_
   rintro v post ⟨rfl, u1, hu1, rfl⟩
   show GH _ _ _ _ _ _ _ [_, _] _
   refine Zw (by kernel_rfl) ?_
   refine Zi ?_
   refine Zi ?_
   refine Zd (l := [0, 1, 2, 3, 4]) rfl ?_
   refine Za rfl rfl rfl rfl (Zc rfl rfl) ?_
   refine Za rfl rfl rfl rfl (Ze rfl rfl) ?_
   refine Za rfl rfl rfl rfl (Zj rfl rfl (List.mem_append_left _ (Zf 0 rfl)) (Zr hk) Try.underlying248 rfl) ?_
   refine Za rfl rfl rfl rfl (Yf rfl rfl Try.underlying248 rfl) ?_
   refine Za rfl rfl rfl rfl (Zc rfl rfl) ?_
   refine Zg ?_
   refine Zp ?_
   refine Yc ?he4 [0, 0] ?hl4 (Xc (X := Nat × Value × Sl × List UInt8 × Bool) (fun x_ => match x_ with | ⟨i, p, u, t, v⟩ => i ≤ s.l.length ∧ UsedOr b p ∧ Txt u t ∧ t = tx ++ (chainI (s.l.length : Int) ++ (s.l.take i).flatMap encCl) ∧ v = (w || (decide (1000 < (s.l.length : Int)) || (s.l.take i).any badCl))) (fun x_ => match x_ with | ⟨i, p, u, t, v⟩ => s.l.length - i) (fun x_ => match x_ with | ⟨i, p, u, t, v⟩ => [(0, .pointer (some ⟨b, 0, none⟩)), (1, .pointer (some ⟨bx, k, none⟩)), (2, .func (.func 144) #[.pointer (some ⟨b, 0, none⟩)] #[]), (41, .int .i64 (s.l.length : Int)), (42, .int .i64 (i : Int))]) (fun x_ => match x_ with | ⟨i, p, u, t, v⟩ => [(some b, .cells #[p, u.v (t).length, .pointer none, .bool v] 80 (0, 0)), (u.ob, .cells u.cs 5 u.fz)]) ?round4 (0, .pointer (some ⟨b, 0, none⟩), u1, tx ++ chainI (s.l.length : Int), (decide (1000 < (s.l.length : Int)))) ?h04)
   case he4 => exact (And.intro rfl (And.intro rfl (And.intro rfl (And.intro rfl (And.intro rfl trivial)))))
   case hl4 => exact ⟨_, rfl⟩
   case h04 => exact ⟨Nat.zero_le _, .inr rfl, hu1, by simp, by simp [*]⟩
   case round4 =>
    intro x_ hJ ih
    try dsimp only at hJ ih
    obtain ⟨i, p, u, t, v⟩ := x_
    try dsimp only at hJ ih
    obtain ⟨hi, hp, hu, ht, hv⟩ := hJ
    show G _ _ [(0, .pointer (some ⟨b, 0, none⟩)), (1, .pointer (some ⟨bx, k, none⟩)), (2, .func (.func 144) #[.pointer (some ⟨b, 0, none⟩)] #[]), (41, .int .i64 (s.l.length : Int)), (42, .int .i64 (i : Int))] [(some b, .cells #[p, u.v (t).length, .pointer none, .bool v] 80 (0, 0)), (u.ob, .cells u.cs 5 u.fz)] _
    refine Zi ?_
    refine Zd (l := [0]) rfl ?_
    refine Za rfl rfl rfl rfl (Xh rfl rfl rfl) ?_
    refine Zg ?_
    refine Zi ?_
    refine Yl rfl (fun hc2 => ?_) (fun hc2 => ?_)
    ·
     refine Zu ?_
     refine Zi ?_
     refine Zp ?_
     refine Zi ?_
     refine Zd (l := [0, 1]) rfl ?_
     refine Za rfl rfl rfl rfl (Zc rfl rfl) ?_
     refine Za rfl rfl rfl rfl (Zk rfl rfl) ?_
     refine Zg ?_
     refine Zi ?_
     obtain ⟨x, hx⟩ := Xv (show i < s.l.length by omega)
     obtain ⟨bi, hb1, hb2, hss⟩ := hs.isS (i := i) (by omega)
     have hxo := hok x (List.mem_of_getElem? hx)
     have hfl := fmap_len encCl s.l (i + 1)
     rw [← Yw encCl hx, List.length_append] at hfl
     have htl := congrArg List.length ht
     simp only [List.length_append] at htl
     refine Zd (l := [0, 1, 2, 3, 4, 5, 6, 7]) rfl ?_
     refine Za rfl rfl rfl rfl (Zc rfl rfl) ?_
     refine Za rfl rfl rfl rfl (Ze rfl rfl) ?_
     refine Za rfl rfl rfl rfl (Zj rfl rfl (List.mem_append_left _ (Zf 0 rfl)) (Zr hk) Try.underlying248 rfl) ?_
     rw [hb1]
     refine Za rfl rfl rfl rfl (Zc rfl rfl) ?_
     refine Za rfl rfl rfl rfl (Zl (s := 3) rfl Try.underlying248 i_250 rfl rfl rfl rfl (by omega)) ?_
     refine Za rfl rfl rfl rfl (Xm (s := 3) (vs := (cCl x).toArray) rfl rfl (by rw [← hb2]; exact Zf 1 rfl) Try.underlying250 rfl i_250 rfl (hss.elem cCl_len hx) (by rfl)) ?_
     refine Yr rfl rfl rfl rfl (Xb rfl i_250 rfl) (fun b7 => ?_)
     refine Xl (l1 := []) (L' := [_, _, _]) rfl rfl rfl rfl (Xk (s := 3) rfl rfl rfl (Zf 0 rfl) (by rfl) i_250 rfl (by rfl) (by simp [Value.oneCell', cOp, cWk, cIv, cHr, cLt, cWt, cIt, cFl, cTn, cCl])) rfl ?_
     refine Zg ?_
     refine Zd (l := [0, 1]) rfl ?_
     refine Za rfl rfl rfl rfl (Zc rfl rfl) ?_
     refine G_callMB (L2 := [_]) rfl rfl rfl rfl rfl rfl Try.call144 rfl (cw_class b _ _ _ _ hp hu _ x _ _ hxo (by omega)) [1, 1] rfl (sub_el (A1 := [_, _]) (K := kCl) hx (List.mem_append_right _ (Zf 0 rfl))) ?_
     rintro v post ⟨rfl, p1, u1, hp1, hu1, rfl⟩
     show G _ _ _ [_, _, _] _
     refine Zg ?_
     refine Zs ?_
     refine Zd (l := [0, 1]) rfl ?_
     refine Za rfl rfl rfl rfl ((Yu rfl rfl rfl).int (Zv (by omega))) ?_
     refine Za rfl rfl rfl rfl (Zc rfl rfl) ?_
     refine Zg ?_
     refine Yc ?_ [0, 0] ?_ (ih (i + 1, p1, u1, t ++ encCl x, v || badCl x) ?_ ?_)
     · (refine (And.intro ?_ (And.intro ?_ (And.intro ?_ (And.intro ?_ (And.intro ?_ trivial))))) <;> first | rfl | exact Zm (by omega) | exact Zm (by simp))
     · exact ⟨_, rfl⟩
     · exact ⟨by omega, hp1, hu1, by rw [← Yw encCl hx, ht]; simp only [List.append_assoc], by rw [hv, ← Xx hx]; simp only [Bool.or_assoc]⟩
     · (first | omega | (dsimp only; omega))
    refine Yx rfl ?_
    refine Xa (post := [_, _]) Try.func143 rfl Zo [0, 0] rfl ?_
    dsimp only [packed]
    have e : s.l.take i = s.l := List.take_of_length_le (by omega)
    rw [e] at ht hv
    subst ht hv
    exact ⟨rfl, p, u, hp, hu, rfl⟩

end
end Go.Proofs.Ytjnaeoelnmhjfaa
