/- The law LogFalls: however often the power goes, and whatever stays, all is replayed that was appended ahead of a sync, and behind that the first ones of what was appended since; the call returns true and leaves its arguments as they were. -/
import Derived.Test.YtbblkgdejgoncaaDoorPkLogFalls1
import Derived.Test.YtbblkgdejgoncaaDoorPkLogFalls2
import Derived.Test.YtbblkgdejgoncaaDoorPkLogFalls3
import Derived.Test.YtbblkgdejgoncaaDoorPkLogFalls4
import Derived.Test.YtbblkgdejgoncaaDoorPkLogFalls5
import Derived.Test.YtbblkgdejgoncaaDoorPkLogFalls6
import Derived.Test.YtbblkgdejgoncaaDoorCards
import Derived.Test.YtbblkgdejgoncaaDoorTie
import Derived.Lay
import Derived.LaidOnce
import Derived.SevenTiedAt
import Derived.Deep.DeepHandedRow

/- The walk of the law LogFalls. -/
set_option linter.unusedSimpArgs false
set_option linter.unusedVariables false
namespace Go.Proofs.YtbblkgdejgoncaaDoor
open Go Go.ChangeShapes Go.WideShapes Go.ChangeAt Go.RowKit

section
theorem infLogFW_3 : Tryd.prog.info? 3 = some Tryd.t3 := by kernel_rfl
theorem infLogFW_4 : Tryd.prog.info? 4 = some Tryd.t4 := by kernel_rfl
theorem infLogFW_9 : Tryd.prog.info? 9 = some Tryd.t9 := by kernel_rfl
theorem infLogFW_24 : Tryd.prog.info? 24 = some Tryd.t24 := by kernel_rfl
theorem infLogFW_59 : Tryd.prog.info? 59 = some Tryd.t59 := by kernel_rfl
theorem infLogFW_92 : Tryd.prog.info? 92 = some Tryd.t92 := by kernel_rfl
theorem infLogFW_94 : Tryd.prog.info? 94 = some Tryd.t94 := by kernel_rfl
theorem infLogFW_108 : Tryd.prog.info? 108 = some Tryd.t108 := by kernel_rfl
theorem infLogFW_116 : Tryd.prog.info? 116 = some Tryd.t116 := by kernel_rfl
theorem infLogFW_132 : Tryd.prog.info? 132 = some Tryd.t132 := by kernel_rfl
theorem plcLogFW_92 : placesOf Tryd.prog (Tryd.prog.fieldsOf 92) = some [(0, 1), (1, 1)] := by kernel_rfl


/-- How the disk and the log stand, and what was appended, and how much of it is sure. -/
def Fs (k : Dk) (po e : Nat) (xl : List (List UInt8)) (su : Nat) : Prop := ∃ rb base a0 done rest m, Fl 1 22 1 24 e k po rb base a0 done rest m ∧ xl = base ++ (done ++ rest) ∧ su = base.length + m
theorem Fs.b {k : Dk} {po e su : Nat} {xl : List (List UInt8)} (h : Fs k po e xl su) : po ≤ 22 ∧ 1 ≤ e ∧ e < 256 := by
  obtain ⟨rb, base, a0, done, rest, m, hf, _⟩ := h
  exact ⟨hf.atn, hf.e1, hf.e2⟩
theorem fs_fuse {k : Dk} {po e su : Nat} {xl : List (List UInt8)} (h : Fs k po e xl su) (z : Int) : Fs (k.setFuse z) po e xl su := by
  obtain ⟨rb, base, a0, done, rest, m, hf, e1, e2⟩ := h
  exact ⟨rb, base, a0, done, rest, m, fl_fuse hf z, e1, e2⟩
theorem fs_append {k : Dk} {po e su : Nat} {xl : List (List UInt8)} (h : Fs k po e xl su) {s : List UInt8} (hs : s.length ≤ 1000) :
    ((appE k 1 22 e po s = 0 ∨ appE k 1 22 e po s = 21) ∧ Fs (appK k 1 22 e po s) (appA k 1 22 e po s) e (xl ++ [s]) su) ∨ (¬ appE k 1 22 e po s = 0 ∧ ¬ appE k 1 22 e po s = 21 ∧ Fs (appK k 1 22 e po s) (appA k 1 22 e po s) e xl su) := by
  obtain ⟨rb, base, a0, done, rest, m, hf, e1, e2⟩ := h
  by_cases hfit : fitsL (((22 : Nat) : Int) - (po : Int)) s
  · rcases fl_append hf hs hfit with ⟨x1, x2, x3, x4⟩ | ⟨x1, x2, x3⟩
    · refine .inl ⟨.inl x1, rb, base, a0, done ++ [s], [], m, ?_, ?_, e2⟩
      · have x2 : appA k 1 22 e po s = po + manyN s.length := x2
        rw [x2]; exact x4
      · rw [e1, x3]; simp
    · refine .inl ⟨.inr x1, rb, base, a0, done, rest ++ [s], m, ?_, ?_, e2⟩
      · have x2 : appA k 1 22 e po s = po := x2
        rw [x2]; exact x3
      · rw [e1]; simp
  · obtain ⟨x1, x2, x3⟩ := app_full (k := k) (f := 1) (b := 22) (e := e) (a := po) hs hfit
    refine .inr ⟨by omega, by omega, rb, base, a0, done, rest, m, ?_, e1, e2⟩
    rw [x1, x3]; exact hf
theorem fs_sync {k : Dk} {po e su : Nat} {xl : List (List UInt8)} (h : Fs k po e xl su) : (k.syncE = 0 ∧ Fs k.sync po e xl xl.length) ∨ (k.syncE = 21 ∧ Fs k.sync po e xl su) := by
  obtain ⟨rb, base, a0, done, rest, m, hf, e1, e2⟩ := h
  rcases fl_sync hf with ⟨x1, x2, x3⟩ | ⟨x1, x2⟩
  · refine .inl ⟨x1, rb, base, a0, done, [], done.length, x3, ?_, ?_⟩
    · rw [e1, x2]
    · rw [e1, x2]; simp
  · exact .inr ⟨x1, rb, base, a0, done, rest, m, x2, e1, e2⟩
theorem fs_crash {k : Dk} {po e su : Nat} {xl : List (List UInt8)} (h : Fs k po e xl su) (ks : List (Int × Int)) (ho : DkOk (k.crash ks)) {r : List (List UInt8) × Nat} (hr : rp (rdB (k.crash ks) 1 22) e 1 0 = r) :
    su ≤ r.1.length ∧ r.1.length ≤ xl.length ∧ r.1 = xl.take r.1.length ∧ r.2 ≤ 22 ∧ (e + 1 < 256 → Fs (k.crash ks) r.2 (e + 1) r.1 r.1.length) := by
  obtain ⟨rb, base, a0, done, rest, m, hf, e1, e2⟩ := h
  obtain ⟨x1, x2, j, a1, x3, x4, x5⟩ := fl_crash hf ks
  have hre := rdB_reg ho rfl rfl (f := 1) (n := 22) (by omega)
  rw [show ((1 : Nat) : Int) = 1 from rfl] at hre
  rw [hre, x5] at hr
  subst hr
  have hl : (base ++ (done ++ rest).take j).length = base.length + j := by rw [List.length_append, List.length_take]; omega
  have ha1 : a1 ≤ 22 := by
    have := rp_end_le (rb := reg 1 22 (k.crash ks).L) (e := e) (base0 := 1)
    rw [x5, reg_len (by omega)] at this
    exact this
  have he1 := hf.e1
  refine ⟨?_, ?_, ?_, ha1, fun he => ?_⟩
  · show su ≤ (base ++ (done ++ rest).take j).length
    omega
  · show (base ++ (done ++ rest).take j).length ≤ xl.length
    rw [hl, e1, List.length_append]; omega
  · show base ++ (done ++ rest).take j = xl.take (base ++ (done ++ rest).take j).length
    rw [hl, e1, List.take_length_add_append]
  · exact ⟨reg 1 22 (k.crash ks).L, base ++ (done ++ rest).take j, a1, [], [], 0, fl_start x1 (by omega) (by omega) (by omega) he (by omega) rfl (by rw [Nat.add_sub_cancel]; exact x2) (by rw [Nat.add_sub_cancel]; exact x5), by simp, by simp⟩
theorem fs_start : Fs (newD 24) 0 1 [] 0 := by
  have hL : (newD 24).L = List.replicate 24 zs64 := rfl
  have hw : ∀ i, i < 22 → (reg 1 22 (newD 24).L).getD i [] = zs64 := fun i hi => by
    rw [reg_get _ hi, hL, List.getD_eq_getElem?_getD, List.getElem?_replicate, if_pos (by omega)]; rfl
  exact ⟨_, [], 0, [], [], 0, fl_start (by rw [hL, List.length_replicate]) (by omega) (by omega) (by omega) (by omega) (by omega) rfl (fun i hi => by rw [hw i hi]; exact low_zero _) (rp_no (fun x => by have := x.2.1; have := x.2.2.1; omega)), rfl, rfl⟩
theorem rg24 : rgE 24 1 22 = 0 := by rw [rgE_ok]; omega
theorem sync_W (k : Dk) : k.sync.W.length ≤ k.W.length := by
  unfold Dk.sync; split <;> simp [Dk.spent, Dk.flushed]
structure Af where
  kd : Int
  s : List UInt8
  z : Int
  p : Option Addr
  ob : Option Nat
  off : Nat
  cap : Nat
  cs : Array Value
  T : TypeId
  fr : Nat × Nat
  ks : List (Int × Int)
instance : Inhabited Af := ⟨⟨0, [], 0, none, none, 0, 0, #[], 0, (0, 0), []⟩⟩
def afC (a : Af) : List Value := [.int .i64 a.kd, .string (bs a.s), .int .i64 a.z, Value.slice a.p a.ks.length a.cap]
theorem af_len (a : Af) : (afC a).length = 4 := rfl
structure AfOk (a : Af) : Prop where
  s1 : a.s.length ≤ 9223372036854775807
  z1 : a.z ≤ 9223372036854775807
  le : a.ks.length ≤ a.cap
  max : a.cap ≤ 9223372036854775807
  sees : (a.p = a.ob.map (fun b => ⟨b, a.off, none⟩) ∧ Sees 2 a.ob a.off a.cap a.cs (a.ks.flatMap kCells) a.ks.length) ∨ (a.ks = [] ∧ a.cap = 0)
def afK (a : Af) : Option Nat × Obj := (a.ob, .cells a.cs a.T a.fr)
theorem kind3 (z : Int) : z = 0 ∨ (¬ z = 0 ∧ z = 1) ∨ (¬ z = 0 ∧ ¬ z = 1) := by omega
theorem texts_cut (a b : Sl) (xl l : List (List UInt8)) (ha : Own 1 a (xl.map strC) xl.length) (hb : Own 1 b (l.map strC) l.length) (h2 : l.length ≤ xl.length) (h3 : l = xl.take l.length) : Ct Tryd.prog 51 [b.v l.length, a.v l.length] [(b.ob, .cells b.cs 9 b.fz), (a.ob, .cells a.cs 9 a.fz)] [] (fun v post => v = .bool true ∧ post = []) := by
  have hc := ha.sees.cut h2
  rw [← h3] at hc
  exact (ref_texts b.ob 0 b.cap b.cs 9 b.fz a.ob 0 a.cap a.cs 9 a.fz l l hb.sees hc).weaken (fun v post h => by rw [decide_eq_true rfl] at h; exact h)
theorem new_W24 : (newD 24).W.length ≤ 21 * 0 := Nat.zero_le _
theorem crash_live (k : Dk) (ks : List (Int × Int)) : (k.crash ks).dead = false := rfl
theorem crash_W0 (k : Dk) (ks : List (Int × Int)) : (k.crash ks).W = [] := rfl

set_option maxRecDepth 100000 in
set_option maxHeartbeats 1000000 in
theorem dk_crash0 (d n lb lcap : Nat) (lcs : Array Value) (uw : Sl) (k : Dk) (h : DkAt k n lb lcs lcap uw) (p : Option Addr) :
    Ct Tryd.prog 33 [.pointer (some ⟨d, 0, none⟩), .slice p 0 0] [] [(some d, .cells #[.slice (some ⟨lb, 0, none⟩) n lcap, uw.v k.W.length, .int .i64 k.fuse, .bool k.dead] 110 (0, 0)), (some lb, .cells lcs 9 (0, 0)), (uw.ob, .cells uw.cs 116 uw.fz)] fun v post => v = .int .i64 0 ∧ ∃ lcs1, DkAt (k.crash []) n lb lcs1 lcap slNil ∧ post = [(some d, .cells #[.slice (some ⟨lb, 0, none⟩) n lcap, slNil.v (k.crash []).W.length, .int .i64 (k.crash []).fuse, .bool (k.crash []).dead] 110 (0, 0)), (some lb, .cells lcs1 9 (0, 0)), (slNil.ob, .cells slNil.cs 116 slNil.fz)] := by
 have hb := h.bd
 have hb1 := hb.n1
 have hb2 := hb.n4
 have hb3 := hb.ncs
 have hb4 := hb.ncap
 have hb5 := hb.cap
 have hb6 := hb.w
 have hb7 := hb.wc
 have hln := h.len
 refine ct_of Tryd.func33 rfl rfl (fun w0 => ?_)
 show G _ _ [(0, _), (1, _)] _ _
 refine G_seq ?_
 refine G_region (l := [0]) rfl ?_
 refine G_val rfl rfl rfl rfl (V_assign rfl rfl) ?_
 refine G_done ?_
 refine G_seq ?_
 refine G_seq ?_
 refine G_region (l := [0, 1]) rfl ?_
 refine G_val rfl rfl rfl rfl (V_move rfl rfl) ?_
 refine G_val rfl rfl rfl rfl (V_peqlN rfl Tryd.underlying35 rfl rfl) ?_
 refine G_done ?_
 refine G_else rfl ?_
 refine G_skip ?_
 refine G_seq ?_
 refine G_seq ?_
 refine G_region (l := [0, 1, 2]) rfl ?_
 refine G_val rfl rfl rfl rfl (V_move rfl rfl) ?_
 refine G_val rfl rfl rfl rfl (V_len rfl rfl Tryd.underlying59 rfl) ?_
 refine G_val rfl rfl rfl rfl (V_move rfl rfl) ?_
 refine G_done ?_
 refine G_block ?_
 refine G_sub ?he4 [0, 0, 0] ?hl4 (G_loop (X := Nat) (fun i => i = 0) (fun i => 0) (fun i => [(0, .pointer (some ⟨d, 0, none⟩)), (11, .slice p 0 0), (12, .int .i64 0), (13, .int .i64 (i : Int))]) (fun i => [(some d, .cells #[.slice (some ⟨lb, 0, none⟩) n lcap, uw.v k.W.length, .int .i64 k.fuse, .bool k.dead] 110 (0, 0)), (some lb, .cells lcs 9 (0, 0)), (uw.ob, .cells uw.cs 116 uw.fz)]) ?round4 0 ?h04)
 case he4 => exact (And.intro rfl (And.intro rfl (And.intro rfl (And.intro rfl trivial))))
 case hl4 => exact ⟨_, rfl⟩
 case h04 => rfl
 case round4 =>
  intro i hJ ih
  try dsimp only at hJ ih
  obtain hi := hJ
  refine G_seq ?_
  refine G_region (l := [0]) rfl ?_
  refine G_val rfl rfl rfl rfl (V_lss rfl rfl rfl) ?_
  refine G_done ?_
  refine G_seq ?_
  refine G_ifD rfl (fun hc1 => ?_) (fun hc1 => ?_)
  · (first | (exact absurd rfl hc1) | (exfalso; omega))
  refine G_exit rfl ?_
  refine G_seq ?_
  refine G_addNone (.cells #[] 116 (0, 0)) ?_
  refine G_region (l := [0, 1, 2, 3, 4, 5, 6, 7, 8, 9, 10, 11]) rfl ?_
  refine G_val rfl rfl rfl rfl (V_move rfl rfl) ?_
  refine G_val rfl rfl rfl rfl (V_move rfl rfl) ?_
  refine G_val rfl rfl rfl rfl (V_move rfl rfl) ?_
  first
    | refine G_val rfl rfl rfl rfl (V_nilCheck rfl rfl) ?_
    | refine G_val rfl rfl rfl rfl (V_nilCheckF rfl rfl) ?_
  refine G_val rfl rfl rfl rfl (V_fieldAddr (fo := 1) rfl Tryd.underlying110 rfl infLogFW_108 rfl rfl rfl) ?_
  refine G_put (l1 := [_]) (L' := [_, _, _, _]) rfl rfl rfl rfl (P_store1 rfl rfl rfl (mem_at 1 rfl) (by first | exact of_decide_eq_true rfl | omega | (simp [wCells, kCells, rgC, lgC, rdC, afC, sv, Sl.v]; done) | (simp [wCells, kCells, rgC, lgC, rdC, afC, sv, Sl.v]; omega) | (simp [wCells, kCells, rgC, lgC, rdC, afC, sv, Sl.v] at *; omega)) infLogFW_108 rfl rfl) rfl ?_
  first
    | refine G_val rfl rfl rfl rfl (V_nilCheck rfl rfl) ?_
    | refine G_val rfl rfl rfl rfl (V_nilCheckF rfl rfl) ?_
  refine G_val rfl rfl rfl rfl (V_fieldAddr (fo := 2) rfl Tryd.underlying110 rfl infLogFW_3 rfl rfl rfl) ?_
  refine G_put (l1 := [_]) (L' := [_, _, _, _]) rfl rfl rfl rfl (P_store1 rfl rfl rfl (mem_at 1 rfl) (by first | exact of_decide_eq_true rfl | omega | (simp [wCells, kCells, rgC, lgC, rdC, afC, sv, Sl.v]; done) | (simp [wCells, kCells, rgC, lgC, rdC, afC, sv, Sl.v]; omega) | (simp [wCells, kCells, rgC, lgC, rdC, afC, sv, Sl.v] at *; omega)) infLogFW_3 rfl rfl) rfl ?_
  first
    | refine G_val rfl rfl rfl rfl (V_nilCheck rfl rfl) ?_
    | refine G_val rfl rfl rfl rfl (V_nilCheckF rfl rfl) ?_
  refine G_val rfl rfl rfl rfl (V_fieldAddr (fo := 3) rfl Tryd.underlying110 rfl infLogFW_4 rfl rfl rfl) ?_
  refine G_put (l1 := [_]) (L' := [_, _, _, _]) rfl rfl rfl rfl (P_store1 rfl rfl rfl (mem_at 1 rfl) (by first | exact of_decide_eq_true rfl | omega | (simp [wCells, kCells, rgC, lgC, rdC, afC, sv, Sl.v]; done) | (simp [wCells, kCells, rgC, lgC, rdC, afC, sv, Sl.v]; omega) | (simp [wCells, kCells, rgC, lgC, rdC, afC, sv, Sl.v] at *; omega)) infLogFW_4 rfl rfl) rfl ?_
  refine G_done ?_
  refine G_seq ?_
  refine G_region (l := [0]) rfl ?_
  refine G_val rfl rfl rfl rfl (V_assign rfl rfl) ?_
  refine G_done ?_
  refine G_ret (post := [_, _, _]) Tryd.func33 rfl (RVs_cons (RV_tmp rfl) RVs_nil) [1, 1, 0] rfl ?_
  dsimp only [packed]
  exact ⟨rfl, lcs, crash_at h h.l, rfl⟩


theorem ct_more {P : Program} {f : FuncId} {args : List Value} {A L : List (Option Nat × Obj)} {R : Value → List (Option Nat × Obj) → Prop} (h : Ct P f args [] L R) : Ct P f args A L R := fun w0 hh => h w0 hh.dropA
theorem crash_any (d n lb lcap : Nat) (lcs : Array Value) (uw : Sl) (k : Dk) (h : DkAt k n lb lcs lcap uw) (a : Af) (ha : AfOk a) : Ct Tryd.prog 33 [.pointer (some ⟨d, 0, none⟩), .slice a.p a.ks.length a.cap] [afK a] [(some d, .cells #[.slice (some ⟨lb, 0, none⟩) n lcap, uw.v k.W.length, .int .i64 k.fuse, .bool k.dead] 110 (0, 0)), (some lb, .cells lcs 9 (0, 0)), (uw.ob, .cells uw.cs 116 uw.fz)] (fun v post => v = .int .i64 0 ∧ ∃ lcs1, DkAt (k.crash a.ks) n lb lcs1 lcap slNil ∧ post = [(some d, .cells #[.slice (some ⟨lb, 0, none⟩) n lcap, slNil.v (k.crash a.ks).W.length, .int .i64 (k.crash a.ks).fuse, .bool (k.crash a.ks).dead] 110 (0, 0)), (some lb, .cells lcs1 9 (0, 0)), (slNil.ob, .cells slNil.cs 116 slNil.fz)]) := by
  rcases ha.sees with ⟨e, hs⟩ | ⟨e1, e2⟩
  · rw [e]; exact dk_crash d n lb lcap lcs uw k h _ _ _ _ _ _ a.ks hs
  · rw [e1, e2]; exact ct_more (dk_crash0 d n lb lcap lcs uw k h a.p)

attribute [local irreducible] rp rdB newD appK appE appA Fs Dk.crash Dk.sync Dk.syncE
set_option maxRecDepth 100000 in
set_option maxHeartbeats 1000000 in
theorem st_right (a b : Sl) (xl l : List (List UInt8)) (ha : Own 1 a (xl.map strC) xl.length) (hb : Own 1 b (l.map strC) l.length) (su : Nat) (h1 : su ≤ l.length) (h2 : l.length ≤ xl.length) (h3 : l = xl.take l.length) :
    Ct Tryd.prog 52 [.agg #[a.v xl.length, .int .i64 (su : Int)], b.v l.length] [(a.ob, .cells a.cs 9 a.fz), (b.ob, .cells b.cs 9 b.fz)] [] fun v post => v = .bool true ∧ post = [] := by
 have hk1 := ha.le
 have hk2 := ha.max
 have hk3 := hb.le
 have hk4 := hb.max
 refine ct_of Tryd.func52 rfl rfl (fun w0 => ?_)
 show G _ _ [(0, _), (1, _)] _ _
 refine G_seq ?_
 refine G_region (l := [0, 1]) rfl ?_
 refine G_new rfl rfl rfl rfl (N_boxA rfl rfl) (fun b2 => ?_)
 refine G_val rfl rfl rfl rfl (V_assign rfl rfl) ?_
 refine G_done ?_
 refine G_seq ?_
 refine G_seq ?_
 refine G_region (l := [0, 1, 2, 3, 4, 5, 6, 7, 8, 9, 10, 11, 12]) rfl ?_
 refine G_val rfl rfl rfl rfl (V_move rfl rfl) ?_
 refine G_val rfl rfl rfl rfl (V_len rfl rfl Tryd.underlying24 rfl) ?_
 refine G_val rfl rfl rfl rfl (V_fieldAddr (fo := 1) rfl Tryd.underlying92 rfl infLogFW_3 rfl rfl rfl) ?_
 refine G_val rfl rfl rfl rfl (V_load1 rfl rfl (mem_at 2 rfl) rfl Tryd.underlying3 rfl) ?_
 refine G_val rfl rfl rfl rfl (V_lss rfl rfl rfl) ?_
 refine G_val rfl rfl rfl rfl (V_move rfl rfl) ?_
 refine G_splitD 10 rfl (fun hc1 => ?_) (fun hc1 => ?_)
 · (first | (exact absurd rfl hc1) | (exfalso; omega))
 refine G_val rfl rfl rfl rfl (V_move rfl rfl) ?_
 refine G_val rfl rfl rfl rfl (V_len rfl rfl Tryd.underlying24 rfl) ?_
 refine G_val rfl rfl rfl rfl (V_fieldAddr (fo := 0) rfl Tryd.underlying92 rfl infLogFW_24 rfl rfl rfl) ?_
 refine G_val rfl rfl rfl rfl (V_load1 rfl rfl (mem_at 2 rfl) rfl Tryd.underlying24 rfl) ?_
 refine G_val rfl rfl rfl rfl (V_len rfl rfl Tryd.underlying24 rfl) ?_
 refine G_val rfl rfl rfl rfl (V_gtr rfl rfl rfl) ?_
 refine G_val rfl rfl rfl rfl (V_pickF rfl rfl rfl) ?_
 refine G_done ?_
 refine G_ifD rfl (fun hc2 => ?_) (fun hc2 => ?_)
 · (first | (exact absurd rfl hc2) | (exfalso; omega))
 refine G_skip ?_
 refine G_seq ?_
 refine G_region (l := [0, 1, 2, 3, 4, 5, 6, 7]) rfl ?_
 refine G_val rfl rfl rfl rfl (V_move rfl rfl) ?_
 refine G_val rfl rfl rfl rfl (V_fieldAddr (fo := 0) rfl Tryd.underlying92 rfl infLogFW_24 rfl rfl rfl) ?_
 refine G_val rfl rfl rfl rfl (V_load1 rfl rfl (mem_at 2 rfl) rfl Tryd.underlying24 rfl) ?_
 refine G_val rfl rfl rfl rfl (V_move rfl rfl) ?_
 refine G_val rfl rfl rfl rfl (V_len rfl rfl Tryd.underlying24 rfl) ?_
 refine G_val rfl rfl rfl rfl (V_sliceH rfl Tryd.underlying24 infLogFW_9 rfl rfl rfl (by first | omega | (simp [wCells, kCells, rgC, lgC, rdC, afC, sv, Sl.v]; done) | (simp [wCells, kCells, rgC, lgC, rdC, afC, sv, Sl.v]; omega) | (simp [wCells, kCells, rgC, lgC, rdC, afC, sv, Sl.v] at *; omega))) ?_
 refine G_call (L2 := [_]) rfl rfl rfl rfl rfl rfl Tryd.call51 (texts_cut a b xl l ha hb h2 h3) [] [1, 0] rfl rfl ?_
 rintro v post ⟨rfl, rfl⟩
 show G _ _ _ [_] _
 refine G_val rfl rfl rfl rfl (V_assign rfl rfl) ?_
 refine G_done ?_
 refine G_ret (post := []) Tryd.func52 rfl (RVs_cons (RV_tmp rfl) RVs_nil) [] rfl ?_
 dsimp only [packed]
 exact ⟨rfl, rfl⟩

set_option maxRecDepth 100000 in
set_option maxHeartbeats 4000000 in
theorem logFalls_all (o1 : Option Nat) (p1 q1 : Nat) (c1 : Array Value) (T1 : TypeId) (f1 : Nat × Nat) (acs : List Af) (hs : Sees 4 o1 p1 q1 c1 (acs.flatMap afC) acs.length) (hok : ∀ a ∈ acs, AfOk a) :
    Ct Tryd.prog 11 [sv o1 p1 acs.length q1] ((o1, .cells c1 T1 f1) :: acs.map afK) [] fun v post => v = .bool true ∧ post = [] := by
 have hk1 := hs.le
 have hk2 := hs.max
 refine ct_of Tryd.func11 rfl rfl (fun w0 => ?_)
 show G _ _ [(0, _)] _ _
 refine G_seq ?_
 refine G_region (l := [0]) rfl ?_
 refine G_val rfl rfl rfl rfl (V_assign rfl rfl) ?_
 refine G_done ?_
 refine G_seq ?_
 refine G_seq ?_
 refine G_region (l := [0, 1, 2]) rfl ?_
 refine G_val rfl rfl rfl rfl (V_move rfl rfl) ?_
 refine G_val rfl rfl rfl rfl (V_len rfl rfl Tryd.underlying90 rfl) ?_
 refine G_val rfl rfl rfl rfl (V_gtr rfl rfl rfl) ?_
 refine G_done ?_
 refine G_ifD rfl (fun hc1 => ?_) (fun hc1 => ?_)
 · skip
   refine G_seq ?_
   refine G_region (l := [0, 1]) rfl ?_
   refine G_callM (L2 := []) rfl rfl rfl rfl rfl rfl Tryd.call34 (ll_live) [] rfl subA_nil ?_
   rintro v post ⟨rfl, rfl⟩
   refine G_val rfl rfl rfl rfl (V_assign rfl rfl) ?_
   refine G_done ?_
   refine G_ret (post := []) Tryd.func11 rfl (RVs_cons (RV_tmp rfl) RVs_nil) [] rfl ?_
   dsimp only [packed]
   exact ⟨rfl, rfl⟩
 refine G_skip ?_
 refine G_seq ?_
 refine G_region (l := [0, 1, 2, 3, 4, 5]) rfl ?_
 refine G_callM (L2 := []) rfl rfl rfl rfl rfl rfl Tryd.call17 (dk_new 24 (by omega) (by omega)) [] rfl subA_nil ?_
 rintro v post ⟨d, lb, lcap, lcs, rfl, h, rfl⟩
 show G _ _ _ [_, _, _] _
 refine G_val rfl rfl rfl rfl (V_move rfl rfl) ?_
 refine G_val rfl rfl rfl rfl (V_extract rfl rfl rfl) ?_
 refine G_val rfl rfl rfl rfl (V_extract rfl rfl rfl) ?_
 refine G_val rfl rfl rfl rfl (V_assign rfl rfl) ?_
 refine G_val rfl rfl rfl rfl (V_assign rfl rfl) ?_
 refine G_done ?_
 refine G_seq ?_
 refine G_region (l := [0]) rfl ?_
 refine G_val rfl rfl rfl rfl (V_assign rfl rfl) ?_
 refine G_done ?_
 refine G_seq ?_
 refine G_region (l := [0, 1, 2, 3, 4, 5, 6, 7]) rfl ?_
 refine G_val rfl rfl rfl rfl (V_move rfl rfl) ?_
 refine G_val rfl rfl rfl rfl (V_move rfl rfl) ?_
 refine G_callM (L2 := [_, _, _]) rfl rfl rfl rfl rfl rfl Tryd.call35 ((lg_new d 24 lb lcap lcs slNil (newD 24) h 1 22 (by omega) (by omega) (by omega) (by omega) 1 0 (by omega) (by omega) (by omega)).weaken (fun v post h => h.elim (fun x => absurd rg24 x.1) (fun x => x.elim (fun y => absurd y.2.1 (by omega)) (fun z => z.2.2.2.2)))) [] rfl (subA_cons (List.mem_append_right _ (mem_at 0 rfl)) subA_nil) ?_
 rintro v post ⟨g, rfl, rfl⟩
 show G _ _ _ [_, _, _, _] _
 refine G_val rfl rfl rfl rfl (V_move rfl rfl) ?_
 refine G_val rfl rfl rfl rfl (V_extract rfl rfl rfl) ?_
 refine G_val rfl rfl rfl rfl (V_extract rfl rfl rfl) ?_
 refine G_val rfl rfl rfl rfl (V_assign rfl rfl) ?_
 refine G_val rfl rfl rfl rfl (V_assign rfl rfl) ?_
 refine G_done ?_
 refine G_seq ?_
 refine G_region (l := [0, 1, 2]) rfl ?_
 refine G_val rfl rfl rfl rfl (V_buildS (cs := [_, _]) rfl Tryd.underlying92 infLogFW_92 rfl plcLogFW_92 rfl rfl rfl) ?_
 refine G_new rfl rfl rfl rfl (N_allocA rfl infLogFW_92 rfl) (fun b8 => ?_)
 refine G_put (l1 := []) (L' := [_, _, _, _, _]) rfl rfl rfl rfl (P_storeA (s := 2) rfl rfl rfl (mem_at 0 rfl) (by first | rfl | (simp [bcells_length, wCells, kCells, rgC, lgC, rdC, afC, sv, Sl.v]; done) | (simp [bcells_length, wCells, kCells, rgC, lgC, rdC, afC, sv, Sl.v]; omega) | (simp [bcells_length, *, wCells, kCells, rgC, lgC, rdC, afC, sv, Sl.v]; done)) infLogFW_92 rfl (by first | rfl | (simp [bcells_length, wCells, kCells, rgC, lgC, rdC, afC, sv, Sl.v]; done) | (simp [bcells_length, wCells, kCells, rgC, lgC, rdC, afC, sv, Sl.v]; omega) | (simp [bcells_length, *, wCells, kCells, rgC, lgC, rdC, afC, sv, Sl.v]; done)) (by first | rfl | exact bcells_all _ | (simp [Value.oneCell', wCells, kCells, rgC, lgC, rdC, afC, sv, Sl.v]; done) | (simp [Value.oneCell', *, wCells, kCells, rgC, lgC, rdC, afC, sv, Sl.v]; done))) rfl ?_
 refine G_done ?_
 refine G_seq ?_
 refine G_seq ?_
 refine G_addNone (.cells #[] 9 (0, 0)) ?_
 refine G_region (l := [0]) rfl ?_
 refine G_val rfl rfl rfl rfl (V_assign rfl rfl) ?_
 refine G_done ?_
 refine G_block ?_
 refine G_sub ?he8 [2, 1, 0, 0, 0, 0] ?hl8 (G_loop (X := Nat × Dk × Array Value × Sl × Nat × Nat × List (List UInt8) × Sl × Nat × Nat) (fun x => match x with | ⟨i, k, cs, u, e, po, xl, v, su, g⟩ => i ≤ acs.length ∧ DkAt k 24 lb cs lcap u ∧ Fs k po e xl su ∧ e ≤ i + 1 ∧ xl.length ≤ i ∧ Own 1 v (xl.map strC) xl.length ∧ k.W.length ≤ 21 * i) (fun x => match x with | ⟨i, k, cs, u, e, po, xl, v, su, g⟩ => acs.length - i) (fun x => match x with | ⟨i, k, cs, u, e, po, xl, v, su, g⟩ => [(0, sv o1 p1 acs.length q1), (3, .pointer (some ⟨d, 0, none⟩)), (4, .int .i64 0), (5, .int .u32 (e : Int)), (6, .pointer (some ⟨g, 0, none⟩)), (8, .pointer (some ⟨b8, 0, none⟩)), (9, .int .i64 (i : Int))]) (fun x => match x with | ⟨i, k, cs, u, e, po, xl, v, su, g⟩ => [(some g, .cells (lgC d 1 22 e po).toArray 136 (0, 0)), (some b8, .cells #[v.v xl.length, .int .i64 (su : Int)] 92 (0, 0)), (v.ob, .cells v.cs 9 v.fz), (some d, .cells #[.slice (some ⟨lb, 0, none⟩) 24 lcap, u.v k.W.length, .int .i64 k.fuse, .bool k.dead] 110 (0, 0)), (some lb, .cells cs 9 (0, 0)), (u.ob, .cells u.cs 116 u.fz)]) ?round8 (0, newD 24, lcs, slNil, 1, 0, [], slNil, 0, g) ?h08)
 case he8 => exact (And.intro rfl (And.intro rfl (And.intro rfl (And.intro rfl (And.intro rfl (And.intro rfl (And.intro rfl trivial)))))))
 case hl8 => exact ⟨_, rfl⟩
 case h08 => exact ⟨Nat.zero_le _, h, fs_start, Nat.le_refl _, Nat.le_refl _, own_nil 1, new_W24⟩
 case round8 =>
  intro x hJ ih
  try dsimp only at hJ ih
  obtain ⟨i, k, cs, u, e, po, xl, v, su, g⟩ := x
  try dsimp only at hJ ih
  obtain ⟨hi, hk0, hF, hei, hxi, hv, hkw⟩ := hJ
  show G _ _ [(0, sv o1 p1 acs.length q1), (3, .pointer (some ⟨d, 0, none⟩)), (4, .int .i64 0), (5, .int .u32 (e : Int)), (6, .pointer (some ⟨g, 0, none⟩)), (8, .pointer (some ⟨b8, 0, none⟩)), (9, .int .i64 (i : Int))] [(some g, .cells (lgC d 1 22 e po).toArray 136 (0, 0)), (some b8, .cells #[v.v xl.length, .int .i64 (su : Int)] 92 (0, 0)), (v.ob, .cells v.cs 9 v.fz), (some d, .cells #[.slice (some ⟨lb, 0, none⟩) 24 lcap, u.v k.W.length, .int .i64 k.fuse, .bool k.dead] 110 (0, 0)), (some lb, .cells cs 9 (0, 0)), (u.ob, .cells u.cs 116 u.fz)] _
  refine G_seq ?_
  refine G_seq ?_
  refine G_region (l := [0, 1, 2, 3]) rfl ?_
  refine G_val rfl rfl rfl rfl (V_move rfl rfl) ?_
  refine G_val rfl rfl rfl rfl (V_move rfl rfl) ?_
  refine G_val rfl rfl rfl rfl (V_len rfl rfl Tryd.underlying90 rfl) ?_
  refine G_val rfl rfl rfl rfl (V_lss rfl rfl rfl) ?_
  refine G_done ?_
  refine G_ifD rfl (fun hc2 => ?_) (fun hc2 => ?_)
  · skip
    refine G_skip ?_
    refine G_seq ?_
    refine G_block ?_
    refine G_seq ?_
    obtain ⟨a, ha⟩ := getI (show i < acs.length by omega)
    obtain ⟨b1, rfl⟩ := hs.isSome (by omega)
    have hao := hok a (List.mem_of_getElem? ha)
    have ha1 := hao.s1
    have ha2 := hao.z1
    have ha3 := hao.le
    have ha4 := hao.max
    obtain ⟨hb1, hb2, hb3⟩ := hF.b
    have hvl := hv.le
    have hvm := hv.max
    refine G_region (l := [0, 1, 2, 3, 4, 5]) rfl ?_
    refine G_val rfl rfl rfl rfl (V_move rfl rfl) ?_
    refine G_val rfl rfl rfl rfl (V_move rfl rfl) ?_
    first
      | refine G_val rfl rfl rfl rfl (V_indexAddrN (s := 4) rfl Tryd.underlying90 infLogFW_94 rfl rfl rfl rfl (by omega)) ?_
      | refine G_val rfl rfl rfl rfl (V_indexAddr (s := 4) rfl Tryd.underlying90 infLogFW_94 rfl rfl rfl (by omega) (by first | omega | (simp [wCells, kCells, rgC, lgC, rdC, afC, sv, Sl.v]; done) | (simp [wCells, kCells, rgC, lgC, rdC, afC, sv, Sl.v]; omega) | (simp [wCells, kCells, rgC, lgC, rdC, afC, sv, Sl.v] at *; omega))) ?_
    refine G_val rfl rfl rfl rfl (V_loadA (s := 4) (vs := #[.int .i64 a.kd, .string (bs a.s), .int .i64 a.z, Value.slice a.p a.ks.length a.cap]) rfl rfl (List.mem_append_left _ (mem_at 0 rfl)) Tryd.underlying94 rfl infLogFW_94 rfl (hs.elem af_len ha) (by first | rfl | (simp [bcells_length, wCells, kCells, rgC, lgC, rdC, afC, sv, Sl.v]; done) | (simp [bcells_length, wCells, kCells, rgC, lgC, rdC, afC, sv, Sl.v]; omega) | (simp [bcells_length, *, wCells, kCells, rgC, lgC, rdC, afC, sv, Sl.v]; done))) ?_
    refine G_new rfl rfl rfl rfl (N_allocA rfl infLogFW_94 rfl) (fun b10 => ?_)
    refine G_put (l1 := []) (L' := [_, _, _, _, _, _, _]) rfl rfl rfl rfl (P_storeA (s := 4) rfl rfl rfl (mem_at 0 rfl) (by first | rfl | (simp [bcells_length, wCells, kCells, rgC, lgC, rdC, afC, sv, Sl.v]; done) | (simp [bcells_length, wCells, kCells, rgC, lgC, rdC, afC, sv, Sl.v]; omega) | (simp [bcells_length, *, wCells, kCells, rgC, lgC, rdC, afC, sv, Sl.v]; done)) infLogFW_94 rfl (by first | rfl | (simp [bcells_length, wCells, kCells, rgC, lgC, rdC, afC, sv, Sl.v]; done) | (simp [bcells_length, wCells, kCells, rgC, lgC, rdC, afC, sv, Sl.v]; omega) | (simp [bcells_length, *, wCells, kCells, rgC, lgC, rdC, afC, sv, Sl.v]; done)) (by first | rfl | exact bcells_all _ | (simp [Value.oneCell', wCells, kCells, rgC, lgC, rdC, afC, sv, Sl.v]; done) | (simp [Value.oneCell', *, wCells, kCells, rgC, lgC, rdC, afC, sv, Sl.v]; done))) rfl ?_
    refine G_done ?_
    refine G_seq ?_
    refine G_seq ?_
    refine G_region (l := [0, 1, 2, 3, 4, 5, 6, 7, 8, 9]) rfl ?_
    refine G_val rfl rfl rfl rfl (V_fieldAddr (fo := 3) rfl Tryd.underlying94 rfl infLogFW_59 rfl rfl rfl) ?_
    refine G_val rfl rfl rfl rfl (V_load1 rfl rfl (List.mem_append_right _ (mem_at 0 rfl)) rfl Tryd.underlying59 rfl) ?_
    refine G_val rfl rfl rfl rfl (V_len rfl rfl Tryd.underlying59 rfl) ?_
    refine G_val rfl rfl rfl rfl (V_gtr rfl rfl rfl) ?_
    refine G_val rfl rfl rfl rfl (V_move rfl rfl) ?_
    refine G_splitD 50 rfl (fun hc3 => ?_) (fun hc3 => ?_)
    · skip
      refine G_off rfl rfl rfl rfl ?_
      refine G_off rfl rfl rfl rfl ?_
      refine G_off rfl rfl rfl rfl ?_
      refine G_off rfl rfl rfl rfl ?_
      refine G_val rfl rfl rfl rfl (V_pickT rfl rfl rfl) ?_
      refine G_done ?_
      refine G_then rfl ?_
      refine G_seq ?_
      refine G_region (l := [0, 1]) rfl ?_
      refine G_callM (L2 := [_, _, _, _, _, _, _]) rfl rfl rfl rfl rfl rfl Tryd.call34 (ll_live) [] rfl subA_nil ?_
      rintro v post ⟨rfl, rfl⟩
      show G _ _ _ [_, _, _, _, _, _, _] _
      refine G_val rfl rfl rfl rfl (V_assign rfl rfl) ?_
      refine G_done ?_
      refine G_ret (post := []) Tryd.func11 rfl (RVs_cons (RV_tmp rfl) RVs_nil) [] rfl ?_
      dsimp only [packed]
      exact ⟨rfl, rfl⟩
    refine G_val rfl rfl rfl rfl (V_fieldAddr (fo := 1) rfl Tryd.underlying94 rfl infLogFW_9 rfl rfl rfl) ?_
    refine G_val rfl rfl rfl rfl (V_load1 rfl rfl (List.mem_append_right _ (mem_at 0 rfl)) rfl Tryd.underlying9 rfl) ?_
    refine G_val rfl rfl rfl rfl (V_slen rfl rfl Tryd.underlying9 rfl) ?_
    refine G_val rfl rfl rfl rfl (V_gtr rfl rfl rfl) ?_
    refine G_val rfl rfl rfl rfl (V_pickF rfl rfl rfl) ?_
    refine G_done ?_
    refine G_ifD rfl (fun hc4 => ?_) (fun hc4 => ?_)
    · skip
      refine G_seq ?_
      refine G_region (l := [0, 1]) rfl ?_
      refine G_callM (L2 := [_, _, _, _, _, _, _]) rfl rfl rfl rfl rfl rfl Tryd.call34 (ll_live) [] rfl subA_nil ?_
      rintro v post ⟨rfl, rfl⟩
      show G _ _ _ [_, _, _, _, _, _, _] _
      refine G_val rfl rfl rfl rfl (V_assign rfl rfl) ?_
      refine G_done ?_
      refine G_ret (post := []) Tryd.func11 rfl (RVs_cons (RV_tmp rfl) RVs_nil) [] rfl ?_
      dsimp only [packed]
      exact ⟨rfl, rfl⟩
    refine G_skip ?_
    refine G_seq ?_
    refine G_region (l := [0, 1]) rfl ?_
    refine G_val rfl rfl rfl rfl (V_fieldAddr (fo := 0) rfl Tryd.underlying94 rfl infLogFW_3 rfl rfl rfl) ?_
    refine G_val rfl rfl rfl rfl (V_load1 rfl rfl (List.mem_append_right _ (mem_at 0 rfl)) rfl Tryd.underlying3 rfl) ?_
    refine G_done ?_
    refine G_block ?_
    refine G_seq ?_
    rcases kind3 a.kd with hk | hk | hk
    · skip
      refine G_region (l := [0, 1]) rfl ?_
      refine G_val rfl rfl rfl rfl (V_eql rfl rfl rfl) ?_
      refine G_val rfl rfl rfl rfl (V_assign rfl rfl) ?_
      refine G_done ?_
      refine G_ifD rfl (fun hc5 => ?_) (fun hc5 => ?_)
      rotate_left
      · (first | (exact absurd rfl hc5) | (exfalso; omega))
      refine G_seq ?_
      rcases fs_append hF (show a.s.length ≤ 1000 by omega) with ⟨hE, hF1⟩ | ⟨hE, hE2, hF1⟩
      · skip
        refine G_region (l := [0, 1, 2, 3, 4, 5]) rfl ?_
        refine G_val rfl rfl rfl rfl (V_move rfl rfl) ?_
        refine G_val rfl rfl rfl rfl (V_fieldAddr (fo := 1) rfl Tryd.underlying94 rfl infLogFW_9 rfl rfl rfl) ?_
        refine G_val rfl rfl rfl rfl (V_load1 rfl rfl (List.mem_append_right _ (mem_at 0 rfl)) rfl Tryd.underlying9 rfl) ?_
        refine G_callM (L2 := [_, _, _]) rfl rfl rfl rfl rfl rfl Tryd.call41 (lg_append d 24 lb lcap cs u k hk0 g 1 22 e po a.s rg24 (by omega) (by omega) (by omega) (by omega) (by omega)) [1, 3, 3, 3] rfl subA_nil ?_
        rintro v post ⟨rfl, lcs1, uw1, h1, rfl⟩
        show G _ _ _ [_, _, _, _, _, _, _] _
        refine G_callM (L2 := [_, _, _, _, _, _, _]) rfl rfl rfl rfl rfl rfl Tryd.call37 (ll_num _) [] rfl subA_nil ?_
        rintro v post ⟨rfl, rfl⟩
        show G _ _ _ [_, _, _, _, _, _, _] _
        refine G_val rfl rfl rfl rfl (V_assign rfl rfl) ?_
        refine G_done ?_
        refine G_seq ?_
        refine G_seq ?_
        refine G_region (l := [0, 1, 2, 3, 4, 5]) rfl ?_
        refine G_val rfl rfl rfl rfl (V_move rfl rfl) ?_
        refine G_val rfl rfl rfl rfl (V_eql rfl rfl rfl) ?_
        refine G_val rfl rfl rfl rfl (V_move rfl rfl) ?_
        refine G_splitD 110 rfl (fun hc6 => ?_) (fun hc6 => ?_)
        · skip
          refine G_off rfl rfl rfl rfl ?_
          refine G_off rfl rfl rfl rfl ?_
          refine G_val rfl rfl rfl rfl (V_pickT rfl rfl rfl) ?_
          refine G_done ?_
          refine G_then rfl ?_
          refine GH_start (Lq := [_]) (isq := [4]) (m := 10) mixedK rfl rfl ?_
          refine GH_take 1 rfl rfl rfl rfl (by kernel_rfl) (by kernel_rfl) (by kernel_rfl) (fun _ _ => (V_fieldAddr (fo := 0) rfl Tryd.underlying92 rfl infLogFW_24 rfl rfl rfl)) ?_
          refine GH_take 4 rfl rfl rfl rfl (by kernel_rfl) (by kernel_rfl) (by kernel_rfl) (fun _ _ => (V_fieldAddr (fo := 1) rfl Tryd.underlying94 rfl infLogFW_9 rfl rfl rfl)) ?_
          refine GH_take 5 rfl rfl rfl rfl (by kernel_rfl) (by kernel_rfl) (by kernel_rfl) (fun _ _ => (V_load1 rfl rfl (List.mem_append_right _ (mem_at 0 rfl)) rfl Tryd.underlying9 rfl)) ?_
          refine GH_all [0, 2, 6] (by kernel_rfl) (by decide) ?_
          refine (And.intro ?_ (And.intro ?_ (And.intro ?_ trivial)))
          · skip
            refine GHop_new rfl rfl rfl rfl (N_build0 rfl Tryd.underlying24 infLogFW_9) [5] (fun _ => ⟨_, rfl⟩) (fun b114 => ?_)
            refine GH_all [2, 6] (by kernel_rfl) (by decide) ?_
            refine (And.intro ?_ (And.intro ?_ trivial))
            · skip
              refine GHop_val rfl rfl rfl rfl (V_load1 rfl rfl (List.mem_append_right _ (mem_at 6 rfl)) rfl Tryd.underlying24 rfl) ?_
              refine GH_all [3, 6] (by kernel_rfl) (by decide) ?_
              refine (And.intro ?_ (And.intro ?_ trivial))
              · skip
                refine GHop_append (l1 := []) (s := ⟨some b114, #[], (0, 0), 0⟩) (nn := 0) (m := xl.length) (news := (xl.map strC)) (bt := 16) rfl rfl rfl rfl Tryd.underlying24 Tryd.underlying24 (by first | exact .inl rfl | exact .inr ⟨_, rfl⟩) infLogFW_9 rfl rfl rfl rfl rfl rfl (own_empty 1 b114) rfl (src_own hv (by first | exact List.mem_append_left _ (mem_at 0 rfl) | exact List.mem_append_right _ (mem_at 0 rfl) | exact List.mem_append_right _ (mem_at 1 rfl) | exact List.mem_append_right _ (mem_at 2 rfl) | exact List.mem_append_right _ (mem_at 3 rfl) | exact List.mem_append_right _ (mem_at 4 rfl) | exact List.mem_append_right _ (mem_at 5 rfl) | exact List.mem_append_right _ (mem_at 6 rfl) | exact List.mem_append_right _ (mem_at 7 rfl)) (strs_all xl)) (by omega) (by omega) [5] (fun _ => ⟨_, rfl⟩) ?_
                intro u1 hu1 _
                show GH _ _ _ _ _ _ _ [_, _, _, _, _, _, _, _] _
                rw [List.nil_append, Nat.zero_add] at hu1
                rw [Nat.zero_add]
                refine GH_all [6] (by kernel_rfl) (by decide) ?_
                refine (And.intro ?_ trivial)
                · skip
                  refine GHop_new rfl rfl rfl rfl (N_buildAll (s := 1) (cs := [_]) rfl Tryd.underlying24 infLogFW_9 rfl rfl rfl rfl rfl rfl rfl rfl rfl) [6] (fun _ => ⟨_, rfl⟩) (fun b120 => ?_)
                  refine GH_all [7] (by kernel_rfl) (by decide) ?_
                  refine (And.intro ?_ trivial)
                  · skip
                    refine GHop_append (l1 := [_]) (s := u1) (nn := xl.length) (m := 1) (news := [strC a.s]) (bt := 16) rfl rfl rfl rfl Tryd.underlying24 Tryd.underlying24 (by first | exact .inl rfl | exact .inr ⟨_, rfl⟩) infLogFW_9 rfl rfl rfl rfl rfl rfl hu1 rfl (src_mem (List.mem_append_right _ (mem_at 0 rfl)) rfl rfl (by simp [strC, Value.oneCell'])) (by omega) (by omega) [6] (fun _ => ⟨_, rfl⟩) ?_
                    intro u2 hu2 _
                    show GH _ _ _ _ _ _ _ [_, _, _, _, _, _, _, _, _] _
                    refine GH_take 8 rfl rfl rfl rfl (by kernel_rfl) (by kernel_rfl) (by kernel_rfl) (fun _ _ => (V_fieldAddr (fo := 0) rfl Tryd.underlying92 rfl infLogFW_24 rfl rfl rfl)) ?_
                    refine GH_all [9] (by kernel_rfl) (by decide) ?_
                    refine (And.intro ?_ trivial)
                    · skip
                      refine GHop_put (l1 := [_, _, _, _, _, _, _]) (L' := [_, _, _, _, _, _, _, _, _]) rfl rfl rfl rfl (P_store1 rfl rfl rfl (mem_at 7 rfl) (by first | exact of_decide_eq_true rfl | omega | (simp [wCells, kCells, rgC, lgC, rdC, afC, sv, Sl.v]; done) | (simp [wCells, kCells, rgC, lgC, rdC, afC, sv, Sl.v]; omega) | (simp [wCells, kCells, rgC, lgC, rdC, afC, sv, Sl.v] at *; omega)) infLogFW_24 rfl rfl) rfl [6] rfl ?_
                      refine GH_done (by kernel_rfl) ?_
                      refine G_region (l := [0, 1, 2, 3]) rfl ?_
                      refine G_val rfl rfl rfl rfl (V_move rfl rfl) ?_
                      refine G_val rfl rfl rfl rfl (V_fieldAddr (fo := 2) rfl Tryd.underlying94 rfl infLogFW_3 rfl rfl rfl) ?_
                      refine G_val rfl rfl rfl rfl (V_load1 rfl rfl (List.mem_append_right _ (mem_at 6 rfl)) rfl Tryd.underlying3 rfl) ?_
                      refine G_callM (L2 := [_, _, _, _, _, _, _, _]) rfl rfl rfl rfl rfl rfl Tryd.call32 (dk_fuse d 24 lb lcap lcs1 uw1 (appK k 1 22 e po a.s) h1 a.z) [3] rfl subA_nil ?_
                      rintro v post ⟨rfl, rfl⟩
                      show G _ _ _ [_, _, _, _, _, _, _, _, _] _
                      refine G_done ?_
                      refine G_inBlock ?_
                      refine G_inBlock ?_
                      refine G_region (l := [0, 1, 2]) rfl ?_
                      refine G_val rfl rfl rfl rfl (V_move rfl rfl) ?_
                      first
                        | refine G_val rfl rfl rfl rfl ((V_add rfl rfl rfl).int (wrap_i64 (by omega))) ?_
                        | refine G_val rfl rfl rfl rfl (V_add rfl rfl rfl) ?_
                      refine G_val rfl rfl rfl rfl (V_assign rfl rfl) ?_
                      refine G_done ?_
                      refine G_sub ?_ [3, 6, 2, 0, 1, 1] ?_ (ih (i + 1, (appK k 1 22 e po a.s).setFuse a.z, lcs1, uw1, e, appA k 1 22 e po a.s, xl ++ [a.s], u2, su, g) ?_ ?_)
                      · (refine (And.intro ?_ (And.intro ?_ (And.intro ?_ (And.intro ?_ (And.intro ?_ (And.intro ?_ (And.intro ?_ trivial))))))) <;> first | rfl | exact slot_int (by omega) | exact slot_int (by simp))
                      · (first | exact ⟨_, rfl⟩ | (dsimp only; rw [List.length_append]; exact ⟨_, rfl⟩))
                      · exact ⟨by omega, setFuse_at h1 ha2, fs_fuse hF1 _, by show e ≤ i + 1 + 1; omega, by show (xl ++ [a.s]).length ≤ i + 1; rw [List.length_append, List.length_singleton]; omega, by show Own 1 u2 ((xl ++ [a.s]).map strC) (xl ++ [a.s]).length; rw [List.map_append, List.length_append]; exact hu2, by have := app_W k 1 22 e po a.s; show (appK k 1 22 e po a.s).W.length ≤ 21 * (i + 1); omega⟩
                      · (first | omega | (dsimp only; omega))
              · skip
                refine GHop_new rfl rfl rfl rfl (N_buildAll (s := 1) (cs := [_]) rfl Tryd.underlying24 infLogFW_9 rfl rfl rfl rfl rfl rfl rfl rfl rfl) [6] (fun _ => ⟨_, rfl⟩) (fun b120 => ?_)
                refine GH_all [3] (by kernel_rfl) (by decide) ?_
                refine (And.intro ?_ trivial)
                · skip
                  refine GHop_append (l1 := [_]) (s := ⟨some b114, #[], (0, 0), 0⟩) (nn := 0) (m := xl.length) (news := (xl.map strC)) (bt := 16) rfl rfl rfl rfl Tryd.underlying24 Tryd.underlying24 (by first | exact .inl rfl | exact .inr ⟨_, rfl⟩) infLogFW_9 rfl rfl rfl rfl rfl rfl (own_empty 1 b114) rfl (src_own hv (by first | exact List.mem_append_left _ (mem_at 0 rfl) | exact List.mem_append_right _ (mem_at 0 rfl) | exact List.mem_append_right _ (mem_at 1 rfl) | exact List.mem_append_right _ (mem_at 2 rfl) | exact List.mem_append_right _ (mem_at 3 rfl) | exact List.mem_append_right _ (mem_at 4 rfl) | exact List.mem_append_right _ (mem_at 5 rfl) | exact List.mem_append_right _ (mem_at 6 rfl) | exact List.mem_append_right _ (mem_at 7 rfl) | exact List.mem_append_right _ (mem_at 8 rfl)) (strs_all xl)) (by omega) (by omega) [6] (fun _ => ⟨_, rfl⟩) ?_
                  intro u1 hu1 _
                  show GH _ _ _ _ _ _ _ [_, _, _, _, _, _, _, _, _] _
                  rw [List.nil_append, Nat.zero_add] at hu1
                  rw [Nat.zero_add]
                  refine GH_all [7] (by kernel_rfl) (by decide) ?_
                  refine (And.intro ?_ trivial)
                  · skip
                    refine GHop_append (l1 := [_]) (s := u1) (nn := xl.length) (m := 1) (news := [strC a.s]) (bt := 16) rfl rfl rfl rfl Tryd.underlying24 Tryd.underlying24 (by first | exact .inl rfl | exact .inr ⟨_, rfl⟩) infLogFW_9 rfl rfl rfl rfl rfl rfl hu1 rfl (src_mem (List.mem_append_right _ (mem_at 0 rfl)) rfl rfl (by simp [strC, Value.oneCell'])) (by omega) (by omega) [6] (fun _ => ⟨_, rfl⟩) ?_
                    intro u2 hu2 _
                    show GH _ _ _ _ _ _ _ [_, _, _, _, _, _, _, _, _] _
                    refine GH_take 8 rfl rfl rfl rfl (by kernel_rfl) (by kernel_rfl) (by kernel_rfl) (fun _ _ => (V_fieldAddr (fo := 0) rfl Tryd.underlying92 rfl infLogFW_24 rfl rfl rfl)) ?_
                    refine GH_all [9] (by kernel_rfl) (by decide) ?_
                    refine (And.intro ?_ trivial)
                    · skip
                      refine GHop_put (l1 := [_, _, _, _, _, _, _]) (L' := [_, _, _, _, _, _, _, _, _]) rfl rfl rfl rfl (P_store1 rfl rfl rfl (mem_at 7 rfl) (by first | exact of_decide_eq_true rfl | omega | (simp [wCells, kCells, rgC, lgC, rdC, afC, sv, Sl.v]; done) | (simp [wCells, kCells, rgC, lgC, rdC, afC, sv, Sl.v]; omega) | (simp [wCells, kCells, rgC, lgC, rdC, afC, sv, Sl.v] at *; omega)) infLogFW_24 rfl rfl) rfl [6] rfl ?_
                      refine GH_done (by kernel_rfl) ?_
                      refine G_region (l := [0, 1, 2, 3]) rfl ?_
                      refine G_val rfl rfl rfl rfl (V_move rfl rfl) ?_
                      refine G_val rfl rfl rfl rfl (V_fieldAddr (fo := 2) rfl Tryd.underlying94 rfl infLogFW_3 rfl rfl rfl) ?_
                      refine G_val rfl rfl rfl rfl (V_load1 rfl rfl (List.mem_append_right _ (mem_at 6 rfl)) rfl Tryd.underlying3 rfl) ?_
                      refine G_callM (L2 := [_, _, _, _, _, _, _, _]) rfl rfl rfl rfl rfl rfl Tryd.call32 (dk_fuse d 24 lb lcap lcs1 uw1 (appK k 1 22 e po a.s) h1 a.z) [3] rfl subA_nil ?_
                      rintro v post ⟨rfl, rfl⟩
                      show G _ _ _ [_, _, _, _, _, _, _, _, _] _
                      refine G_done ?_
                      refine G_inBlock ?_
                      refine G_inBlock ?_
                      refine G_region (l := [0, 1, 2]) rfl ?_
                      refine G_val rfl rfl rfl rfl (V_move rfl rfl) ?_
                      first
                        | refine G_val rfl rfl rfl rfl ((V_add rfl rfl rfl).int (wrap_i64 (by omega))) ?_
                        | refine G_val rfl rfl rfl rfl (V_add rfl rfl rfl) ?_
                      refine G_val rfl rfl rfl rfl (V_assign rfl rfl) ?_
                      refine G_done ?_
                      refine G_sub ?_ [3, 6, 2, 0, 1, 1] ?_ (ih (i + 1, (appK k 1 22 e po a.s).setFuse a.z, lcs1, uw1, e, appA k 1 22 e po a.s, xl ++ [a.s], u2, su, g) ?_ ?_)
                      · (refine (And.intro ?_ (And.intro ?_ (And.intro ?_ (And.intro ?_ (And.intro ?_ (And.intro ?_ (And.intro ?_ trivial))))))) <;> first | rfl | exact slot_int (by omega) | exact slot_int (by simp))
                      · (first | exact ⟨_, rfl⟩ | (dsimp only; rw [List.length_append]; exact ⟨_, rfl⟩))
                      · exact ⟨by omega, setFuse_at h1 ha2, fs_fuse hF1 _, by show e ≤ i + 1 + 1; omega, by show (xl ++ [a.s]).length ≤ i + 1; rw [List.length_append, List.length_singleton]; omega, by show Own 1 u2 ((xl ++ [a.s]).map strC) (xl ++ [a.s]).length; rw [List.map_append, List.length_append]; exact hu2, by have := app_W k 1 22 e po a.s; show (appK k 1 22 e po a.s).W.length ≤ 21 * (i + 1); omega⟩
                      · (first | omega | (dsimp only; omega))
            · skip
              refine GHop_new rfl rfl rfl rfl (N_buildAll (s := 1) (cs := [_]) rfl Tryd.underlying24 infLogFW_9 rfl rfl rfl rfl rfl rfl rfl rfl rfl) [6] (fun _ => ⟨_, rfl⟩) (fun b120 => ?_)
              refine GH_all [2] (by kernel_rfl) (by decide) ?_
              refine (And.intro ?_ trivial)
              · skip
                refine GHop_val rfl rfl rfl rfl (V_load1 rfl rfl (List.mem_append_right _ (mem_at 7 rfl)) rfl Tryd.underlying24 rfl) ?_
                refine GH_all [3] (by kernel_rfl) (by decide) ?_
                refine (And.intro ?_ trivial)
                · skip
                  refine GHop_append (l1 := [_]) (s := ⟨some b114, #[], (0, 0), 0⟩) (nn := 0) (m := xl.length) (news := (xl.map strC)) (bt := 16) rfl rfl rfl rfl Tryd.underlying24 Tryd.underlying24 (by first | exact .inl rfl | exact .inr ⟨_, rfl⟩) infLogFW_9 rfl rfl rfl rfl rfl rfl (own_empty 1 b114) rfl (src_own hv (by first | exact List.mem_append_left _ (mem_at 0 rfl) | exact List.mem_append_right _ (mem_at 0 rfl) | exact List.mem_append_right _ (mem_at 1 rfl) | exact List.mem_append_right _ (mem_at 2 rfl) | exact List.mem_append_right _ (mem_at 3 rfl) | exact List.mem_append_right _ (mem_at 4 rfl) | exact List.mem_append_right _ (mem_at 5 rfl) | exact List.mem_append_right _ (mem_at 6 rfl) | exact List.mem_append_right _ (mem_at 7 rfl) | exact List.mem_append_right _ (mem_at 8 rfl)) (strs_all xl)) (by omega) (by omega) [6] (fun _ => ⟨_, rfl⟩) ?_
                  intro u1 hu1 _
                  show GH _ _ _ _ _ _ _ [_, _, _, _, _, _, _, _, _] _
                  rw [List.nil_append, Nat.zero_add] at hu1
                  rw [Nat.zero_add]
                  refine GH_all [7] (by kernel_rfl) (by decide) ?_
                  refine (And.intro ?_ trivial)
                  · skip
                    refine GHop_append (l1 := [_]) (s := u1) (nn := xl.length) (m := 1) (news := [strC a.s]) (bt := 16) rfl rfl rfl rfl Tryd.underlying24 Tryd.underlying24 (by first | exact .inl rfl | exact .inr ⟨_, rfl⟩) infLogFW_9 rfl rfl rfl rfl rfl rfl hu1 rfl (src_mem (List.mem_append_right _ (mem_at 0 rfl)) rfl rfl (by simp [strC, Value.oneCell'])) (by omega) (by omega) [6] (fun _ => ⟨_, rfl⟩) ?_
                    intro u2 hu2 _
                    show GH _ _ _ _ _ _ _ [_, _, _, _, _, _, _, _, _] _
                    refine GH_take 8 rfl rfl rfl rfl (by kernel_rfl) (by kernel_rfl) (by kernel_rfl) (fun _ _ => (V_fieldAddr (fo := 0) rfl Tryd.underlying92 rfl infLogFW_24 rfl rfl rfl)) ?_
                    refine GH_all [9] (by kernel_rfl) (by decide) ?_
                    refine (And.intro ?_ trivial)
                    · skip
                      refine GHop_put (l1 := [_, _, _, _, _, _, _]) (L' := [_, _, _, _, _, _, _, _, _]) rfl rfl rfl rfl (P_store1 rfl rfl rfl (mem_at 7 rfl) (by first | exact of_decide_eq_true rfl | omega | (simp [wCells, kCells, rgC, lgC, rdC, afC, sv, Sl.v]; done) | (simp [wCells, kCells, rgC, lgC, rdC, afC, sv, Sl.v]; omega) | (simp [wCells, kCells, rgC, lgC, rdC, afC, sv, Sl.v] at *; omega)) infLogFW_24 rfl rfl) rfl [6] rfl ?_
                      refine GH_done (by kernel_rfl) ?_
                      refine G_region (l := [0, 1, 2, 3]) rfl ?_
                      refine G_val rfl rfl rfl rfl (V_move rfl rfl) ?_
                      refine G_val rfl rfl rfl rfl (V_fieldAddr (fo := 2) rfl Tryd.underlying94 rfl infLogFW_3 rfl rfl rfl) ?_
                      refine G_val rfl rfl rfl rfl (V_load1 rfl rfl (List.mem_append_right _ (mem_at 6 rfl)) rfl Tryd.underlying3 rfl) ?_
                      refine G_callM (L2 := [_, _, _, _, _, _, _, _]) rfl rfl rfl rfl rfl rfl Tryd.call32 (dk_fuse d 24 lb lcap lcs1 uw1 (appK k 1 22 e po a.s) h1 a.z) [3] rfl subA_nil ?_
                      rintro v post ⟨rfl, rfl⟩
                      show G _ _ _ [_, _, _, _, _, _, _, _, _] _
                      refine G_done ?_
                      refine G_inBlock ?_
                      refine G_inBlock ?_
                      refine G_region (l := [0, 1, 2]) rfl ?_
                      refine G_val rfl rfl rfl rfl (V_move rfl rfl) ?_
                      first
                        | refine G_val rfl rfl rfl rfl ((V_add rfl rfl rfl).int (wrap_i64 (by omega))) ?_
                        | refine G_val rfl rfl rfl rfl (V_add rfl rfl rfl) ?_
                      refine G_val rfl rfl rfl rfl (V_assign rfl rfl) ?_
                      refine G_done ?_
                      refine G_sub ?_ [3, 6, 2, 0, 1, 1] ?_ (ih (i + 1, (appK k 1 22 e po a.s).setFuse a.z, lcs1, uw1, e, appA k 1 22 e po a.s, xl ++ [a.s], u2, su, g) ?_ ?_)
                      · (refine (And.intro ?_ (And.intro ?_ (And.intro ?_ (And.intro ?_ (And.intro ?_ (And.intro ?_ (And.intro ?_ trivial))))))) <;> first | rfl | exact slot_int (by omega) | exact slot_int (by simp))
                      · (first | exact ⟨_, rfl⟩ | (dsimp only; rw [List.length_append]; exact ⟨_, rfl⟩))
                      · exact ⟨by omega, setFuse_at h1 ha2, fs_fuse hF1 _, by show e ≤ i + 1 + 1; omega, by show (xl ++ [a.s]).length ≤ i + 1; rw [List.length_append, List.length_singleton]; omega, by show Own 1 u2 ((xl ++ [a.s]).map strC) (xl ++ [a.s]).length; rw [List.map_append, List.length_append]; exact hu2, by have := app_W k 1 22 e po a.s; show (appK k 1 22 e po a.s).W.length ≤ 21 * (i + 1); omega⟩
                      · (first | omega | (dsimp only; omega))
          · skip
            refine GHop_val rfl rfl rfl rfl (V_load1 rfl rfl (List.mem_append_right _ (mem_at 5 rfl)) rfl Tryd.underlying24 rfl) ?_
            refine GH_all [0, 6] (by kernel_rfl) (by decide) ?_
            refine (And.intro ?_ (And.intro ?_ trivial))
            · skip
              refine GHop_new rfl rfl rfl rfl (N_build0 rfl Tryd.underlying24 infLogFW_9) [5] (fun _ => ⟨_, rfl⟩) (fun b114 => ?_)
              refine GH_all [3, 6] (by kernel_rfl) (by decide) ?_
              refine (And.intro ?_ (And.intro ?_ trivial))
              · skip
                refine GHop_append (l1 := []) (s := ⟨some b114, #[], (0, 0), 0⟩) (nn := 0) (m := xl.length) (news := (xl.map strC)) (bt := 16) rfl rfl rfl rfl Tryd.underlying24 Tryd.underlying24 (by first | exact .inl rfl | exact .inr ⟨_, rfl⟩) infLogFW_9 rfl rfl rfl rfl rfl rfl (own_empty 1 b114) rfl (src_own hv (by first | exact List.mem_append_left _ (mem_at 0 rfl) | exact List.mem_append_right _ (mem_at 0 rfl) | exact List.mem_append_right _ (mem_at 1 rfl) | exact List.mem_append_right _ (mem_at 2 rfl) | exact List.mem_append_right _ (mem_at 3 rfl) | exact List.mem_append_right _ (mem_at 4 rfl) | exact List.mem_append_right _ (mem_at 5 rfl) | exact List.mem_append_right _ (mem_at 6 rfl) | exact List.mem_append_right _ (mem_at 7 rfl)) (strs_all xl)) (by omega) (by omega) [5] (fun _ => ⟨_, rfl⟩) ?_
                intro u1 hu1 _
                show GH _ _ _ _ _ _ _ [_, _, _, _, _, _, _, _] _
                rw [List.nil_append, Nat.zero_add] at hu1
                rw [Nat.zero_add]
                refine GH_all [6] (by kernel_rfl) (by decide) ?_
                refine (And.intro ?_ trivial)
                · skip
                  refine GHop_new rfl rfl rfl rfl (N_buildAll (s := 1) (cs := [_]) rfl Tryd.underlying24 infLogFW_9 rfl rfl rfl rfl rfl rfl rfl rfl rfl) [6] (fun _ => ⟨_, rfl⟩) (fun b120 => ?_)
                  refine GH_all [7] (by kernel_rfl) (by decide) ?_
                  refine (And.intro ?_ trivial)
                  · skip
                    refine GHop_append (l1 := [_]) (s := u1) (nn := xl.length) (m := 1) (news := [strC a.s]) (bt := 16) rfl rfl rfl rfl Tryd.underlying24 Tryd.underlying24 (by first | exact .inl rfl | exact .inr ⟨_, rfl⟩) infLogFW_9 rfl rfl rfl rfl rfl rfl hu1 rfl (src_mem (List.mem_append_right _ (mem_at 0 rfl)) rfl rfl (by simp [strC, Value.oneCell'])) (by omega) (by omega) [6] (fun _ => ⟨_, rfl⟩) ?_
                    intro u2 hu2 _
                    show GH _ _ _ _ _ _ _ [_, _, _, _, _, _, _, _, _] _
                    refine GH_take 8 rfl rfl rfl rfl (by kernel_rfl) (by kernel_rfl) (by kernel_rfl) (fun _ _ => (V_fieldAddr (fo := 0) rfl Tryd.underlying92 rfl infLogFW_24 rfl rfl rfl)) ?_
                    refine GH_all [9] (by kernel_rfl) (by decide) ?_
                    refine (And.intro ?_ trivial)
                    · skip
                      refine GHop_put (l1 := [_, _, _, _, _, _, _]) (L' := [_, _, _, _, _, _, _, _, _]) rfl rfl rfl rfl (P_store1 rfl rfl rfl (mem_at 7 rfl) (by first | exact of_decide_eq_true rfl | omega | (simp [wCells, kCells, rgC, lgC, rdC, afC, sv, Sl.v]; done) | (simp [wCells, kCells, rgC, lgC, rdC, afC, sv, Sl.v]; omega) | (simp [wCells, kCells, rgC, lgC, rdC, afC, sv, Sl.v] at *; omega)) infLogFW_24 rfl rfl) rfl [6] rfl ?_
                      refine GH_done (by kernel_rfl) ?_
                      refine G_region (l := [0, 1, 2, 3]) rfl ?_
                      refine G_val rfl rfl rfl rfl (V_move rfl rfl) ?_
                      refine G_val rfl rfl rfl rfl (V_fieldAddr (fo := 2) rfl Tryd.underlying94 rfl infLogFW_3 rfl rfl rfl) ?_
                      refine G_val rfl rfl rfl rfl (V_load1 rfl rfl (List.mem_append_right _ (mem_at 6 rfl)) rfl Tryd.underlying3 rfl) ?_
                      refine G_callM (L2 := [_, _, _, _, _, _, _, _]) rfl rfl rfl rfl rfl rfl Tryd.call32 (dk_fuse d 24 lb lcap lcs1 uw1 (appK k 1 22 e po a.s) h1 a.z) [3] rfl subA_nil ?_
                      rintro v post ⟨rfl, rfl⟩
                      show G _ _ _ [_, _, _, _, _, _, _, _, _] _
                      refine G_done ?_
                      refine G_inBlock ?_
                      refine G_inBlock ?_
                      refine G_region (l := [0, 1, 2]) rfl ?_
                      refine G_val rfl rfl rfl rfl (V_move rfl rfl) ?_
                      first
                        | refine G_val rfl rfl rfl rfl ((V_add rfl rfl rfl).int (wrap_i64 (by omega))) ?_
                        | refine G_val rfl rfl rfl rfl (V_add rfl rfl rfl) ?_
                      refine G_val rfl rfl rfl rfl (V_assign rfl rfl) ?_
                      refine G_done ?_
                      refine G_sub ?_ [3, 6, 2, 0, 1, 1] ?_ (ih (i + 1, (appK k 1 22 e po a.s).setFuse a.z, lcs1, uw1, e, appA k 1 22 e po a.s, xl ++ [a.s], u2, su, g) ?_ ?_)
                      · (refine (And.intro ?_ (And.intro ?_ (And.intro ?_ (And.intro ?_ (And.intro ?_ (And.intro ?_ (And.intro ?_ trivial))))))) <;> first | rfl | exact slot_int (by omega) | exact slot_int (by simp))
                      · (first | exact ⟨_, rfl⟩ | (dsimp only; rw [List.length_append]; exact ⟨_, rfl⟩))
                      · exact ⟨by omega, setFuse_at h1 ha2, fs_fuse hF1 _, by show e ≤ i + 1 + 1; omega, by show (xl ++ [a.s]).length ≤ i + 1; rw [List.length_append, List.length_singleton]; omega, by show Own 1 u2 ((xl ++ [a.s]).map strC) (xl ++ [a.s]).length; rw [List.map_append, List.length_append]; exact hu2, by have := app_W k 1 22 e po a.s; show (appK k 1 22 e po a.s).W.length ≤ 21 * (i + 1); omega⟩
                      · (first | omega | (dsimp only; omega))
              · skip
                refine GHop_new rfl rfl rfl rfl (N_buildAll (s := 1) (cs := [_]) rfl Tryd.underlying24 infLogFW_9 rfl rfl rfl rfl rfl rfl rfl rfl rfl) [6] (fun _ => ⟨_, rfl⟩) (fun b120 => ?_)
                refine GH_all [3] (by kernel_rfl) (by decide) ?_
                refine (And.intro ?_ trivial)
                · skip
                  refine GHop_append (l1 := [_]) (s := ⟨some b114, #[], (0, 0), 0⟩) (nn := 0) (m := xl.length) (news := (xl.map strC)) (bt := 16) rfl rfl rfl rfl Tryd.underlying24 Tryd.underlying24 (by first | exact .inl rfl | exact .inr ⟨_, rfl⟩) infLogFW_9 rfl rfl rfl rfl rfl rfl (own_empty 1 b114) rfl (src_own hv (by first | exact List.mem_append_left _ (mem_at 0 rfl) | exact List.mem_append_right _ (mem_at 0 rfl) | exact List.mem_append_right _ (mem_at 1 rfl) | exact List.mem_append_right _ (mem_at 2 rfl) | exact List.mem_append_right _ (mem_at 3 rfl) | exact List.mem_append_right _ (mem_at 4 rfl) | exact List.mem_append_right _ (mem_at 5 rfl) | exact List.mem_append_right _ (mem_at 6 rfl) | exact List.mem_append_right _ (mem_at 7 rfl) | exact List.mem_append_right _ (mem_at 8 rfl)) (strs_all xl)) (by omega) (by omega) [6] (fun _ => ⟨_, rfl⟩) ?_
                  intro u1 hu1 _
                  show GH _ _ _ _ _ _ _ [_, _, _, _, _, _, _, _, _] _
                  rw [List.nil_append, Nat.zero_add] at hu1
                  rw [Nat.zero_add]
                  refine GH_all [7] (by kernel_rfl) (by decide) ?_
                  refine (And.intro ?_ trivial)
                  · skip
                    refine GHop_append (l1 := [_]) (s := u1) (nn := xl.length) (m := 1) (news := [strC a.s]) (bt := 16) rfl rfl rfl rfl Tryd.underlying24 Tryd.underlying24 (by first | exact .inl rfl | exact .inr ⟨_, rfl⟩) infLogFW_9 rfl rfl rfl rfl rfl rfl hu1 rfl (src_mem (List.mem_append_right _ (mem_at 0 rfl)) rfl rfl (by simp [strC, Value.oneCell'])) (by omega) (by omega) [6] (fun _ => ⟨_, rfl⟩) ?_
                    intro u2 hu2 _
                    show GH _ _ _ _ _ _ _ [_, _, _, _, _, _, _, _, _] _
                    refine GH_take 8 rfl rfl rfl rfl (by kernel_rfl) (by kernel_rfl) (by kernel_rfl) (fun _ _ => (V_fieldAddr (fo := 0) rfl Tryd.underlying92 rfl infLogFW_24 rfl rfl rfl)) ?_
                    refine GH_all [9] (by kernel_rfl) (by decide) ?_
                    refine (And.intro ?_ trivial)
                    · skip
                      refine GHop_put (l1 := [_, _, _, _, _, _, _]) (L' := [_, _, _, _, _, _, _, _, _]) rfl rfl rfl rfl (P_store1 rfl rfl rfl (mem_at 7 rfl) (by first | exact of_decide_eq_true rfl | omega | (simp [wCells, kCells, rgC, lgC, rdC, afC, sv, Sl.v]; done) | (simp [wCells, kCells, rgC, lgC, rdC, afC, sv, Sl.v]; omega) | (simp [wCells, kCells, rgC, lgC, rdC, afC, sv, Sl.v] at *; omega)) infLogFW_24 rfl rfl) rfl [6] rfl ?_
                      refine GH_done (by kernel_rfl) ?_
                      refine G_region (l := [0, 1, 2, 3]) rfl ?_
                      refine G_val rfl rfl rfl rfl (V_move rfl rfl) ?_
                      refine G_val rfl rfl rfl rfl (V_fieldAddr (fo := 2) rfl Tryd.underlying94 rfl infLogFW_3 rfl rfl rfl) ?_
                      refine G_val rfl rfl rfl rfl (V_load1 rfl rfl (List.mem_append_right _ (mem_at 6 rfl)) rfl Tryd.underlying3 rfl) ?_
                      refine G_callM (L2 := [_, _, _, _, _, _, _, _]) rfl rfl rfl rfl rfl rfl Tryd.call32 (dk_fuse d 24 lb lcap lcs1 uw1 (appK k 1 22 e po a.s) h1 a.z) [3] rfl subA_nil ?_
                      rintro v post ⟨rfl, rfl⟩
                      show G _ _ _ [_, _, _, _, _, _, _, _, _] _
                      refine G_done ?_
                      refine G_inBlock ?_
                      refine G_inBlock ?_
                      refine G_region (l := [0, 1, 2]) rfl ?_
                      refine G_val rfl rfl rfl rfl (V_move rfl rfl) ?_
                      first
                        | refine G_val rfl rfl rfl rfl ((V_add rfl rfl rfl).int (wrap_i64 (by omega))) ?_
                        | refine G_val rfl rfl rfl rfl (V_add rfl rfl rfl) ?_
                      refine G_val rfl rfl rfl rfl (V_assign rfl rfl) ?_
                      refine G_done ?_
                      refine G_sub ?_ [3, 6, 2, 0, 1, 1] ?_ (ih (i + 1, (appK k 1 22 e po a.s).setFuse a.z, lcs1, uw1, e, appA k 1 22 e po a.s, xl ++ [a.s], u2, su, g) ?_ ?_)
                      · (refine (And.intro ?_ (And.intro ?_ (And.intro ?_ (And.intro ?_ (And.intro ?_ (And.intro ?_ (And.intro ?_ trivial))))))) <;> first | rfl | exact slot_int (by omega) | exact slot_int (by simp))
                      · (first | exact ⟨_, rfl⟩ | (dsimp only; rw [List.length_append]; exact ⟨_, rfl⟩))
                      · exact ⟨by omega, setFuse_at h1 ha2, fs_fuse hF1 _, by show e ≤ i + 1 + 1; omega, by show (xl ++ [a.s]).length ≤ i + 1; rw [List.length_append, List.length_singleton]; omega, by show Own 1 u2 ((xl ++ [a.s]).map strC) (xl ++ [a.s]).length; rw [List.map_append, List.length_append]; exact hu2, by have := app_W k 1 22 e po a.s; show (appK k 1 22 e po a.s).W.length ≤ 21 * (i + 1); omega⟩
                      · (first | omega | (dsimp only; omega))
            · skip
              refine GHop_new rfl rfl rfl rfl (N_buildAll (s := 1) (cs := [_]) rfl Tryd.underlying24 infLogFW_9 rfl rfl rfl rfl rfl rfl rfl rfl rfl) [5] (fun _ => ⟨_, rfl⟩) (fun b120 => ?_)
              refine GH_all [0] (by kernel_rfl) (by decide) ?_
              refine (And.intro ?_ trivial)
              · skip
                refine GHop_new rfl rfl rfl rfl (N_build0 rfl Tryd.underlying24 infLogFW_9) [6] (fun _ => ⟨_, rfl⟩) (fun b114 => ?_)
                refine GH_all [3] (by kernel_rfl) (by decide) ?_
                refine (And.intro ?_ trivial)
                · skip
                  refine GHop_append (l1 := []) (s := ⟨some b114, #[], (0, 0), 0⟩) (nn := 0) (m := xl.length) (news := (xl.map strC)) (bt := 16) rfl rfl rfl rfl Tryd.underlying24 Tryd.underlying24 (by first | exact .inl rfl | exact .inr ⟨_, rfl⟩) infLogFW_9 rfl rfl rfl rfl rfl rfl (own_empty 1 b114) rfl (src_own hv (by first | exact List.mem_append_left _ (mem_at 0 rfl) | exact List.mem_append_right _ (mem_at 0 rfl) | exact List.mem_append_right _ (mem_at 1 rfl) | exact List.mem_append_right _ (mem_at 2 rfl) | exact List.mem_append_right _ (mem_at 3 rfl) | exact List.mem_append_right _ (mem_at 4 rfl) | exact List.mem_append_right _ (mem_at 5 rfl) | exact List.mem_append_right _ (mem_at 6 rfl) | exact List.mem_append_right _ (mem_at 7 rfl) | exact List.mem_append_right _ (mem_at 8 rfl)) (strs_all xl)) (by omega) (by omega) [6] (fun _ => ⟨_, rfl⟩) ?_
                  intro u1 hu1 _
                  show GH _ _ _ _ _ _ _ [_, _, _, _, _, _, _, _, _] _
                  rw [List.nil_append, Nat.zero_add] at hu1
                  rw [Nat.zero_add]
                  refine GH_all [7] (by kernel_rfl) (by decide) ?_
                  refine (And.intro ?_ trivial)
                  · skip
                    refine GHop_append (l1 := []) (s := u1) (nn := xl.length) (m := 1) (news := [strC a.s]) (bt := 16) rfl rfl rfl rfl Tryd.underlying24 Tryd.underlying24 (by first | exact .inl rfl | exact .inr ⟨_, rfl⟩) infLogFW_9 rfl rfl rfl rfl rfl rfl hu1 rfl (src_mem (List.mem_append_right _ (mem_at 1 rfl)) rfl rfl (by simp [strC, Value.oneCell'])) (by omega) (by omega) [6] (fun _ => ⟨_, rfl⟩) ?_
                    intro u2 hu2 _
                    show GH _ _ _ _ _ _ _ [_, _, _, _, _, _, _, _, _] _
                    refine GH_take 8 rfl rfl rfl rfl (by kernel_rfl) (by kernel_rfl) (by kernel_rfl) (fun _ _ => (V_fieldAddr (fo := 0) rfl Tryd.underlying92 rfl infLogFW_24 rfl rfl rfl)) ?_
                    refine GH_all [9] (by kernel_rfl) (by decide) ?_
                    refine (And.intro ?_ trivial)
                    · skip
                      refine GHop_put (l1 := [_, _, _, _, _, _, _]) (L' := [_, _, _, _, _, _, _, _, _]) rfl rfl rfl rfl (P_store1 rfl rfl rfl (mem_at 7 rfl) (by first | exact of_decide_eq_true rfl | omega | (simp [wCells, kCells, rgC, lgC, rdC, afC, sv, Sl.v]; done) | (simp [wCells, kCells, rgC, lgC, rdC, afC, sv, Sl.v]; omega) | (simp [wCells, kCells, rgC, lgC, rdC, afC, sv, Sl.v] at *; omega)) infLogFW_24 rfl rfl) rfl [6] rfl ?_
                      refine GH_done (by kernel_rfl) ?_
                      refine G_region (l := [0, 1, 2, 3]) rfl ?_
                      refine G_val rfl rfl rfl rfl (V_move rfl rfl) ?_
                      refine G_val rfl rfl rfl rfl (V_fieldAddr (fo := 2) rfl Tryd.underlying94 rfl infLogFW_3 rfl rfl rfl) ?_
                      refine G_val rfl rfl rfl rfl (V_load1 rfl rfl (List.mem_append_right _ (mem_at 6 rfl)) rfl Tryd.underlying3 rfl) ?_
                      refine G_callM (L2 := [_, _, _, _, _, _, _, _]) rfl rfl rfl rfl rfl rfl Tryd.call32 (dk_fuse d 24 lb lcap lcs1 uw1 (appK k 1 22 e po a.s) h1 a.z) [3] rfl subA_nil ?_
                      rintro v post ⟨rfl, rfl⟩
                      show G _ _ _ [_, _, _, _, _, _, _, _, _] _
                      refine G_done ?_
                      refine G_inBlock ?_
                      refine G_inBlock ?_
                      refine G_region (l := [0, 1, 2]) rfl ?_
                      refine G_val rfl rfl rfl rfl (V_move rfl rfl) ?_
                      first
                        | refine G_val rfl rfl rfl rfl ((V_add rfl rfl rfl).int (wrap_i64 (by omega))) ?_
                        | refine G_val rfl rfl rfl rfl (V_add rfl rfl rfl) ?_
                      refine G_val rfl rfl rfl rfl (V_assign rfl rfl) ?_
                      refine G_done ?_
                      refine G_sub ?_ [3, 6, 1, 0, 1, 1] ?_ (ih (i + 1, (appK k 1 22 e po a.s).setFuse a.z, lcs1, uw1, e, appA k 1 22 e po a.s, xl ++ [a.s], u2, su, g) ?_ ?_)
                      · (refine (And.intro ?_ (And.intro ?_ (And.intro ?_ (And.intro ?_ (And.intro ?_ (And.intro ?_ (And.intro ?_ trivial))))))) <;> first | rfl | exact slot_int (by omega) | exact slot_int (by simp))
                      · (first | exact ⟨_, rfl⟩ | (dsimp only; rw [List.length_append]; exact ⟨_, rfl⟩))
                      · exact ⟨by omega, setFuse_at h1 ha2, fs_fuse hF1 _, by show e ≤ i + 1 + 1; omega, by show (xl ++ [a.s]).length ≤ i + 1; rw [List.length_append, List.length_singleton]; omega, by show Own 1 u2 ((xl ++ [a.s]).map strC) (xl ++ [a.s]).length; rw [List.map_append, List.length_append]; exact hu2, by have := app_W k 1 22 e po a.s; show (appK k 1 22 e po a.s).W.length ≤ 21 * (i + 1); omega⟩
                      · (first | omega | (dsimp only; omega))
          · skip
            refine GHop_new rfl rfl rfl rfl (N_buildAll (s := 1) (cs := [_]) rfl Tryd.underlying24 infLogFW_9 rfl rfl rfl rfl rfl rfl rfl rfl rfl) [5] (fun _ => ⟨_, rfl⟩) (fun b120 => ?_)
            refine GH_all [0, 2] (by kernel_rfl) (by decide) ?_
            refine (And.intro ?_ (And.intro ?_ trivial))
            · skip
              refine GHop_new rfl rfl rfl rfl (N_build0 rfl Tryd.underlying24 infLogFW_9) [6] (fun _ => ⟨_, rfl⟩) (fun b114 => ?_)
              refine GH_all [2] (by kernel_rfl) (by decide) ?_
              refine (And.intro ?_ trivial)
              · skip
                refine GHop_val rfl rfl rfl rfl (V_load1 rfl rfl (List.mem_append_right _ (mem_at 7 rfl)) rfl Tryd.underlying24 rfl) ?_
                refine GH_all [3] (by kernel_rfl) (by decide) ?_
                refine (And.intro ?_ trivial)
                · skip
                  refine GHop_append (l1 := []) (s := ⟨some b114, #[], (0, 0), 0⟩) (nn := 0) (m := xl.length) (news := (xl.map strC)) (bt := 16) rfl rfl rfl rfl Tryd.underlying24 Tryd.underlying24 (by first | exact .inl rfl | exact .inr ⟨_, rfl⟩) infLogFW_9 rfl rfl rfl rfl rfl rfl (own_empty 1 b114) rfl (src_own hv (by first | exact List.mem_append_left _ (mem_at 0 rfl) | exact List.mem_append_right _ (mem_at 0 rfl) | exact List.mem_append_right _ (mem_at 1 rfl) | exact List.mem_append_right _ (mem_at 2 rfl) | exact List.mem_append_right _ (mem_at 3 rfl) | exact List.mem_append_right _ (mem_at 4 rfl) | exact List.mem_append_right _ (mem_at 5 rfl) | exact List.mem_append_right _ (mem_at 6 rfl) | exact List.mem_append_right _ (mem_at 7 rfl) | exact List.mem_append_right _ (mem_at 8 rfl)) (strs_all xl)) (by omega) (by omega) [6] (fun _ => ⟨_, rfl⟩) ?_
                  intro u1 hu1 _
                  show GH _ _ _ _ _ _ _ [_, _, _, _, _, _, _, _, _] _
                  rw [List.nil_append, Nat.zero_add] at hu1
                  rw [Nat.zero_add]
                  refine GH_all [7] (by kernel_rfl) (by decide) ?_
                  refine (And.intro ?_ trivial)
                  · skip
                    refine GHop_append (l1 := []) (s := u1) (nn := xl.length) (m := 1) (news := [strC a.s]) (bt := 16) rfl rfl rfl rfl Tryd.underlying24 Tryd.underlying24 (by first | exact .inl rfl | exact .inr ⟨_, rfl⟩) infLogFW_9 rfl rfl rfl rfl rfl rfl hu1 rfl (src_mem (List.mem_append_right _ (mem_at 1 rfl)) rfl rfl (by simp [strC, Value.oneCell'])) (by omega) (by omega) [6] (fun _ => ⟨_, rfl⟩) ?_
                    intro u2 hu2 _
                    show GH _ _ _ _ _ _ _ [_, _, _, _, _, _, _, _, _] _
                    refine GH_take 8 rfl rfl rfl rfl (by kernel_rfl) (by kernel_rfl) (by kernel_rfl) (fun _ _ => (V_fieldAddr (fo := 0) rfl Tryd.underlying92 rfl infLogFW_24 rfl rfl rfl)) ?_
                    refine GH_all [9] (by kernel_rfl) (by decide) ?_
                    refine (And.intro ?_ trivial)
                    · skip
                      refine GHop_put (l1 := [_, _, _, _, _, _, _]) (L' := [_, _, _, _, _, _, _, _, _]) rfl rfl rfl rfl (P_store1 rfl rfl rfl (mem_at 7 rfl) (by first | exact of_decide_eq_true rfl | omega | (simp [wCells, kCells, rgC, lgC, rdC, afC, sv, Sl.v]; done) | (simp [wCells, kCells, rgC, lgC, rdC, afC, sv, Sl.v]; omega) | (simp [wCells, kCells, rgC, lgC, rdC, afC, sv, Sl.v] at *; omega)) infLogFW_24 rfl rfl) rfl [6] rfl ?_
                      refine GH_done (by kernel_rfl) ?_
                      refine G_region (l := [0, 1, 2, 3]) rfl ?_
                      refine G_val rfl rfl rfl rfl (V_move rfl rfl) ?_
                      refine G_val rfl rfl rfl rfl (V_fieldAddr (fo := 2) rfl Tryd.underlying94 rfl infLogFW_3 rfl rfl rfl) ?_
                      refine G_val rfl rfl rfl rfl (V_load1 rfl rfl (List.mem_append_right _ (mem_at 6 rfl)) rfl Tryd.underlying3 rfl) ?_
                      refine G_callM (L2 := [_, _, _, _, _, _, _, _]) rfl rfl rfl rfl rfl rfl Tryd.call32 (dk_fuse d 24 lb lcap lcs1 uw1 (appK k 1 22 e po a.s) h1 a.z) [3] rfl subA_nil ?_
                      rintro v post ⟨rfl, rfl⟩
                      show G _ _ _ [_, _, _, _, _, _, _, _, _] _
                      refine G_done ?_
                      refine G_inBlock ?_
                      refine G_inBlock ?_
                      refine G_region (l := [0, 1, 2]) rfl ?_
                      refine G_val rfl rfl rfl rfl (V_move rfl rfl) ?_
                      first
                        | refine G_val rfl rfl rfl rfl ((V_add rfl rfl rfl).int (wrap_i64 (by omega))) ?_
                        | refine G_val rfl rfl rfl rfl (V_add rfl rfl rfl) ?_
                      refine G_val rfl rfl rfl rfl (V_assign rfl rfl) ?_
                      refine G_done ?_
                      refine G_sub ?_ [3, 6, 1, 0, 1, 1] ?_ (ih (i + 1, (appK k 1 22 e po a.s).setFuse a.z, lcs1, uw1, e, appA k 1 22 e po a.s, xl ++ [a.s], u2, su, g) ?_ ?_)
                      · (refine (And.intro ?_ (And.intro ?_ (And.intro ?_ (And.intro ?_ (And.intro ?_ (And.intro ?_ (And.intro ?_ trivial))))))) <;> first | rfl | exact slot_int (by omega) | exact slot_int (by simp))
                      · (first | exact ⟨_, rfl⟩ | (dsimp only; rw [List.length_append]; exact ⟨_, rfl⟩))
                      · exact ⟨by omega, setFuse_at h1 ha2, fs_fuse hF1 _, by show e ≤ i + 1 + 1; omega, by show (xl ++ [a.s]).length ≤ i + 1; rw [List.length_append, List.length_singleton]; omega, by show Own 1 u2 ((xl ++ [a.s]).map strC) (xl ++ [a.s]).length; rw [List.map_append, List.length_append]; exact hu2, by have := app_W k 1 22 e po a.s; show (appK k 1 22 e po a.s).W.length ≤ 21 * (i + 1); omega⟩
                      · (first | omega | (dsimp only; omega))
            · skip
              refine GHop_val rfl rfl rfl rfl (V_load1 rfl rfl (List.mem_append_right _ (mem_at 6 rfl)) rfl Tryd.underlying24 rfl) ?_
              refine GH_all [0] (by kernel_rfl) (by decide) ?_
              refine (And.intro ?_ trivial)
              · skip
                refine GHop_new rfl rfl rfl rfl (N_build0 rfl Tryd.underlying24 infLogFW_9) [6] (fun _ => ⟨_, rfl⟩) (fun b114 => ?_)
                refine GH_all [3] (by kernel_rfl) (by decide) ?_
                refine (And.intro ?_ trivial)
                · skip
                  refine GHop_append (l1 := []) (s := ⟨some b114, #[], (0, 0), 0⟩) (nn := 0) (m := xl.length) (news := (xl.map strC)) (bt := 16) rfl rfl rfl rfl Tryd.underlying24 Tryd.underlying24 (by first | exact .inl rfl | exact .inr ⟨_, rfl⟩) infLogFW_9 rfl rfl rfl rfl rfl rfl (own_empty 1 b114) rfl (src_own hv (by first | exact List.mem_append_left _ (mem_at 0 rfl) | exact List.mem_append_right _ (mem_at 0 rfl) | exact List.mem_append_right _ (mem_at 1 rfl) | exact List.mem_append_right _ (mem_at 2 rfl) | exact List.mem_append_right _ (mem_at 3 rfl) | exact List.mem_append_right _ (mem_at 4 rfl) | exact List.mem_append_right _ (mem_at 5 rfl) | exact List.mem_append_right _ (mem_at 6 rfl) | exact List.mem_append_right _ (mem_at 7 rfl) | exact List.mem_append_right _ (mem_at 8 rfl)) (strs_all xl)) (by omega) (by omega) [6] (fun _ => ⟨_, rfl⟩) ?_
                  intro u1 hu1 _
                  show GH _ _ _ _ _ _ _ [_, _, _, _, _, _, _, _, _] _
                  rw [List.nil_append, Nat.zero_add] at hu1
                  rw [Nat.zero_add]
                  refine GH_all [7] (by kernel_rfl) (by decide) ?_
                  refine (And.intro ?_ trivial)
                  · skip
                    refine GHop_append (l1 := []) (s := u1) (nn := xl.length) (m := 1) (news := [strC a.s]) (bt := 16) rfl rfl rfl rfl Tryd.underlying24 Tryd.underlying24 (by first | exact .inl rfl | exact .inr ⟨_, rfl⟩) infLogFW_9 rfl rfl rfl rfl rfl rfl hu1 rfl (src_mem (List.mem_append_right _ (mem_at 1 rfl)) rfl rfl (by simp [strC, Value.oneCell'])) (by omega) (by omega) [6] (fun _ => ⟨_, rfl⟩) ?_
                    intro u2 hu2 _
                    show GH _ _ _ _ _ _ _ [_, _, _, _, _, _, _, _, _] _
                    refine GH_take 8 rfl rfl rfl rfl (by kernel_rfl) (by kernel_rfl) (by kernel_rfl) (fun _ _ => (V_fieldAddr (fo := 0) rfl Tryd.underlying92 rfl infLogFW_24 rfl rfl rfl)) ?_
                    refine GH_all [9] (by kernel_rfl) (by decide) ?_
                    refine (And.intro ?_ trivial)
                    · skip
                      refine GHop_put (l1 := [_, _, _, _, _, _, _]) (L' := [_, _, _, _, _, _, _, _, _]) rfl rfl rfl rfl (P_store1 rfl rfl rfl (mem_at 7 rfl) (by first | exact of_decide_eq_true rfl | omega | (simp [wCells, kCells, rgC, lgC, rdC, afC, sv, Sl.v]; done) | (simp [wCells, kCells, rgC, lgC, rdC, afC, sv, Sl.v]; omega) | (simp [wCells, kCells, rgC, lgC, rdC, afC, sv, Sl.v] at *; omega)) infLogFW_24 rfl rfl) rfl [6] rfl ?_
                      refine GH_done (by kernel_rfl) ?_
                      refine G_region (l := [0, 1, 2, 3]) rfl ?_
                      refine G_val rfl rfl rfl rfl (V_move rfl rfl) ?_
                      refine G_val rfl rfl rfl rfl (V_fieldAddr (fo := 2) rfl Tryd.underlying94 rfl infLogFW_3 rfl rfl rfl) ?_
                      refine G_val rfl rfl rfl rfl (V_load1 rfl rfl (List.mem_append_right _ (mem_at 6 rfl)) rfl Tryd.underlying3 rfl) ?_
                      refine G_callM (L2 := [_, _, _, _, _, _, _, _]) rfl rfl rfl rfl rfl rfl Tryd.call32 (dk_fuse d 24 lb lcap lcs1 uw1 (appK k 1 22 e po a.s) h1 a.z) [3] rfl subA_nil ?_
                      rintro v post ⟨rfl, rfl⟩
                      show G _ _ _ [_, _, _, _, _, _, _, _, _] _
                      refine G_done ?_
                      refine G_inBlock ?_
                      refine G_inBlock ?_
                      refine G_region (l := [0, 1, 2]) rfl ?_
                      refine G_val rfl rfl rfl rfl (V_move rfl rfl) ?_
                      first
                        | refine G_val rfl rfl rfl rfl ((V_add rfl rfl rfl).int (wrap_i64 (by omega))) ?_
                        | refine G_val rfl rfl rfl rfl (V_add rfl rfl rfl) ?_
                      refine G_val rfl rfl rfl rfl (V_assign rfl rfl) ?_
                      refine G_done ?_
                      refine G_sub ?_ [3, 6, 1, 0, 1, 1] ?_ (ih (i + 1, (appK k 1 22 e po a.s).setFuse a.z, lcs1, uw1, e, appA k 1 22 e po a.s, xl ++ [a.s], u2, su, g) ?_ ?_)
                      · (refine (And.intro ?_ (And.intro ?_ (And.intro ?_ (And.intro ?_ (And.intro ?_ (And.intro ?_ (And.intro ?_ trivial))))))) <;> first | rfl | exact slot_int (by omega) | exact slot_int (by simp))
                      · (first | exact ⟨_, rfl⟩ | (dsimp only; rw [List.length_append]; exact ⟨_, rfl⟩))
                      · exact ⟨by omega, setFuse_at h1 ha2, fs_fuse hF1 _, by show e ≤ i + 1 + 1; omega, by show (xl ++ [a.s]).length ≤ i + 1; rw [List.length_append, List.length_singleton]; omega, by show Own 1 u2 ((xl ++ [a.s]).map strC) (xl ++ [a.s]).length; rw [List.map_append, List.length_append]; exact hu2, by have := app_W k 1 22 e po a.s; show (appK k 1 22 e po a.s).W.length ≤ 21 * (i + 1); omega⟩
                      · (first | omega | (dsimp only; omega))
        refine G_val rfl rfl rfl rfl (V_move rfl rfl) ?_
        refine G_val rfl rfl rfl rfl (V_eql rfl rfl rfl) ?_
        refine G_val rfl rfl rfl rfl (V_pickF rfl rfl rfl) ?_
        refine G_done ?_
        refine G_ifD rfl (fun hc7 => ?_) (fun hc7 => ?_)
        rotate_left
        · (first | (exact absurd rfl hc7) | (exfalso; omega))
        refine GH_start (Lq := [_]) (isq := [4]) (m := 10) mixedK rfl rfl ?_
        refine GH_take 1 rfl rfl rfl rfl (by kernel_rfl) (by kernel_rfl) (by kernel_rfl) (fun _ _ => (V_fieldAddr (fo := 0) rfl Tryd.underlying92 rfl infLogFW_24 rfl rfl rfl)) ?_
        refine GH_take 4 rfl rfl rfl rfl (by kernel_rfl) (by kernel_rfl) (by kernel_rfl) (fun _ _ => (V_fieldAddr (fo := 1) rfl Tryd.underlying94 rfl infLogFW_9 rfl rfl rfl)) ?_
        refine GH_take 5 rfl rfl rfl rfl (by kernel_rfl) (by kernel_rfl) (by kernel_rfl) (fun _ _ => (V_load1 rfl rfl (List.mem_append_right _ (mem_at 0 rfl)) rfl Tryd.underlying9 rfl)) ?_
        refine GH_all [0, 2, 6] (by kernel_rfl) (by decide) ?_
        refine (And.intro ?_ (And.intro ?_ (And.intro ?_ trivial)))
        · skip
          refine GHop_new rfl rfl rfl rfl (N_build0 rfl Tryd.underlying24 infLogFW_9) [5] (fun _ => ⟨_, rfl⟩) (fun b114 => ?_)
          refine GH_all [2, 6] (by kernel_rfl) (by decide) ?_
          refine (And.intro ?_ (And.intro ?_ trivial))
          · skip
            refine GHop_val rfl rfl rfl rfl (V_load1 rfl rfl (List.mem_append_right _ (mem_at 6 rfl)) rfl Tryd.underlying24 rfl) ?_
            refine GH_all [3, 6] (by kernel_rfl) (by decide) ?_
            refine (And.intro ?_ (And.intro ?_ trivial))
            · skip
              refine GHop_append (l1 := []) (s := ⟨some b114, #[], (0, 0), 0⟩) (nn := 0) (m := xl.length) (news := (xl.map strC)) (bt := 16) rfl rfl rfl rfl Tryd.underlying24 Tryd.underlying24 (by first | exact .inl rfl | exact .inr ⟨_, rfl⟩) infLogFW_9 rfl rfl rfl rfl rfl rfl (own_empty 1 b114) rfl (src_own hv (by first | exact List.mem_append_left _ (mem_at 0 rfl) | exact List.mem_append_right _ (mem_at 0 rfl) | exact List.mem_append_right _ (mem_at 1 rfl) | exact List.mem_append_right _ (mem_at 2 rfl) | exact List.mem_append_right _ (mem_at 3 rfl) | exact List.mem_append_right _ (mem_at 4 rfl) | exact List.mem_append_right _ (mem_at 5 rfl) | exact List.mem_append_right _ (mem_at 6 rfl) | exact List.mem_append_right _ (mem_at 7 rfl)) (strs_all xl)) (by omega) (by omega) [5] (fun _ => ⟨_, rfl⟩) ?_
              intro u1 hu1 _
              show GH _ _ _ _ _ _ _ [_, _, _, _, _, _, _, _] _
              rw [List.nil_append, Nat.zero_add] at hu1
              rw [Nat.zero_add]
              refine GH_all [6] (by kernel_rfl) (by decide) ?_
              refine (And.intro ?_ trivial)
              · skip
                refine GHop_new rfl rfl rfl rfl (N_buildAll (s := 1) (cs := [_]) rfl Tryd.underlying24 infLogFW_9 rfl rfl rfl rfl rfl rfl rfl rfl rfl) [6] (fun _ => ⟨_, rfl⟩) (fun b120 => ?_)
                refine GH_all [7] (by kernel_rfl) (by decide) ?_
                refine (And.intro ?_ trivial)
                · skip
                  refine GHop_append (l1 := [_]) (s := u1) (nn := xl.length) (m := 1) (news := [strC a.s]) (bt := 16) rfl rfl rfl rfl Tryd.underlying24 Tryd.underlying24 (by first | exact .inl rfl | exact .inr ⟨_, rfl⟩) infLogFW_9 rfl rfl rfl rfl rfl rfl hu1 rfl (src_mem (List.mem_append_right _ (mem_at 0 rfl)) rfl rfl (by simp [strC, Value.oneCell'])) (by omega) (by omega) [6] (fun _ => ⟨_, rfl⟩) ?_
                  intro u2 hu2 _
                  show GH _ _ _ _ _ _ _ [_, _, _, _, _, _, _, _, _] _
                  refine GH_take 8 rfl rfl rfl rfl (by kernel_rfl) (by kernel_rfl) (by kernel_rfl) (fun _ _ => (V_fieldAddr (fo := 0) rfl Tryd.underlying92 rfl infLogFW_24 rfl rfl rfl)) ?_
                  refine GH_all [9] (by kernel_rfl) (by decide) ?_
                  refine (And.intro ?_ trivial)
                  · skip
                    refine GHop_put (l1 := [_, _, _, _, _, _, _]) (L' := [_, _, _, _, _, _, _, _, _]) rfl rfl rfl rfl (P_store1 rfl rfl rfl (mem_at 7 rfl) (by first | exact of_decide_eq_true rfl | omega | (simp [wCells, kCells, rgC, lgC, rdC, afC, sv, Sl.v]; done) | (simp [wCells, kCells, rgC, lgC, rdC, afC, sv, Sl.v]; omega) | (simp [wCells, kCells, rgC, lgC, rdC, afC, sv, Sl.v] at *; omega)) infLogFW_24 rfl rfl) rfl [6] rfl ?_
                    refine GH_done (by kernel_rfl) ?_
                    refine G_region (l := [0, 1, 2, 3]) rfl ?_
                    refine G_val rfl rfl rfl rfl (V_move rfl rfl) ?_
                    refine G_val rfl rfl rfl rfl (V_fieldAddr (fo := 2) rfl Tryd.underlying94 rfl infLogFW_3 rfl rfl rfl) ?_
                    refine G_val rfl rfl rfl rfl (V_load1 rfl rfl (List.mem_append_right _ (mem_at 6 rfl)) rfl Tryd.underlying3 rfl) ?_
                    refine G_callM (L2 := [_, _, _, _, _, _, _, _]) rfl rfl rfl rfl rfl rfl Tryd.call32 (dk_fuse d 24 lb lcap lcs1 uw1 (appK k 1 22 e po a.s) h1 a.z) [3] rfl subA_nil ?_
                    rintro v post ⟨rfl, rfl⟩
                    show G _ _ _ [_, _, _, _, _, _, _, _, _] _
                    refine G_done ?_
                    refine G_inBlock ?_
                    refine G_inBlock ?_
                    refine G_region (l := [0, 1, 2]) rfl ?_
                    refine G_val rfl rfl rfl rfl (V_move rfl rfl) ?_
                    first
                      | refine G_val rfl rfl rfl rfl ((V_add rfl rfl rfl).int (wrap_i64 (by omega))) ?_
                      | refine G_val rfl rfl rfl rfl (V_add rfl rfl rfl) ?_
                    refine G_val rfl rfl rfl rfl (V_assign rfl rfl) ?_
                    refine G_done ?_
                    refine G_sub ?_ [3, 6, 2, 0, 1, 1] ?_ (ih (i + 1, (appK k 1 22 e po a.s).setFuse a.z, lcs1, uw1, e, appA k 1 22 e po a.s, xl ++ [a.s], u2, su, g) ?_ ?_)
                    · (refine (And.intro ?_ (And.intro ?_ (And.intro ?_ (And.intro ?_ (And.intro ?_ (And.intro ?_ (And.intro ?_ trivial))))))) <;> first | rfl | exact slot_int (by omega) | exact slot_int (by simp))
                    · (first | exact ⟨_, rfl⟩ | (dsimp only; rw [List.length_append]; exact ⟨_, rfl⟩))
                    · exact ⟨by omega, setFuse_at h1 ha2, fs_fuse hF1 _, by show e ≤ i + 1 + 1; omega, by show (xl ++ [a.s]).length ≤ i + 1; rw [List.length_append, List.length_singleton]; omega, by show Own 1 u2 ((xl ++ [a.s]).map strC) (xl ++ [a.s]).length; rw [List.map_append, List.length_append]; exact hu2, by have := app_W k 1 22 e po a.s; show (appK k 1 22 e po a.s).W.length ≤ 21 * (i + 1); omega⟩
                    · (first | omega | (dsimp only; omega))
            · skip
              refine GHop_new rfl rfl rfl rfl (N_buildAll (s := 1) (cs := [_]) rfl Tryd.underlying24 infLogFW_9 rfl rfl rfl rfl rfl rfl rfl rfl rfl) [6] (fun _ => ⟨_, rfl⟩) (fun b120 => ?_)
              refine GH_all [3] (by kernel_rfl) (by decide) ?_
              refine (And.intro ?_ trivial)
              · skip
                refine GHop_append (l1 := [_]) (s := ⟨some b114, #[], (0, 0), 0⟩) (nn := 0) (m := xl.length) (news := (xl.map strC)) (bt := 16) rfl rfl rfl rfl Tryd.underlying24 Tryd.underlying24 (by first | exact .inl rfl | exact .inr ⟨_, rfl⟩) infLogFW_9 rfl rfl rfl rfl rfl rfl (own_empty 1 b114) rfl (src_own hv (by first | exact List.mem_append_left _ (mem_at 0 rfl) | exact List.mem_append_right _ (mem_at 0 rfl) | exact List.mem_append_right _ (mem_at 1 rfl) | exact List.mem_append_right _ (mem_at 2 rfl) | exact List.mem_append_right _ (mem_at 3 rfl) | exact List.mem_append_right _ (mem_at 4 rfl) | exact List.mem_append_right _ (mem_at 5 rfl) | exact List.mem_append_right _ (mem_at 6 rfl) | exact List.mem_append_right _ (mem_at 7 rfl) | exact List.mem_append_right _ (mem_at 8 rfl)) (strs_all xl)) (by omega) (by omega) [6] (fun _ => ⟨_, rfl⟩) ?_
                intro u1 hu1 _
                show GH _ _ _ _ _ _ _ [_, _, _, _, _, _, _, _, _] _
                rw [List.nil_append, Nat.zero_add] at hu1
                rw [Nat.zero_add]
                refine GH_all [7] (by kernel_rfl) (by decide) ?_
                refine (And.intro ?_ trivial)
                · skip
                  refine GHop_append (l1 := [_]) (s := u1) (nn := xl.length) (m := 1) (news := [strC a.s]) (bt := 16) rfl rfl rfl rfl Tryd.underlying24 Tryd.underlying24 (by first | exact .inl rfl | exact .inr ⟨_, rfl⟩) infLogFW_9 rfl rfl rfl rfl rfl rfl hu1 rfl (src_mem (List.mem_append_right _ (mem_at 0 rfl)) rfl rfl (by simp [strC, Value.oneCell'])) (by omega) (by omega) [6] (fun _ => ⟨_, rfl⟩) ?_
                  intro u2 hu2 _
                  show GH _ _ _ _ _ _ _ [_, _, _, _, _, _, _, _, _] _
                  refine GH_take 8 rfl rfl rfl rfl (by kernel_rfl) (by kernel_rfl) (by kernel_rfl) (fun _ _ => (V_fieldAddr (fo := 0) rfl Tryd.underlying92 rfl infLogFW_24 rfl rfl rfl)) ?_
                  refine GH_all [9] (by kernel_rfl) (by decide) ?_
                  refine (And.intro ?_ trivial)
                  · skip
                    refine GHop_put (l1 := [_, _, _, _, _, _, _]) (L' := [_, _, _, _, _, _, _, _, _]) rfl rfl rfl rfl (P_store1 rfl rfl rfl (mem_at 7 rfl) (by first | exact of_decide_eq_true rfl | omega | (simp [wCells, kCells, rgC, lgC, rdC, afC, sv, Sl.v]; done) | (simp [wCells, kCells, rgC, lgC, rdC, afC, sv, Sl.v]; omega) | (simp [wCells, kCells, rgC, lgC, rdC, afC, sv, Sl.v] at *; omega)) infLogFW_24 rfl rfl) rfl [6] rfl ?_
                    refine GH_done (by kernel_rfl) ?_
                    refine G_region (l := [0, 1, 2, 3]) rfl ?_
                    refine G_val rfl rfl rfl rfl (V_move rfl rfl) ?_
                    refine G_val rfl rfl rfl rfl (V_fieldAddr (fo := 2) rfl Tryd.underlying94 rfl infLogFW_3 rfl rfl rfl) ?_
                    refine G_val rfl rfl rfl rfl (V_load1 rfl rfl (List.mem_append_right _ (mem_at 6 rfl)) rfl Tryd.underlying3 rfl) ?_
                    refine G_callM (L2 := [_, _, _, _, _, _, _, _]) rfl rfl rfl rfl rfl rfl Tryd.call32 (dk_fuse d 24 lb lcap lcs1 uw1 (appK k 1 22 e po a.s) h1 a.z) [3] rfl subA_nil ?_
                    rintro v post ⟨rfl, rfl⟩
                    show G _ _ _ [_, _, _, _, _, _, _, _, _] _
                    refine G_done ?_
                    refine G_inBlock ?_
                    refine G_inBlock ?_
                    refine G_region (l := [0, 1, 2]) rfl ?_
                    refine G_val rfl rfl rfl rfl (V_move rfl rfl) ?_
                    first
                      | refine G_val rfl rfl rfl rfl ((V_add rfl rfl rfl).int (wrap_i64 (by omega))) ?_
                      | refine G_val rfl rfl rfl rfl (V_add rfl rfl rfl) ?_
                    refine G_val rfl rfl rfl rfl (V_assign rfl rfl) ?_
                    refine G_done ?_
                    refine G_sub ?_ [3, 6, 2, 0, 1, 1] ?_ (ih (i + 1, (appK k 1 22 e po a.s).setFuse a.z, lcs1, uw1, e, appA k 1 22 e po a.s, xl ++ [a.s], u2, su, g) ?_ ?_)
                    · (refine (And.intro ?_ (And.intro ?_ (And.intro ?_ (And.intro ?_ (And.intro ?_ (And.intro ?_ (And.intro ?_ trivial))))))) <;> first | rfl | exact slot_int (by omega) | exact slot_int (by simp))
                    · (first | exact ⟨_, rfl⟩ | (dsimp only; rw [List.length_append]; exact ⟨_, rfl⟩))
                    · exact ⟨by omega, setFuse_at h1 ha2, fs_fuse hF1 _, by show e ≤ i + 1 + 1; omega, by show (xl ++ [a.s]).length ≤ i + 1; rw [List.length_append, List.length_singleton]; omega, by show Own 1 u2 ((xl ++ [a.s]).map strC) (xl ++ [a.s]).length; rw [List.map_append, List.length_append]; exact hu2, by have := app_W k 1 22 e po a.s; show (appK k 1 22 e po a.s).W.length ≤ 21 * (i + 1); omega⟩
                    · (first | omega | (dsimp only; omega))
          · skip
            refine GHop_new rfl rfl rfl rfl (N_buildAll (s := 1) (cs := [_]) rfl Tryd.underlying24 infLogFW_9 rfl rfl rfl rfl rfl rfl rfl rfl rfl) [6] (fun _ => ⟨_, rfl⟩) (fun b120 => ?_)
            refine GH_all [2] (by kernel_rfl) (by decide) ?_
            refine (And.intro ?_ trivial)
            · skip
              refine GHop_val rfl rfl rfl rfl (V_load1 rfl rfl (List.mem_append_right _ (mem_at 7 rfl)) rfl Tryd.underlying24 rfl) ?_
              refine GH_all [3] (by kernel_rfl) (by decide) ?_
              refine (And.intro ?_ trivial)
              · skip
                refine GHop_append (l1 := [_]) (s := ⟨some b114, #[], (0, 0), 0⟩) (nn := 0) (m := xl.length) (news := (xl.map strC)) (bt := 16) rfl rfl rfl rfl Tryd.underlying24 Tryd.underlying24 (by first | exact .inl rfl | exact .inr ⟨_, rfl⟩) infLogFW_9 rfl rfl rfl rfl rfl rfl (own_empty 1 b114) rfl (src_own hv (by first | exact List.mem_append_left _ (mem_at 0 rfl) | exact List.mem_append_right _ (mem_at 0 rfl) | exact List.mem_append_right _ (mem_at 1 rfl) | exact List.mem_append_right _ (mem_at 2 rfl) | exact List.mem_append_right _ (mem_at 3 rfl) | exact List.mem_append_right _ (mem_at 4 rfl) | exact List.mem_append_right _ (mem_at 5 rfl) | exact List.mem_append_right _ (mem_at 6 rfl) | exact List.mem_append_right _ (mem_at 7 rfl) | exact List.mem_append_right _ (mem_at 8 rfl)) (strs_all xl)) (by omega) (by omega) [6] (fun _ => ⟨_, rfl⟩) ?_
                intro u1 hu1 _
                show GH _ _ _ _ _ _ _ [_, _, _, _, _, _, _, _, _] _
                rw [List.nil_append, Nat.zero_add] at hu1
                rw [Nat.zero_add]
                refine GH_all [7] (by kernel_rfl) (by decide) ?_
                refine (And.intro ?_ trivial)
                · skip
                  refine GHop_append (l1 := [_]) (s := u1) (nn := xl.length) (m := 1) (news := [strC a.s]) (bt := 16) rfl rfl rfl rfl Tryd.underlying24 Tryd.underlying24 (by first | exact .inl rfl | exact .inr ⟨_, rfl⟩) infLogFW_9 rfl rfl rfl rfl rfl rfl hu1 rfl (src_mem (List.mem_append_right _ (mem_at 0 rfl)) rfl rfl (by simp [strC, Value.oneCell'])) (by omega) (by omega) [6] (fun _ => ⟨_, rfl⟩) ?_
                  intro u2 hu2 _
                  show GH _ _ _ _ _ _ _ [_, _, _, _, _, _, _, _, _] _
                  refine GH_take 8 rfl rfl rfl rfl (by kernel_rfl) (by kernel_rfl) (by kernel_rfl) (fun _ _ => (V_fieldAddr (fo := 0) rfl Tryd.underlying92 rfl infLogFW_24 rfl rfl rfl)) ?_
                  refine GH_all [9] (by kernel_rfl) (by decide) ?_
                  refine (And.intro ?_ trivial)
                  · skip
                    refine GHop_put (l1 := [_, _, _, _, _, _, _]) (L' := [_, _, _, _, _, _, _, _, _]) rfl rfl rfl rfl (P_store1 rfl rfl rfl (mem_at 7 rfl) (by first | exact of_decide_eq_true rfl | omega | (simp [wCells, kCells, rgC, lgC, rdC, afC, sv, Sl.v]; done) | (simp [wCells, kCells, rgC, lgC, rdC, afC, sv, Sl.v]; omega) | (simp [wCells, kCells, rgC, lgC, rdC, afC, sv, Sl.v] at *; omega)) infLogFW_24 rfl rfl) rfl [6] rfl ?_
                    refine GH_done (by kernel_rfl) ?_
                    refine G_region (l := [0, 1, 2, 3]) rfl ?_
                    refine G_val rfl rfl rfl rfl (V_move rfl rfl) ?_
                    refine G_val rfl rfl rfl rfl (V_fieldAddr (fo := 2) rfl Tryd.underlying94 rfl infLogFW_3 rfl rfl rfl) ?_
                    refine G_val rfl rfl rfl rfl (V_load1 rfl rfl (List.mem_append_right _ (mem_at 6 rfl)) rfl Tryd.underlying3 rfl) ?_
                    refine G_callM (L2 := [_, _, _, _, _, _, _, _]) rfl rfl rfl rfl rfl rfl Tryd.call32 (dk_fuse d 24 lb lcap lcs1 uw1 (appK k 1 22 e po a.s) h1 a.z) [3] rfl subA_nil ?_
                    rintro v post ⟨rfl, rfl⟩
                    show G _ _ _ [_, _, _, _, _, _, _, _, _] _
                    refine G_done ?_
                    refine G_inBlock ?_
                    refine G_inBlock ?_
                    refine G_region (l := [0, 1, 2]) rfl ?_
                    refine G_val rfl rfl rfl rfl (V_move rfl rfl) ?_
                    first
                      | refine G_val rfl rfl rfl rfl ((V_add rfl rfl rfl).int (wrap_i64 (by omega))) ?_
                      | refine G_val rfl rfl rfl rfl (V_add rfl rfl rfl) ?_
                    refine G_val rfl rfl rfl rfl (V_assign rfl rfl) ?_
                    refine G_done ?_
                    refine G_sub ?_ [3, 6, 2, 0, 1, 1] ?_ (ih (i + 1, (appK k 1 22 e po a.s).setFuse a.z, lcs1, uw1, e, appA k 1 22 e po a.s, xl ++ [a.s], u2, su, g) ?_ ?_)
                    · (refine (And.intro ?_ (And.intro ?_ (And.intro ?_ (And.intro ?_ (And.intro ?_ (And.intro ?_ (And.intro ?_ trivial))))))) <;> first | rfl | exact slot_int (by omega) | exact slot_int (by simp))
                    · (first | exact ⟨_, rfl⟩ | (dsimp only; rw [List.length_append]; exact ⟨_, rfl⟩))
                    · exact ⟨by omega, setFuse_at h1 ha2, fs_fuse hF1 _, by show e ≤ i + 1 + 1; omega, by show (xl ++ [a.s]).length ≤ i + 1; rw [List.length_append, List.length_singleton]; omega, by show Own 1 u2 ((xl ++ [a.s]).map strC) (xl ++ [a.s]).length; rw [List.map_append, List.length_append]; exact hu2, by have := app_W k 1 22 e po a.s; show (appK k 1 22 e po a.s).W.length ≤ 21 * (i + 1); omega⟩
                    · (first | omega | (dsimp only; omega))
        · skip
          refine GHop_val rfl rfl rfl rfl (V_load1 rfl rfl (List.mem_append_right _ (mem_at 5 rfl)) rfl Tryd.underlying24 rfl) ?_
          refine GH_all [0, 6] (by kernel_rfl) (by decide) ?_
          refine (And.intro ?_ (And.intro ?_ trivial))
          · skip
            refine GHop_new rfl rfl rfl rfl (N_build0 rfl Tryd.underlying24 infLogFW_9) [5] (fun _ => ⟨_, rfl⟩) (fun b114 => ?_)
            refine GH_all [3, 6] (by kernel_rfl) (by decide) ?_
            refine (And.intro ?_ (And.intro ?_ trivial))
            · skip
              refine GHop_append (l1 := []) (s := ⟨some b114, #[], (0, 0), 0⟩) (nn := 0) (m := xl.length) (news := (xl.map strC)) (bt := 16) rfl rfl rfl rfl Tryd.underlying24 Tryd.underlying24 (by first | exact .inl rfl | exact .inr ⟨_, rfl⟩) infLogFW_9 rfl rfl rfl rfl rfl rfl (own_empty 1 b114) rfl (src_own hv (by first | exact List.mem_append_left _ (mem_at 0 rfl) | exact List.mem_append_right _ (mem_at 0 rfl) | exact List.mem_append_right _ (mem_at 1 rfl) | exact List.mem_append_right _ (mem_at 2 rfl) | exact List.mem_append_right _ (mem_at 3 rfl) | exact List.mem_append_right _ (mem_at 4 rfl) | exact List.mem_append_right _ (mem_at 5 rfl) | exact List.mem_append_right _ (mem_at 6 rfl) | exact List.mem_append_right _ (mem_at 7 rfl)) (strs_all xl)) (by omega) (by omega) [5] (fun _ => ⟨_, rfl⟩) ?_
              intro u1 hu1 _
              show GH _ _ _ _ _ _ _ [_, _, _, _, _, _, _, _] _
              rw [List.nil_append, Nat.zero_add] at hu1
              rw [Nat.zero_add]
              refine GH_all [6] (by kernel_rfl) (by decide) ?_
              refine (And.intro ?_ trivial)
              · skip
                refine GHop_new rfl rfl rfl rfl (N_buildAll (s := 1) (cs := [_]) rfl Tryd.underlying24 infLogFW_9 rfl rfl rfl rfl rfl rfl rfl rfl rfl) [6] (fun _ => ⟨_, rfl⟩) (fun b120 => ?_)
                refine GH_all [7] (by kernel_rfl) (by decide) ?_
                refine (And.intro ?_ trivial)
                · skip
                  refine GHop_append (l1 := [_]) (s := u1) (nn := xl.length) (m := 1) (news := [strC a.s]) (bt := 16) rfl rfl rfl rfl Tryd.underlying24 Tryd.underlying24 (by first | exact .inl rfl | exact .inr ⟨_, rfl⟩) infLogFW_9 rfl rfl rfl rfl rfl rfl hu1 rfl (src_mem (List.mem_append_right _ (mem_at 0 rfl)) rfl rfl (by simp [strC, Value.oneCell'])) (by omega) (by omega) [6] (fun _ => ⟨_, rfl⟩) ?_
                  intro u2 hu2 _
                  show GH _ _ _ _ _ _ _ [_, _, _, _, _, _, _, _, _] _
                  refine GH_take 8 rfl rfl rfl rfl (by kernel_rfl) (by kernel_rfl) (by kernel_rfl) (fun _ _ => (V_fieldAddr (fo := 0) rfl Tryd.underlying92 rfl infLogFW_24 rfl rfl rfl)) ?_
                  refine GH_all [9] (by kernel_rfl) (by decide) ?_
                  refine (And.intro ?_ trivial)
                  · skip
                    refine GHop_put (l1 := [_, _, _, _, _, _, _]) (L' := [_, _, _, _, _, _, _, _, _]) rfl rfl rfl rfl (P_store1 rfl rfl rfl (mem_at 7 rfl) (by first | exact of_decide_eq_true rfl | omega | (simp [wCells, kCells, rgC, lgC, rdC, afC, sv, Sl.v]; done) | (simp [wCells, kCells, rgC, lgC, rdC, afC, sv, Sl.v]; omega) | (simp [wCells, kCells, rgC, lgC, rdC, afC, sv, Sl.v] at *; omega)) infLogFW_24 rfl rfl) rfl [6] rfl ?_
                    refine GH_done (by kernel_rfl) ?_
                    refine G_region (l := [0, 1, 2, 3]) rfl ?_
                    refine G_val rfl rfl rfl rfl (V_move rfl rfl) ?_
                    refine G_val rfl rfl rfl rfl (V_fieldAddr (fo := 2) rfl Tryd.underlying94 rfl infLogFW_3 rfl rfl rfl) ?_
                    refine G_val rfl rfl rfl rfl (V_load1 rfl rfl (List.mem_append_right _ (mem_at 6 rfl)) rfl Tryd.underlying3 rfl) ?_
                    refine G_callM (L2 := [_, _, _, _, _, _, _, _]) rfl rfl rfl rfl rfl rfl Tryd.call32 (dk_fuse d 24 lb lcap lcs1 uw1 (appK k 1 22 e po a.s) h1 a.z) [3] rfl subA_nil ?_
                    rintro v post ⟨rfl, rfl⟩
                    show G _ _ _ [_, _, _, _, _, _, _, _, _] _
                    refine G_done ?_
                    refine G_inBlock ?_
                    refine G_inBlock ?_
                    refine G_region (l := [0, 1, 2]) rfl ?_
                    refine G_val rfl rfl rfl rfl (V_move rfl rfl) ?_
                    first
                      | refine G_val rfl rfl rfl rfl ((V_add rfl rfl rfl).int (wrap_i64 (by omega))) ?_
                      | refine G_val rfl rfl rfl rfl (V_add rfl rfl rfl) ?_
                    refine G_val rfl rfl rfl rfl (V_assign rfl rfl) ?_
                    refine G_done ?_
                    refine G_sub ?_ [3, 6, 2, 0, 1, 1] ?_ (ih (i + 1, (appK k 1 22 e po a.s).setFuse a.z, lcs1, uw1, e, appA k 1 22 e po a.s, xl ++ [a.s], u2, su, g) ?_ ?_)
                    · (refine (And.intro ?_ (And.intro ?_ (And.intro ?_ (And.intro ?_ (And.intro ?_ (And.intro ?_ (And.intro ?_ trivial))))))) <;> first | rfl | exact slot_int (by omega) | exact slot_int (by simp))
                    · (first | exact ⟨_, rfl⟩ | (dsimp only; rw [List.length_append]; exact ⟨_, rfl⟩))
                    · exact ⟨by omega, setFuse_at h1 ha2, fs_fuse hF1 _, by show e ≤ i + 1 + 1; omega, by show (xl ++ [a.s]).length ≤ i + 1; rw [List.length_append, List.length_singleton]; omega, by show Own 1 u2 ((xl ++ [a.s]).map strC) (xl ++ [a.s]).length; rw [List.map_append, List.length_append]; exact hu2, by have := app_W k 1 22 e po a.s; show (appK k 1 22 e po a.s).W.length ≤ 21 * (i + 1); omega⟩
                    · (first | omega | (dsimp only; omega))
            · skip
              refine GHop_new rfl rfl rfl rfl (N_buildAll (s := 1) (cs := [_]) rfl Tryd.underlying24 infLogFW_9 rfl rfl rfl rfl rfl rfl rfl rfl rfl) [6] (fun _ => ⟨_, rfl⟩) (fun b120 => ?_)
              refine GH_all [3] (by kernel_rfl) (by decide) ?_
              refine (And.intro ?_ trivial)
              · skip
                refine GHop_append (l1 := [_]) (s := ⟨some b114, #[], (0, 0), 0⟩) (nn := 0) (m := xl.length) (news := (xl.map strC)) (bt := 16) rfl rfl rfl rfl Tryd.underlying24 Tryd.underlying24 (by first | exact .inl rfl | exact .inr ⟨_, rfl⟩) infLogFW_9 rfl rfl rfl rfl rfl rfl (own_empty 1 b114) rfl (src_own hv (by first | exact List.mem_append_left _ (mem_at 0 rfl) | exact List.mem_append_right _ (mem_at 0 rfl) | exact List.mem_append_right _ (mem_at 1 rfl) | exact List.mem_append_right _ (mem_at 2 rfl) | exact List.mem_append_right _ (mem_at 3 rfl) | exact List.mem_append_right _ (mem_at 4 rfl) | exact List.mem_append_right _ (mem_at 5 rfl) | exact List.mem_append_right _ (mem_at 6 rfl) | exact List.mem_append_right _ (mem_at 7 rfl) | exact List.mem_append_right _ (mem_at 8 rfl)) (strs_all xl)) (by omega) (by omega) [6] (fun _ => ⟨_, rfl⟩) ?_
                intro u1 hu1 _
                show GH _ _ _ _ _ _ _ [_, _, _, _, _, _, _, _, _] _
                rw [List.nil_append, Nat.zero_add] at hu1
                rw [Nat.zero_add]
                refine GH_all [7] (by kernel_rfl) (by decide) ?_
                refine (And.intro ?_ trivial)
                · skip
                  refine GHop_append (l1 := [_]) (s := u1) (nn := xl.length) (m := 1) (news := [strC a.s]) (bt := 16) rfl rfl rfl rfl Tryd.underlying24 Tryd.underlying24 (by first | exact .inl rfl | exact .inr ⟨_, rfl⟩) infLogFW_9 rfl rfl rfl rfl rfl rfl hu1 rfl (src_mem (List.mem_append_right _ (mem_at 0 rfl)) rfl rfl (by simp [strC, Value.oneCell'])) (by omega) (by omega) [6] (fun _ => ⟨_, rfl⟩) ?_
                  intro u2 hu2 _
                  show GH _ _ _ _ _ _ _ [_, _, _, _, _, _, _, _, _] _
                  refine GH_take 8 rfl rfl rfl rfl (by kernel_rfl) (by kernel_rfl) (by kernel_rfl) (fun _ _ => (V_fieldAddr (fo := 0) rfl Tryd.underlying92 rfl infLogFW_24 rfl rfl rfl)) ?_
                  refine GH_all [9] (by kernel_rfl) (by decide) ?_
                  refine (And.intro ?_ trivial)
                  · skip
                    refine GHop_put (l1 := [_, _, _, _, _, _, _]) (L' := [_, _, _, _, _, _, _, _, _]) rfl rfl rfl rfl (P_store1 rfl rfl rfl (mem_at 7 rfl) (by first | exact of_decide_eq_true rfl | omega | (simp [wCells, kCells, rgC, lgC, rdC, afC, sv, Sl.v]; done) | (simp [wCells, kCells, rgC, lgC, rdC, afC, sv, Sl.v]; omega) | (simp [wCells, kCells, rgC, lgC, rdC, afC, sv, Sl.v] at *; omega)) infLogFW_24 rfl rfl) rfl [6] rfl ?_
                    refine GH_done (by kernel_rfl) ?_
                    refine G_region (l := [0, 1, 2, 3]) rfl ?_
                    refine G_val rfl rfl rfl rfl (V_move rfl rfl) ?_
                    refine G_val rfl rfl rfl rfl (V_fieldAddr (fo := 2) rfl Tryd.underlying94 rfl infLogFW_3 rfl rfl rfl) ?_
                    refine G_val rfl rfl rfl rfl (V_load1 rfl rfl (List.mem_append_right _ (mem_at 6 rfl)) rfl Tryd.underlying3 rfl) ?_
                    refine G_callM (L2 := [_, _, _, _, _, _, _, _]) rfl rfl rfl rfl rfl rfl Tryd.call32 (dk_fuse d 24 lb lcap lcs1 uw1 (appK k 1 22 e po a.s) h1 a.z) [3] rfl subA_nil ?_
                    rintro v post ⟨rfl, rfl⟩
                    show G _ _ _ [_, _, _, _, _, _, _, _, _] _
                    refine G_done ?_
                    refine G_inBlock ?_
                    refine G_inBlock ?_
                    refine G_region (l := [0, 1, 2]) rfl ?_
                    refine G_val rfl rfl rfl rfl (V_move rfl rfl) ?_
                    first
                      | refine G_val rfl rfl rfl rfl ((V_add rfl rfl rfl).int (wrap_i64 (by omega))) ?_
                      | refine G_val rfl rfl rfl rfl (V_add rfl rfl rfl) ?_
                    refine G_val rfl rfl rfl rfl (V_assign rfl rfl) ?_
                    refine G_done ?_
                    refine G_sub ?_ [3, 6, 2, 0, 1, 1] ?_ (ih (i + 1, (appK k 1 22 e po a.s).setFuse a.z, lcs1, uw1, e, appA k 1 22 e po a.s, xl ++ [a.s], u2, su, g) ?_ ?_)
                    · (refine (And.intro ?_ (And.intro ?_ (And.intro ?_ (And.intro ?_ (And.intro ?_ (And.intro ?_ (And.intro ?_ trivial))))))) <;> first | rfl | exact slot_int (by omega) | exact slot_int (by simp))
                    · (first | exact ⟨_, rfl⟩ | (dsimp only; rw [List.length_append]; exact ⟨_, rfl⟩))
                    · exact ⟨by omega, setFuse_at h1 ha2, fs_fuse hF1 _, by show e ≤ i + 1 + 1; omega, by show (xl ++ [a.s]).length ≤ i + 1; rw [List.length_append, List.length_singleton]; omega, by show Own 1 u2 ((xl ++ [a.s]).map strC) (xl ++ [a.s]).length; rw [List.map_append, List.length_append]; exact hu2, by have := app_W k 1 22 e po a.s; show (appK k 1 22 e po a.s).W.length ≤ 21 * (i + 1); omega⟩
                    · (first | omega | (dsimp only; omega))
          · skip
            refine GHop_new rfl rfl rfl rfl (N_buildAll (s := 1) (cs := [_]) rfl Tryd.underlying24 infLogFW_9 rfl rfl rfl rfl rfl rfl rfl rfl rfl) [5] (fun _ => ⟨_, rfl⟩) (fun b120 => ?_)
            refine GH_all [0] (by kernel_rfl) (by decide) ?_
            refine (And.intro ?_ trivial)
            · skip
              refine GHop_new rfl rfl rfl rfl (N_build0 rfl Tryd.underlying24 infLogFW_9) [6] (fun _ => ⟨_, rfl⟩) (fun b114 => ?_)
              refine GH_all [3] (by kernel_rfl) (by decide) ?_
              refine (And.intro ?_ trivial)
              · skip
                refine GHop_append (l1 := []) (s := ⟨some b114, #[], (0, 0), 0⟩) (nn := 0) (m := xl.length) (news := (xl.map strC)) (bt := 16) rfl rfl rfl rfl Tryd.underlying24 Tryd.underlying24 (by first | exact .inl rfl | exact .inr ⟨_, rfl⟩) infLogFW_9 rfl rfl rfl rfl rfl rfl (own_empty 1 b114) rfl (src_own hv (by first | exact List.mem_append_left _ (mem_at 0 rfl) | exact List.mem_append_right _ (mem_at 0 rfl) | exact List.mem_append_right _ (mem_at 1 rfl) | exact List.mem_append_right _ (mem_at 2 rfl) | exact List.mem_append_right _ (mem_at 3 rfl) | exact List.mem_append_right _ (mem_at 4 rfl) | exact List.mem_append_right _ (mem_at 5 rfl) | exact List.mem_append_right _ (mem_at 6 rfl) | exact List.mem_append_right _ (mem_at 7 rfl) | exact List.mem_append_right _ (mem_at 8 rfl)) (strs_all xl)) (by omega) (by omega) [6] (fun _ => ⟨_, rfl⟩) ?_
                intro u1 hu1 _
                show GH _ _ _ _ _ _ _ [_, _, _, _, _, _, _, _, _] _
                rw [List.nil_append, Nat.zero_add] at hu1
                rw [Nat.zero_add]
                refine GH_all [7] (by kernel_rfl) (by decide) ?_
                refine (And.intro ?_ trivial)
                · skip
                  refine GHop_append (l1 := []) (s := u1) (nn := xl.length) (m := 1) (news := [strC a.s]) (bt := 16) rfl rfl rfl rfl Tryd.underlying24 Tryd.underlying24 (by first | exact .inl rfl | exact .inr ⟨_, rfl⟩) infLogFW_9 rfl rfl rfl rfl rfl rfl hu1 rfl (src_mem (List.mem_append_right _ (mem_at 1 rfl)) rfl rfl (by simp [strC, Value.oneCell'])) (by omega) (by omega) [6] (fun _ => ⟨_, rfl⟩) ?_
                  intro u2 hu2 _
                  show GH _ _ _ _ _ _ _ [_, _, _, _, _, _, _, _, _] _
                  refine GH_take 8 rfl rfl rfl rfl (by kernel_rfl) (by kernel_rfl) (by kernel_rfl) (fun _ _ => (V_fieldAddr (fo := 0) rfl Tryd.underlying92 rfl infLogFW_24 rfl rfl rfl)) ?_
                  refine GH_all [9] (by kernel_rfl) (by decide) ?_
                  refine (And.intro ?_ trivial)
                  · skip
                    refine GHop_put (l1 := [_, _, _, _, _, _, _]) (L' := [_, _, _, _, _, _, _, _, _]) rfl rfl rfl rfl (P_store1 rfl rfl rfl (mem_at 7 rfl) (by first | exact of_decide_eq_true rfl | omega | (simp [wCells, kCells, rgC, lgC, rdC, afC, sv, Sl.v]; done) | (simp [wCells, kCells, rgC, lgC, rdC, afC, sv, Sl.v]; omega) | (simp [wCells, kCells, rgC, lgC, rdC, afC, sv, Sl.v] at *; omega)) infLogFW_24 rfl rfl) rfl [6] rfl ?_
                    refine GH_done (by kernel_rfl) ?_
                    refine G_region (l := [0, 1, 2, 3]) rfl ?_
                    refine G_val rfl rfl rfl rfl (V_move rfl rfl) ?_
                    refine G_val rfl rfl rfl rfl (V_fieldAddr (fo := 2) rfl Tryd.underlying94 rfl infLogFW_3 rfl rfl rfl) ?_
                    refine G_val rfl rfl rfl rfl (V_load1 rfl rfl (List.mem_append_right _ (mem_at 6 rfl)) rfl Tryd.underlying3 rfl) ?_
                    refine G_callM (L2 := [_, _, _, _, _, _, _, _]) rfl rfl rfl rfl rfl rfl Tryd.call32 (dk_fuse d 24 lb lcap lcs1 uw1 (appK k 1 22 e po a.s) h1 a.z) [3] rfl subA_nil ?_
                    rintro v post ⟨rfl, rfl⟩
                    show G _ _ _ [_, _, _, _, _, _, _, _, _] _
                    refine G_done ?_
                    refine G_inBlock ?_
                    refine G_inBlock ?_
                    refine G_region (l := [0, 1, 2]) rfl ?_
                    refine G_val rfl rfl rfl rfl (V_move rfl rfl) ?_
                    first
                      | refine G_val rfl rfl rfl rfl ((V_add rfl rfl rfl).int (wrap_i64 (by omega))) ?_
                      | refine G_val rfl rfl rfl rfl (V_add rfl rfl rfl) ?_
                    refine G_val rfl rfl rfl rfl (V_assign rfl rfl) ?_
                    refine G_done ?_
                    refine G_sub ?_ [3, 6, 1, 0, 1, 1] ?_ (ih (i + 1, (appK k 1 22 e po a.s).setFuse a.z, lcs1, uw1, e, appA k 1 22 e po a.s, xl ++ [a.s], u2, su, g) ?_ ?_)
                    · (refine (And.intro ?_ (And.intro ?_ (And.intro ?_ (And.intro ?_ (And.intro ?_ (And.intro ?_ (And.intro ?_ trivial))))))) <;> first | rfl | exact slot_int (by omega) | exact slot_int (by simp))
                    · (first | exact ⟨_, rfl⟩ | (dsimp only; rw [List.length_append]; exact ⟨_, rfl⟩))
                    · exact ⟨by omega, setFuse_at h1 ha2, fs_fuse hF1 _, by show e ≤ i + 1 + 1; omega, by show (xl ++ [a.s]).length ≤ i + 1; rw [List.length_append, List.length_singleton]; omega, by show Own 1 u2 ((xl ++ [a.s]).map strC) (xl ++ [a.s]).length; rw [List.map_append, List.length_append]; exact hu2, by have := app_W k 1 22 e po a.s; show (appK k 1 22 e po a.s).W.length ≤ 21 * (i + 1); omega⟩
                    · (first | omega | (dsimp only; omega))
        · skip
          refine GHop_new rfl rfl rfl rfl (N_buildAll (s := 1) (cs := [_]) rfl Tryd.underlying24 infLogFW_9 rfl rfl rfl rfl rfl rfl rfl rfl rfl) [5] (fun _ => ⟨_, rfl⟩) (fun b120 => ?_)
          refine GH_all [0, 2] (by kernel_rfl) (by decide) ?_
          refine (And.intro ?_ (And.intro ?_ trivial))
          · skip
            refine GHop_new rfl rfl rfl rfl (N_build0 rfl Tryd.underlying24 infLogFW_9) [6] (fun _ => ⟨_, rfl⟩) (fun b114 => ?_)
            refine GH_all [2] (by kernel_rfl) (by decide) ?_
            refine (And.intro ?_ trivial)
            · skip
              refine GHop_val rfl rfl rfl rfl (V_load1 rfl rfl (List.mem_append_right _ (mem_at 7 rfl)) rfl Tryd.underlying24 rfl) ?_
              refine GH_all [3] (by kernel_rfl) (by decide) ?_
              refine (And.intro ?_ trivial)
              · skip
                refine GHop_append (l1 := []) (s := ⟨some b114, #[], (0, 0), 0⟩) (nn := 0) (m := xl.length) (news := (xl.map strC)) (bt := 16) rfl rfl rfl rfl Tryd.underlying24 Tryd.underlying24 (by first | exact .inl rfl | exact .inr ⟨_, rfl⟩) infLogFW_9 rfl rfl rfl rfl rfl rfl (own_empty 1 b114) rfl (src_own hv (by first | exact List.mem_append_left _ (mem_at 0 rfl) | exact List.mem_append_right _ (mem_at 0 rfl) | exact List.mem_append_right _ (mem_at 1 rfl) | exact List.mem_append_right _ (mem_at 2 rfl) | exact List.mem_append_right _ (mem_at 3 rfl) | exact List.mem_append_right _ (mem_at 4 rfl) | exact List.mem_append_right _ (mem_at 5 rfl) | exact List.mem_append_right _ (mem_at 6 rfl) | exact List.mem_append_right _ (mem_at 7 rfl) | exact List.mem_append_right _ (mem_at 8 rfl)) (strs_all xl)) (by omega) (by omega) [6] (fun _ => ⟨_, rfl⟩) ?_
                intro u1 hu1 _
                show GH _ _ _ _ _ _ _ [_, _, _, _, _, _, _, _, _] _
                rw [List.nil_append, Nat.zero_add] at hu1
                rw [Nat.zero_add]
                refine GH_all [7] (by kernel_rfl) (by decide) ?_
                refine (And.intro ?_ trivial)
                · skip
                  refine GHop_append (l1 := []) (s := u1) (nn := xl.length) (m := 1) (news := [strC a.s]) (bt := 16) rfl rfl rfl rfl Tryd.underlying24 Tryd.underlying24 (by first | exact .inl rfl | exact .inr ⟨_, rfl⟩) infLogFW_9 rfl rfl rfl rfl rfl rfl hu1 rfl (src_mem (List.mem_append_right _ (mem_at 1 rfl)) rfl rfl (by simp [strC, Value.oneCell'])) (by omega) (by omega) [6] (fun _ => ⟨_, rfl⟩) ?_
                  intro u2 hu2 _
                  show GH _ _ _ _ _ _ _ [_, _, _, _, _, _, _, _, _] _
                  refine GH_take 8 rfl rfl rfl rfl (by kernel_rfl) (by kernel_rfl) (by kernel_rfl) (fun _ _ => (V_fieldAddr (fo := 0) rfl Tryd.underlying92 rfl infLogFW_24 rfl rfl rfl)) ?_
                  refine GH_all [9] (by kernel_rfl) (by decide) ?_
                  refine (And.intro ?_ trivial)
                  · skip
                    refine GHop_put (l1 := [_, _, _, _, _, _, _]) (L' := [_, _, _, _, _, _, _, _, _]) rfl rfl rfl rfl (P_store1 rfl rfl rfl (mem_at 7 rfl) (by first | exact of_decide_eq_true rfl | omega | (simp [wCells, kCells, rgC, lgC, rdC, afC, sv, Sl.v]; done) | (simp [wCells, kCells, rgC, lgC, rdC, afC, sv, Sl.v]; omega) | (simp [wCells, kCells, rgC, lgC, rdC, afC, sv, Sl.v] at *; omega)) infLogFW_24 rfl rfl) rfl [6] rfl ?_
                    refine GH_done (by kernel_rfl) ?_
                    refine G_region (l := [0, 1, 2, 3]) rfl ?_
                    refine G_val rfl rfl rfl rfl (V_move rfl rfl) ?_
                    refine G_val rfl rfl rfl rfl (V_fieldAddr (fo := 2) rfl Tryd.underlying94 rfl infLogFW_3 rfl rfl rfl) ?_
                    refine G_val rfl rfl rfl rfl (V_load1 rfl rfl (List.mem_append_right _ (mem_at 6 rfl)) rfl Tryd.underlying3 rfl) ?_
                    refine G_callM (L2 := [_, _, _, _, _, _, _, _]) rfl rfl rfl rfl rfl rfl Tryd.call32 (dk_fuse d 24 lb lcap lcs1 uw1 (appK k 1 22 e po a.s) h1 a.z) [3] rfl subA_nil ?_
                    rintro v post ⟨rfl, rfl⟩
                    show G _ _ _ [_, _, _, _, _, _, _, _, _] _
                    refine G_done ?_
                    refine G_inBlock ?_
                    refine G_inBlock ?_
                    refine G_region (l := [0, 1, 2]) rfl ?_
                    refine G_val rfl rfl rfl rfl (V_move rfl rfl) ?_
                    first
                      | refine G_val rfl rfl rfl rfl ((V_add rfl rfl rfl).int (wrap_i64 (by omega))) ?_
                      | refine G_val rfl rfl rfl rfl (V_add rfl rfl rfl) ?_
                    refine G_val rfl rfl rfl rfl (V_assign rfl rfl) ?_
                    refine G_done ?_
                    refine G_sub ?_ [3, 6, 1, 0, 1, 1] ?_ (ih (i + 1, (appK k 1 22 e po a.s).setFuse a.z, lcs1, uw1, e, appA k 1 22 e po a.s, xl ++ [a.s], u2, su, g) ?_ ?_)
                    · (refine (And.intro ?_ (And.intro ?_ (And.intro ?_ (And.intro ?_ (And.intro ?_ (And.intro ?_ (And.intro ?_ trivial))))))) <;> first | rfl | exact slot_int (by omega) | exact slot_int (by simp))
                    · (first | exact ⟨_, rfl⟩ | (dsimp only; rw [List.length_append]; exact ⟨_, rfl⟩))
                    · exact ⟨by omega, setFuse_at h1 ha2, fs_fuse hF1 _, by show e ≤ i + 1 + 1; omega, by show (xl ++ [a.s]).length ≤ i + 1; rw [List.length_append, List.length_singleton]; omega, by show Own 1 u2 ((xl ++ [a.s]).map strC) (xl ++ [a.s]).length; rw [List.map_append, List.length_append]; exact hu2, by have := app_W k 1 22 e po a.s; show (appK k 1 22 e po a.s).W.length ≤ 21 * (i + 1); omega⟩
                    · (first | omega | (dsimp only; omega))
          · skip
            refine GHop_val rfl rfl rfl rfl (V_load1 rfl rfl (List.mem_append_right _ (mem_at 6 rfl)) rfl Tryd.underlying24 rfl) ?_
            refine GH_all [0] (by kernel_rfl) (by decide) ?_
            refine (And.intro ?_ trivial)
            · skip
              refine GHop_new rfl rfl rfl rfl (N_build0 rfl Tryd.underlying24 infLogFW_9) [6] (fun _ => ⟨_, rfl⟩) (fun b114 => ?_)
              refine GH_all [3] (by kernel_rfl) (by decide) ?_
              refine (And.intro ?_ trivial)
              · skip
                refine GHop_append (l1 := []) (s := ⟨some b114, #[], (0, 0), 0⟩) (nn := 0) (m := xl.length) (news := (xl.map strC)) (bt := 16) rfl rfl rfl rfl Tryd.underlying24 Tryd.underlying24 (by first | exact .inl rfl | exact .inr ⟨_, rfl⟩) infLogFW_9 rfl rfl rfl rfl rfl rfl (own_empty 1 b114) rfl (src_own hv (by first | exact List.mem_append_left _ (mem_at 0 rfl) | exact List.mem_append_right _ (mem_at 0 rfl) | exact List.mem_append_right _ (mem_at 1 rfl) | exact List.mem_append_right _ (mem_at 2 rfl) | exact List.mem_append_right _ (mem_at 3 rfl) | exact List.mem_append_right _ (mem_at 4 rfl) | exact List.mem_append_right _ (mem_at 5 rfl) | exact List.mem_append_right _ (mem_at 6 rfl) | exact List.mem_append_right _ (mem_at 7 rfl) | exact List.mem_append_right _ (mem_at 8 rfl)) (strs_all xl)) (by omega) (by omega) [6] (fun _ => ⟨_, rfl⟩) ?_
                intro u1 hu1 _
                show GH _ _ _ _ _ _ _ [_, _, _, _, _, _, _, _, _] _
                rw [List.nil_append, Nat.zero_add] at hu1
                rw [Nat.zero_add]
                refine GH_all [7] (by kernel_rfl) (by decide) ?_
                refine (And.intro ?_ trivial)
                · skip
                  refine GHop_append (l1 := []) (s := u1) (nn := xl.length) (m := 1) (news := [strC a.s]) (bt := 16) rfl rfl rfl rfl Tryd.underlying24 Tryd.underlying24 (by first | exact .inl rfl | exact .inr ⟨_, rfl⟩) infLogFW_9 rfl rfl rfl rfl rfl rfl hu1 rfl (src_mem (List.mem_append_right _ (mem_at 1 rfl)) rfl rfl (by simp [strC, Value.oneCell'])) (by omega) (by omega) [6] (fun _ => ⟨_, rfl⟩) ?_
                  intro u2 hu2 _
                  show GH _ _ _ _ _ _ _ [_, _, _, _, _, _, _, _, _] _
                  refine GH_take 8 rfl rfl rfl rfl (by kernel_rfl) (by kernel_rfl) (by kernel_rfl) (fun _ _ => (V_fieldAddr (fo := 0) rfl Tryd.underlying92 rfl infLogFW_24 rfl rfl rfl)) ?_
                  refine GH_all [9] (by kernel_rfl) (by decide) ?_
                  refine (And.intro ?_ trivial)
                  · skip
                    refine GHop_put (l1 := [_, _, _, _, _, _, _]) (L' := [_, _, _, _, _, _, _, _, _]) rfl rfl rfl rfl (P_store1 rfl rfl rfl (mem_at 7 rfl) (by first | exact of_decide_eq_true rfl | omega | (simp [wCells, kCells, rgC, lgC, rdC, afC, sv, Sl.v]; done) | (simp [wCells, kCells, rgC, lgC, rdC, afC, sv, Sl.v]; omega) | (simp [wCells, kCells, rgC, lgC, rdC, afC, sv, Sl.v] at *; omega)) infLogFW_24 rfl rfl) rfl [6] rfl ?_
                    refine GH_done (by kernel_rfl) ?_
                    refine G_region (l := [0, 1, 2, 3]) rfl ?_
                    refine G_val rfl rfl rfl rfl (V_move rfl rfl) ?_
                    refine G_val rfl rfl rfl rfl (V_fieldAddr (fo := 2) rfl Tryd.underlying94 rfl infLogFW_3 rfl rfl rfl) ?_
                    refine G_val rfl rfl rfl rfl (V_load1 rfl rfl (List.mem_append_right _ (mem_at 6 rfl)) rfl Tryd.underlying3 rfl) ?_
                    refine G_callM (L2 := [_, _, _, _, _, _, _, _]) rfl rfl rfl rfl rfl rfl Tryd.call32 (dk_fuse d 24 lb lcap lcs1 uw1 (appK k 1 22 e po a.s) h1 a.z) [3] rfl subA_nil ?_
                    rintro v post ⟨rfl, rfl⟩
                    show G _ _ _ [_, _, _, _, _, _, _, _, _] _
                    refine G_done ?_
                    refine G_inBlock ?_
                    refine G_inBlock ?_
                    refine G_region (l := [0, 1, 2]) rfl ?_
                    refine G_val rfl rfl rfl rfl (V_move rfl rfl) ?_
                    first
                      | refine G_val rfl rfl rfl rfl ((V_add rfl rfl rfl).int (wrap_i64 (by omega))) ?_
                      | refine G_val rfl rfl rfl rfl (V_add rfl rfl rfl) ?_
                    refine G_val rfl rfl rfl rfl (V_assign rfl rfl) ?_
                    refine G_done ?_
                    refine G_sub ?_ [3, 6, 1, 0, 1, 1] ?_ (ih (i + 1, (appK k 1 22 e po a.s).setFuse a.z, lcs1, uw1, e, appA k 1 22 e po a.s, xl ++ [a.s], u2, su, g) ?_ ?_)
                    · (refine (And.intro ?_ (And.intro ?_ (And.intro ?_ (And.intro ?_ (And.intro ?_ (And.intro ?_ (And.intro ?_ trivial))))))) <;> first | rfl | exact slot_int (by omega) | exact slot_int (by simp))
                    · (first | exact ⟨_, rfl⟩ | (dsimp only; rw [List.length_append]; exact ⟨_, rfl⟩))
                    · exact ⟨by omega, setFuse_at h1 ha2, fs_fuse hF1 _, by show e ≤ i + 1 + 1; omega, by show (xl ++ [a.s]).length ≤ i + 1; rw [List.length_append, List.length_singleton]; omega, by show Own 1 u2 ((xl ++ [a.s]).map strC) (xl ++ [a.s]).length; rw [List.map_append, List.length_append]; exact hu2, by have := app_W k 1 22 e po a.s; show (appK k 1 22 e po a.s).W.length ≤ 21 * (i + 1); omega⟩
                    · (first | omega | (dsimp only; omega))
      · skip
        refine G_region (l := [0, 1, 2, 3, 4, 5]) rfl ?_
        refine G_val rfl rfl rfl rfl (V_move rfl rfl) ?_
        refine G_val rfl rfl rfl rfl (V_fieldAddr (fo := 1) rfl Tryd.underlying94 rfl infLogFW_9 rfl rfl rfl) ?_
        refine G_val rfl rfl rfl rfl (V_load1 rfl rfl (List.mem_append_right _ (mem_at 0 rfl)) rfl Tryd.underlying9 rfl) ?_
        refine G_callM (L2 := [_, _, _]) rfl rfl rfl rfl rfl rfl Tryd.call41 (lg_append d 24 lb lcap cs u k hk0 g 1 22 e po a.s rg24 (by omega) (by omega) (by omega) (by omega) (by omega)) [1, 3, 3, 3] rfl subA_nil ?_
        rintro v post ⟨rfl, lcs1, uw1, h1, rfl⟩
        show G _ _ _ [_, _, _, _, _, _, _] _
        refine G_callM (L2 := [_, _, _, _, _, _, _]) rfl rfl rfl rfl rfl rfl Tryd.call37 (ll_num _) [] rfl subA_nil ?_
        rintro v post ⟨rfl, rfl⟩
        show G _ _ _ [_, _, _, _, _, _, _] _
        refine G_val rfl rfl rfl rfl (V_assign rfl rfl) ?_
        refine G_done ?_
        refine G_seq ?_
        refine G_seq ?_
        refine G_region (l := [0, 1, 2, 3, 4, 5]) rfl ?_
        refine G_val rfl rfl rfl rfl (V_move rfl rfl) ?_
        refine G_val rfl rfl rfl rfl (V_eql rfl rfl rfl) ?_
        refine G_val rfl rfl rfl rfl (V_move rfl rfl) ?_
        refine G_splitD 110 rfl (fun hc6 => ?_) (fun hc6 => ?_)
        · (first | (exact absurd rfl hc6) | (exfalso; omega))
        refine G_val rfl rfl rfl rfl (V_move rfl rfl) ?_
        refine G_val rfl rfl rfl rfl (V_eql rfl rfl rfl) ?_
        refine G_val rfl rfl rfl rfl (V_pickF rfl rfl rfl) ?_
        refine G_done ?_
        refine G_ifD rfl (fun hc7 => ?_) (fun hc7 => ?_)
        · (first | (exact absurd rfl hc7) | (exfalso; omega))
        refine G_skip ?_
        refine G_region (l := [0, 1, 2, 3]) rfl ?_
        refine G_val rfl rfl rfl rfl (V_move rfl rfl) ?_
        refine G_val rfl rfl rfl rfl (V_fieldAddr (fo := 2) rfl Tryd.underlying94 rfl infLogFW_3 rfl rfl rfl) ?_
        refine G_val rfl rfl rfl rfl (V_load1 rfl rfl (List.mem_append_right _ (mem_at 4 rfl)) rfl Tryd.underlying3 rfl) ?_
        refine G_callM (L2 := [_, _, _, _, _, _]) rfl rfl rfl rfl rfl rfl Tryd.call32 (dk_fuse d 24 lb lcap lcs1 uw1 (appK k 1 22 e po a.s) h1 a.z) [1] rfl subA_nil ?_
        rintro v post ⟨rfl, rfl⟩
        show G _ _ _ [_, _, _, _, _, _, _] _
        refine G_done ?_
        refine G_inBlock ?_
        refine G_inBlock ?_
        refine G_region (l := [0, 1, 2]) rfl ?_
        refine G_val rfl rfl rfl rfl (V_move rfl rfl) ?_
        first
          | refine G_val rfl rfl rfl rfl ((V_add rfl rfl rfl).int (wrap_i64 (by omega))) ?_
          | refine G_val rfl rfl rfl rfl (V_add rfl rfl rfl) ?_
        refine G_val rfl rfl rfl rfl (V_assign rfl rfl) ?_
        refine G_done ?_
        refine G_sub ?_ [1, 4, 4, 0, 0, 0] ?_ (ih (i + 1, (appK k 1 22 e po a.s).setFuse a.z, lcs1, uw1, e, appA k 1 22 e po a.s, xl, v, su, g) ?_ ?_)
        · (refine (And.intro ?_ (And.intro ?_ (And.intro ?_ (And.intro ?_ (And.intro ?_ (And.intro ?_ (And.intro ?_ trivial))))))) <;> first | rfl | exact slot_int (by omega) | exact slot_int (by simp))
        · (first | exact ⟨_, rfl⟩ | (dsimp only; rw [List.length_append]; exact ⟨_, rfl⟩))
        · exact ⟨by omega, setFuse_at h1 ha2, fs_fuse hF1 _, by show e ≤ i + 1 + 1; omega, by show xl.length ≤ i + 1; omega, hv, by have := app_W k 1 22 e po a.s; show (appK k 1 22 e po a.s).W.length ≤ 21 * (i + 1); omega⟩
        · (first | omega | (dsimp only; omega))
    · skip
      refine G_region (l := [0, 1]) rfl ?_
      refine G_val rfl rfl rfl rfl (V_eql rfl rfl rfl) ?_
      refine G_val rfl rfl rfl rfl (V_assign rfl rfl) ?_
      refine G_done ?_
      refine G_ifD rfl (fun hc5 => ?_) (fun hc5 => ?_)
      · (first | (exact absurd rfl hc5) | (exfalso; omega))
      refine G_seq ?_
      refine G_region (l := [0, 1]) rfl ?_
      refine G_val rfl rfl rfl rfl (V_eql rfl rfl rfl) ?_
      refine G_val rfl rfl rfl rfl (V_assign rfl rfl) ?_
      refine G_done ?_
      refine G_ifD rfl (fun hc6 => ?_) (fun hc6 => ?_)
      rotate_left
      · (first | (exact absurd rfl hc6) | (exfalso; omega))
      refine G_seq ?_
      rcases fs_sync hF with ⟨hE, hF1⟩ | ⟨hE, hF1⟩
      · skip
        refine G_region (l := [0, 1, 2, 3]) rfl ?_
        refine G_val rfl rfl rfl rfl (V_move rfl rfl) ?_
        refine G_callM (L2 := [_, _, _, _]) rfl rfl rfl rfl rfl rfl Tryd.call31 ((dk_sync d 24 lb lcap cs u k hk0).weaken (fun v post h => by rw [hE] at h; exact h)) [4, 4, 4] rfl subA_nil ?_
        rintro v post ⟨rfl, lcs1, uw1, h1, rfl⟩
        show G _ _ _ [_, _, _, _, _, _, _] _
        refine G_callM (L2 := [_, _, _, _, _, _, _]) rfl rfl rfl rfl rfl rfl Tryd.call37 (ll_num _) [] rfl subA_nil ?_
        rintro v post ⟨rfl, rfl⟩
        show G _ _ _ [_, _, _, _, _, _, _] _
        refine G_val rfl rfl rfl rfl (V_eql rfl rfl rfl) ?_
        refine G_done ?_
        refine G_ifD rfl (fun hc7 => ?_) (fun hc7 => ?_)
        rotate_left
        · (first | (exact absurd rfl hc7) | (exfalso; omega))
        refine G_region (l := [0, 1, 2, 3, 4]) rfl ?_
        refine G_val rfl rfl rfl rfl (V_fieldAddr (fo := 0) rfl Tryd.underlying92 rfl infLogFW_24 rfl rfl rfl) ?_
        refine G_val rfl rfl rfl rfl (V_load1 rfl rfl (List.mem_append_right _ (mem_at 5 rfl)) rfl Tryd.underlying24 rfl) ?_
        refine G_val rfl rfl rfl rfl (V_len rfl rfl Tryd.underlying24 rfl) ?_
        refine G_val rfl rfl rfl rfl (V_fieldAddr (fo := 1) rfl Tryd.underlying92 rfl infLogFW_3 rfl rfl rfl) ?_
        refine G_put (l1 := [_, _, _, _, _]) (L' := [_, _, _, _, _, _, _]) rfl rfl rfl rfl (P_store1 rfl rfl rfl (mem_at 5 rfl) (by first | exact of_decide_eq_true rfl | omega | (simp [wCells, kCells, rgC, lgC, rdC, afC, sv, Sl.v]; done) | (simp [wCells, kCells, rgC, lgC, rdC, afC, sv, Sl.v]; omega) | (simp [wCells, kCells, rgC, lgC, rdC, afC, sv, Sl.v] at *; omega)) infLogFW_3 rfl rfl) rfl ?_
        refine G_done ?_
        refine G_inBlock ?_
        refine G_inBlock ?_
        refine G_region (l := [0, 1, 2]) rfl ?_
        refine G_val rfl rfl rfl rfl (V_move rfl rfl) ?_
        first
          | refine G_val rfl rfl rfl rfl ((V_add rfl rfl rfl).int (wrap_i64 (by omega))) ?_
          | refine G_val rfl rfl rfl rfl (V_add rfl rfl rfl) ?_
        refine G_val rfl rfl rfl rfl (V_assign rfl rfl) ?_
        refine G_done ?_
        refine G_sub ?_ [4, 4, 4, 0, 0, 0] ?_ (ih (i + 1, k.sync, lcs1, uw1, e, po, xl, v, xl.length, g) ?_ ?_)
        · (refine (And.intro ?_ (And.intro ?_ (And.intro ?_ (And.intro ?_ (And.intro ?_ (And.intro ?_ (And.intro ?_ trivial))))))) <;> first | rfl | exact slot_int (by omega) | exact slot_int (by simp))
        · (first | exact ⟨_, rfl⟩ | (dsimp only; rw [List.length_append]; exact ⟨_, rfl⟩))
        · exact ⟨by omega, h1, hF1, by show e ≤ i + 1 + 1; omega, by show xl.length ≤ i + 1; omega, hv, by have := sync_W k; show k.sync.W.length ≤ 21 * (i + 1); omega⟩
        · (first | omega | (dsimp only; omega))
      · skip
        refine G_region (l := [0, 1, 2, 3]) rfl ?_
        refine G_val rfl rfl rfl rfl (V_move rfl rfl) ?_
        refine G_callM (L2 := [_, _, _, _]) rfl rfl rfl rfl rfl rfl Tryd.call31 ((dk_sync d 24 lb lcap cs u k hk0).weaken (fun v post h => by rw [hE] at h; exact h)) [4, 4, 4] rfl subA_nil ?_
        rintro v post ⟨rfl, lcs1, uw1, h1, rfl⟩
        show G _ _ _ [_, _, _, _, _, _, _] _
        refine G_callM (L2 := [_, _, _, _, _, _, _]) rfl rfl rfl rfl rfl rfl Tryd.call37 (ll_num _) [] rfl subA_nil ?_
        rintro v post ⟨rfl, rfl⟩
        show G _ _ _ [_, _, _, _, _, _, _] _
        refine G_val rfl rfl rfl rfl (V_eql rfl rfl rfl) ?_
        refine G_done ?_
        refine G_ifD rfl (fun hc7 => ?_) (fun hc7 => ?_)
        · (first | (exact absurd rfl hc7) | (exfalso; omega))
        refine G_skip ?_
        refine G_inBlock ?_
        refine G_inBlock ?_
        refine G_region (l := [0, 1, 2]) rfl ?_
        refine G_val rfl rfl rfl rfl (V_move rfl rfl) ?_
        first
          | refine G_val rfl rfl rfl rfl ((V_add rfl rfl rfl).int (wrap_i64 (by omega))) ?_
          | refine G_val rfl rfl rfl rfl (V_add rfl rfl rfl) ?_
        refine G_val rfl rfl rfl rfl (V_assign rfl rfl) ?_
        refine G_done ?_
        refine G_sub ?_ [4, 4, 4, 0, 0, 0] ?_ (ih (i + 1, k.sync, lcs1, uw1, e, po, xl, v, su, g) ?_ ?_)
        · (refine (And.intro ?_ (And.intro ?_ (And.intro ?_ (And.intro ?_ (And.intro ?_ (And.intro ?_ (And.intro ?_ trivial))))))) <;> first | rfl | exact slot_int (by omega) | exact slot_int (by simp))
        · (first | exact ⟨_, rfl⟩ | (dsimp only; rw [List.length_append]; exact ⟨_, rfl⟩))
        · exact ⟨by omega, h1, hF1, by show e ≤ i + 1 + 1; omega, by show xl.length ≤ i + 1; omega, hv, by have := sync_W k; show k.sync.W.length ≤ 21 * (i + 1); omega⟩
        · (first | omega | (dsimp only; omega))
    · skip
      refine G_region (l := [0, 1]) rfl ?_
      refine G_val rfl rfl rfl rfl (V_eql rfl rfl rfl) ?_
      refine G_val rfl rfl rfl rfl (V_assign rfl rfl) ?_
      refine G_done ?_
      refine G_ifD rfl (fun hc5 => ?_) (fun hc5 => ?_)
      · (first | (exact absurd rfl hc5) | (exfalso; omega))
      refine G_seq ?_
      refine G_region (l := [0, 1]) rfl ?_
      refine G_val rfl rfl rfl rfl (V_eql rfl rfl rfl) ?_
      refine G_val rfl rfl rfl rfl (V_assign rfl rfl) ?_
      refine G_done ?_
      refine G_ifD rfl (fun hc6 => ?_) (fun hc6 => ?_)
      · (first | (exact absurd rfl hc6) | (exfalso; omega))
      refine G_seq ?_
      refine G_region (l := [0, 1, 2, 3, 4, 5]) rfl ?_
      refine G_val rfl rfl rfl rfl (V_move rfl rfl) ?_
      refine G_val rfl rfl rfl rfl (V_fieldAddr (fo := 3) rfl Tryd.underlying94 rfl infLogFW_59 rfl rfl rfl) ?_
      refine G_val rfl rfl rfl rfl (V_load1 rfl rfl (List.mem_append_right _ (mem_at 0 rfl)) rfl Tryd.underlying59 rfl) ?_
      refine G_callM (L2 := [_, _, _, _]) rfl rfl rfl rfl rfl rfl Tryd.call33 (crash_any d 24 lb lcap cs u k hk0 a hao) [4, 4, 4] rfl (subA_cons (List.mem_append_left _ (List.mem_cons_of_mem _ (List.mem_map.2 ⟨a, List.mem_of_getElem? ha, rfl⟩))) subA_nil) ?_
      rintro v post ⟨rfl, lcs1, h1, rfl⟩
      show G _ _ _ [_, _, _, _, _, _, _] _
      refine G_callM (L2 := [_, _, _, _, _, _, _]) rfl rfl rfl rfl rfl rfl Tryd.call37 (ll_num _) [] rfl subA_nil ?_
      rintro v post ⟨rfl, rfl⟩
      show G _ _ _ [_, _, _, _, _, _, _] _
      refine G_val rfl rfl rfl rfl (V_assign rfl rfl) ?_
      refine G_done ?_
      refine G_seq ?_
      refine G_region (l := [0, 1, 2, 3, 4, 5, 6, 7, 8, 9]) rfl ?_
      refine G_val rfl rfl rfl rfl (V_move rfl rfl) ?_
      refine G_val rfl rfl rfl rfl (V_move rfl rfl) ?_
      refine G_callM (L2 := [_, _, _, _, _, _, _]) rfl rfl rfl rfl rfl rfl Tryd.call48 (lg_replay d 24 lb lcap lcs1 slNil (k.crash a.ks) h1 1 22 1 e rg24 (crash_live _ _) (by omega) (by omega) (by omega)) [] rfl (subA_cons (List.mem_append_right _ (mem_at 0 rfl)) (subA_cons (List.mem_append_right _ (mem_at 1 rfl)) (subA_cons (List.mem_append_right _ (mem_at 2 rfl)) subA_nil))) ?_
      rintro v post ⟨wv, hwv, rfl, rfl⟩
      show G _ _ _ [_, _, _, _, _, _, _, _] _
      refine G_val rfl rfl rfl rfl (V_move rfl rfl) ?_
      refine G_val rfl rfl rfl rfl (V_extract rfl rfl rfl) ?_
      refine G_val rfl rfl rfl rfl (V_extract rfl rfl rfl) ?_
      refine G_val rfl rfl rfl rfl (V_extract rfl rfl rfl) ?_
      refine G_val rfl rfl rfl rfl (V_assign rfl rfl) ?_
      refine G_val rfl rfl rfl rfl (V_assign rfl rfl) ?_
      refine G_val rfl rfl rfl rfl (V_assign rfl rfl) ?_
      refine G_done ?_
      refine G_seq ?_
      refine G_seq ?_
      obtain ⟨c1x, c2x, c3x, c4x, c5x⟩ := fs_crash hF a.ks h1.ok rfl
      have hwl := hwv.le
      have hwm := hwv.max
      refine G_region (l := [0, 1, 2, 3, 4, 5, 6, 7, 8, 9, 10, 11, 12]) rfl ?_
      refine G_val rfl rfl rfl rfl (V_move rfl rfl) ?_
      refine G_val rfl rfl rfl rfl (V_neq rfl rfl rfl) ?_
      refine G_val rfl rfl rfl rfl (V_move rfl rfl) ?_
      refine G_splitD 73 rfl (fun hc7 => ?_) (fun hc7 => ?_)
      · (first | (exact absurd rfl hc7) | (exfalso; omega))
      refine G_val rfl rfl rfl rfl (V_move rfl rfl) ?_
      refine G_callM (L2 := [_, _, _, _, _, _, _, _]) rfl rfl rfl rfl rfl rfl Tryd.call37 (ll_num _) [] rfl subA_nil ?_
      rintro v post ⟨rfl, rfl⟩
      show G _ _ _ [_, _, _, _, _, _, _, _] _
      refine G_val rfl rfl rfl rfl (V_neq rfl rfl rfl) ?_
      refine G_val rfl rfl rfl rfl (V_pickF rfl rfl rfl) ?_
      refine G_val rfl rfl rfl rfl (V_move rfl rfl) ?_
      refine G_splitD 78 rfl (fun hc8 => ?_) (fun hc8 => ?_)
      · (first | (exact absurd rfl hc8) | (exfalso; omega))
      first
        | refine G_val rfl rfl rfl rfl (V_loadW (s := 2) rfl rfl (List.mem_append_right _ (mem_at 6 rfl)) Tryd.underlying92 rfl infLogFW_92 rfl (by first | rfl | (simp [bcells_length, wCells, kCells, rgC, lgC, rdC, afC, sv, Sl.v]; done) | (simp [bcells_length, wCells, kCells, rgC, lgC, rdC, afC, sv, Sl.v]; omega) | (simp [bcells_length, *, wCells, kCells, rgC, lgC, rdC, afC, sv, Sl.v]; done))) ?_
        | refine G_val rfl rfl rfl rfl (V_loadA (s := 2) rfl rfl (List.mem_append_right _ (mem_at 6 rfl)) Tryd.underlying92 rfl infLogFW_92 rfl rfl (by first | rfl | (simp [bcells_length, wCells, kCells, rgC, lgC, rdC, afC, sv, Sl.v]; done) | (simp [bcells_length, wCells, kCells, rgC, lgC, rdC, afC, sv, Sl.v]; omega) | (simp [bcells_length, *, wCells, kCells, rgC, lgC, rdC, afC, sv, Sl.v]; done))) ?_
      refine G_val rfl rfl rfl rfl (V_move rfl rfl) ?_
      refine G_callM (L2 := [_, _, _, _, _, _, _, _]) rfl rfl rfl rfl rfl rfl Tryd.call52 (st_right v wv xl (rp (rdB (k.crash a.ks) 1 22) e 1 0).1 hv hwv su c1x c2x c3x) [] rfl (subA_cons (List.mem_append_right _ (mem_at 7 rfl)) (subA_cons (List.mem_append_right _ (mem_at 0 rfl)) subA_nil)) ?_
      rintro v post ⟨rfl, rfl⟩
      show G _ _ _ [_, _, _, _, _, _, _, _] _
      refine G_val rfl rfl rfl rfl (V_not rfl rfl) ?_
      refine G_val rfl rfl rfl rfl (V_pickF rfl rfl rfl) ?_
      refine G_done ?_
      refine G_else rfl ?_
      refine G_skip ?_
      refine G_seq ?_
      clear c3x
      refine G_region (l := [0, 1, 2, 3, 4]) rfl ?_
      refine G_val rfl rfl rfl rfl (V_move rfl rfl) ?_
      refine G_val rfl rfl rfl rfl (V_move rfl rfl) ?_
      refine G_val rfl rfl rfl rfl (V_len rfl rfl Tryd.underlying24 rfl) ?_
      refine G_val rfl rfl rfl rfl (V_buildS (cs := [_, _]) rfl Tryd.underlying92 infLogFW_92 rfl plcLogFW_92 rfl rfl rfl) ?_
      refine G_put (l1 := [_, _, _, _, _, _]) (L' := [_, _, _, _, _, _, _, _]) rfl rfl rfl rfl (P_storeA (s := 2) rfl rfl rfl (mem_at 6 rfl) (by first | rfl | (simp [bcells_length, wCells, kCells, rgC, lgC, rdC, afC, sv, Sl.v]; done) | (simp [bcells_length, wCells, kCells, rgC, lgC, rdC, afC, sv, Sl.v]; omega) | (simp [bcells_length, *, wCells, kCells, rgC, lgC, rdC, afC, sv, Sl.v]; done)) infLogFW_92 rfl (by first | rfl | (simp [bcells_length, wCells, kCells, rgC, lgC, rdC, afC, sv, Sl.v]; done) | (simp [bcells_length, wCells, kCells, rgC, lgC, rdC, afC, sv, Sl.v]; omega) | (simp [bcells_length, *, wCells, kCells, rgC, lgC, rdC, afC, sv, Sl.v]; done)) (by first | rfl | exact bcells_all _ | (simp [Value.oneCell', wCells, kCells, rgC, lgC, rdC, afC, sv, Sl.v]; done) | (simp [Value.oneCell', *, wCells, kCells, rgC, lgC, rdC, afC, sv, Sl.v]; done))) rfl ?_
      refine G_done ?_
      refine G_seq ?_
      refine G_region (l := [0, 1, 2]) rfl ?_
      refine G_val rfl rfl rfl rfl (V_move rfl rfl) ?_
      refine G_val rfl rfl rfl rfl (Val.int (e' := ((e + 1 : Nat) : Int)) (V_add rfl rfl rfl) (by rw [wrap_u32 (by omega)]; omega)) ?_
      refine G_val rfl rfl rfl rfl (V_assign rfl rfl) ?_
      refine G_done ?_
      refine G_seq ?_
      refine G_region (l := [0, 1, 2, 3, 4, 5, 6, 7, 8]) rfl ?_
      refine G_val rfl rfl rfl rfl (V_move rfl rfl) ?_
      refine G_val rfl rfl rfl rfl (V_move rfl rfl) ?_
      refine G_val rfl rfl rfl rfl (V_move rfl rfl) ?_
      refine G_callM (L2 := [_, _, _, _, _, _, _, _]) rfl rfl rfl rfl rfl rfl Tryd.call35 ((lg_new d 24 lb lcap lcs1 slNil (k.crash a.ks) h1 1 22 (by omega) (by omega) (by omega) (by omega) (e + 1) ((rp (rdB (k.crash a.ks) 1 22) e 1 0).2 : Int) (by omega) (by omega) (by omega)).weaken (fun v post h => h.elim (fun x => absurd rg24 x.1) (fun x => x.elim (fun y => absurd y.2.1 (by omega)) (fun z => z.2.2.2.2)))) [] rfl (subA_cons (List.mem_append_right _ (mem_at 1 rfl)) subA_nil) ?_
      rintro v post ⟨g, rfl, rfl⟩
      show G _ _ _ [_, _, _, _, _, _, _, _, _] _
      refine G_val rfl rfl rfl rfl (V_move rfl rfl) ?_
      refine G_val rfl rfl rfl rfl (V_extract rfl rfl rfl) ?_
      refine G_val rfl rfl rfl rfl (V_extract rfl rfl rfl) ?_
      refine G_val rfl rfl rfl rfl (V_assign rfl rfl) ?_
      refine G_val rfl rfl rfl rfl (V_assign rfl rfl) ?_
      refine G_done ?_
      refine G_seq ?_
      refine G_seq ?_
      refine G_region (l := [0, 1, 2]) rfl ?_
      refine G_val rfl rfl rfl rfl (V_move rfl rfl) ?_
      refine G_callM (L2 := [_, _, _, _, _, _, _, _, _]) rfl rfl rfl rfl rfl rfl Tryd.call37 (ll_num _) [] rfl subA_nil ?_
      rintro v post ⟨rfl, rfl⟩
      show G _ _ _ [_, _, _, _, _, _, _, _, _] _
      refine G_val rfl rfl rfl rfl (V_neq rfl rfl rfl) ?_
      refine G_done ?_
      refine G_ifD rfl (fun hc9 => ?_) (fun hc9 => ?_)
      · (first | (exact absurd rfl hc9) | (exfalso; omega))
      refine G_skip ?_
      refine G_region (l := [0, 1]) rfl ?_
      refine G_val rfl rfl rfl rfl (V_move rfl rfl) ?_
      refine G_val rfl rfl rfl rfl (V_assign rfl rfl) ?_
      refine G_done ?_
      refine G_inBlock ?_
      refine G_inBlock ?_
      refine G_region (l := [0, 1, 2]) rfl ?_
      refine G_val rfl rfl rfl rfl (V_move rfl rfl) ?_
      first
        | refine G_val rfl rfl rfl rfl ((V_add rfl rfl rfl).int (wrap_i64 (by omega))) ?_
        | refine G_val rfl rfl rfl rfl (V_add rfl rfl rfl) ?_
      refine G_val rfl rfl rfl rfl (V_assign rfl rfl) ?_
      refine G_done ?_
      refine G_sub ?_ [0, 6, 0, 0, 0, 0] ?_ (ih (i + 1, (k.crash a.ks), lcs1, slNil, e + 1, (rp (rdB (k.crash a.ks) 1 22) e 1 0).2, (rp (rdB (k.crash a.ks) 1 22) e 1 0).1, wv, (rp (rdB (k.crash a.ks) 1 22) e 1 0).1.length, g) ?_ ?_)
      · (refine (And.intro ?_ (And.intro ?_ (And.intro ?_ (And.intro ?_ (And.intro ?_ (And.intro ?_ (And.intro ?_ trivial))))))) <;> first | rfl | exact slot_int (by omega) | exact slot_int (by simp))
      · (first | exact ⟨_, rfl⟩ | (dsimp only; rw [List.length_append]; exact ⟨_, rfl⟩))
      · exact ⟨by omega, h1, c5x (by omega), by show e + 1 ≤ i + 1 + 1; omega, by show (rp (rdB (k.crash a.ks) 1 22) e 1 0).1.length ≤ i + 1; omega, hwv, by show (k.crash a.ks).W.length ≤ 21 * (i + 1); rw [show (k.crash a.ks).W = [] from crash_W0 k a.ks]; exact Nat.zero_le _⟩
      · (first | omega | (dsimp only; omega))
  refine G_exit rfl ?_
  refine G_seq ?_
  obtain ⟨hb1, hb2, hb3⟩ := hF.b
  have hvl := hv.le
  have hvm := hv.max
  refine G_addNone (.cells #[] 132 (0, 0)) ?_
  refine G_region (l := [0, 1]) rfl ?_
  refine G_val rfl rfl rfl rfl (V_move rfl rfl) ?_
  refine G_callM (L2 := [_, _, _, _]) rfl rfl rfl rfl rfl rfl Tryd.call33 (dk_crash d 24 lb lcap cs u k hk0 none 0 0 #[] 132 (0, 0) [] (sees_nil0 2)) [4, 4, 4] rfl (subA_cons (List.mem_append_right _ (mem_at 0 rfl)) subA_nil) ?_
  rintro v post ⟨rfl, lcs1, h1, rfl⟩
  show G _ _ _ [_, _, _, _, _, _, _] _
  refine G_done ?_
  refine G_seq ?_
  refine G_region (l := [0, 1, 2, 3, 4, 5, 6, 7, 8, 9]) rfl ?_
  refine G_val rfl rfl rfl rfl (V_move rfl rfl) ?_
  refine G_val rfl rfl rfl rfl (V_move rfl rfl) ?_
  refine G_callM (L2 := [_, _, _, _, _, _, _]) rfl rfl rfl rfl rfl rfl Tryd.call48 (lg_replay d 24 lb lcap lcs1 slNil (k.crash []) h1 1 22 1 e rg24 (crash_live _ _) (by omega) (by omega) (by omega)) [] rfl (subA_cons (List.mem_append_right _ (mem_at 0 rfl)) (subA_cons (List.mem_append_right _ (mem_at 1 rfl)) (subA_cons (List.mem_append_right _ (mem_at 2 rfl)) subA_nil))) ?_
  rintro v post ⟨wv, hwv, rfl, rfl⟩
  show G _ _ _ [_, _, _, _, _, _, _, _] _
  refine G_val rfl rfl rfl rfl (V_move rfl rfl) ?_
  refine G_val rfl rfl rfl rfl (V_extract rfl rfl rfl) ?_
  refine G_val rfl rfl rfl rfl (V_extract rfl rfl rfl) ?_
  refine G_val rfl rfl rfl rfl (V_extract rfl rfl rfl) ?_
  refine G_val rfl rfl rfl rfl (V_assign rfl rfl) ?_
  refine G_val rfl rfl rfl rfl (V_assign rfl rfl) ?_
  refine G_val rfl rfl rfl rfl (V_assign rfl rfl) ?_
  refine G_done ?_
  refine G_seq ?_
  obtain ⟨c1x, c2x, c3x, c4x, c5x⟩ := fs_crash hF [] h1.ok rfl
  have hwl := hwv.le
  have hwm := hwv.max
  refine G_region (l := [0, 1, 2, 3, 4, 5, 6, 7, 8, 9, 10, 11]) rfl ?_
  refine G_val rfl rfl rfl rfl (V_move rfl rfl) ?_
  refine G_callM (L2 := [_, _, _, _, _, _, _, _]) rfl rfl rfl rfl rfl rfl Tryd.call37 (ll_num _) [] rfl subA_nil ?_
  rintro v post ⟨rfl, rfl⟩
  show G _ _ _ [_, _, _, _, _, _, _, _] _
  refine G_val rfl rfl rfl rfl (V_eql rfl rfl rfl) ?_
  refine G_val rfl rfl rfl rfl (V_move rfl rfl) ?_
  refine G_splitD 149 rfl (fun hc3 => ?_) (fun hc3 => ?_)
  rotate_left
  · (first | (exact absurd rfl hc3) | (exfalso; omega))
  first
    | refine G_val rfl rfl rfl rfl (V_loadW (s := 2) rfl rfl (List.mem_append_right _ (mem_at 6 rfl)) Tryd.underlying92 rfl infLogFW_92 rfl (by first | rfl | (simp [bcells_length, wCells, kCells, rgC, lgC, rdC, afC, sv, Sl.v]; done) | (simp [bcells_length, wCells, kCells, rgC, lgC, rdC, afC, sv, Sl.v]; omega) | (simp [bcells_length, *, wCells, kCells, rgC, lgC, rdC, afC, sv, Sl.v]; done))) ?_
    | refine G_val rfl rfl rfl rfl (V_loadA (s := 2) rfl rfl (List.mem_append_right _ (mem_at 6 rfl)) Tryd.underlying92 rfl infLogFW_92 rfl rfl (by first | rfl | (simp [bcells_length, wCells, kCells, rgC, lgC, rdC, afC, sv, Sl.v]; done) | (simp [bcells_length, wCells, kCells, rgC, lgC, rdC, afC, sv, Sl.v]; omega) | (simp [bcells_length, *, wCells, kCells, rgC, lgC, rdC, afC, sv, Sl.v]; done))) ?_
  refine G_val rfl rfl rfl rfl (V_move rfl rfl) ?_
  refine G_callM (L2 := [_, _, _, _, _, _, _, _]) rfl rfl rfl rfl rfl rfl Tryd.call52 (st_right v wv xl (rp (rdB (k.crash []) 1 22) e 1 0).1 hv hwv su c1x c2x c3x) [] rfl (subA_cons (List.mem_append_right _ (mem_at 7 rfl)) (subA_cons (List.mem_append_right _ (mem_at 0 rfl)) subA_nil)) ?_
  rintro v post ⟨rfl, rfl⟩
  show G _ _ _ [_, _, _, _, _, _, _, _] _
  refine G_val rfl rfl rfl rfl (V_pickT rfl rfl rfl) ?_
  refine G_val rfl rfl rfl rfl (V_move rfl rfl) ?_
  refine G_callM (L2 := [_, _, _, _, _, _, _, _]) rfl rfl rfl rfl rfl rfl Tryd.call34 (ll_live) [] rfl subA_nil ?_
  rintro v post ⟨rfl, rfl⟩
  show G _ _ _ [_, _, _, _, _, _, _, _] _
  refine G_val rfl rfl rfl rfl (V_pickT rfl rfl rfl) ?_
  refine G_val rfl rfl rfl rfl (V_assign rfl rfl) ?_
  refine G_done ?_
  refine G_ret (post := []) Tryd.func11 rfl (RVs_cons (RV_tmp rfl) RVs_nil) [] rfl ?_
  dsimp only [packed]
  exact ⟨rfl, rfl⟩

end
end Go.Proofs.YtbblkgdejgoncaaDoor

/- From a law's walk to the form of a row that lists package-level variables: one lemma for all laws of such a seat. -/
namespace Go.Proofs.YtbblkgdejgoncaaDoor
open Go.ChangeShapes Go.WideShapes Go.ChangeAt Go.RowKit

set_option maxRecDepth 100000 in
theorem law_end {f : FuncId} {F : Func} {s : ChangeSpec} {H : Type} {enc : TypeId × Value → H}
    (hvars : s.vars = []) (hrt : F.resultTypes.toList = [4]) (hrs : F.resultTypes.size = 1)
    (hread : ∀ t ∈ F.params.toList, Tryd.prog.readableRec t = true ∧ t < Tryd.prog.types.size)
    (hspec : ∀ ds : List (DataW H), ds.length = F.params.toList.length → s.fn H (ds ++ []) = { results := [.lit (.bool true)], args := ds })
    (walk : LawWalk f F) (W : World) (base : Nat) (args : Array Value) (ds gs : List (DataW H)) (before : List MemPlace)
    (hval : ∀ (j : Nat) t v, F.params[j]? = some t → args[j]? = some v → Value.okWide Tryd.prog W .any base t v)
    (hW : DataW.Whole enc Tryd.prog F.params.toList s.vars false W args.toList ds gs before) :
    Calls Tryd.prog f args W fun e W' => ∃ v, e = .returned v ∧ s.post enc Tryd.prog F false true false false W args v W' := by
  have hW' := hW
  obtain ⟨p, q, hA, hV, rfl, hfz, hnd⟩ := hW
  rw [hvars] at hV
  obtain ⟨rfl, rfl⟩ := trodVars_none hV
  have hlen := trodAll_len _ _ _ _ hA
  refine (walk H enc W base args ds p hval hA).mono fun e W' ⟨he, hb⟩ => ?_
  subst he
  refine ⟨_, rfl, ds, [], _, [], p, [], hW', ?_, ?_, ?_, hb.frame _, fun h => by cases h⟩
  rotate_left
  · rw [hspec ds hlen]
    exact trodAll_below Tryd.laidOutK hb _ _ _ _ hread hA
  · rw [hvars, hspec ds hlen]
    rfl
  · rw [hspec ds hlen, hrt, hrs]
    exact trodAll_mk1 (shut_bool Tryd.underlying4 _)
end Go.Proofs.YtbblkgdejgoncaaDoor

set_option linter.unusedSimpArgs false
set_option linter.unusedVariables false
namespace Go.Proofs.YtbblkgdejgoncaaDoor
open Go.Deep Go.ChangeShapes Go.WideShapes Go.ChangeAt Go.RowKit

section



theorem has_map {W : World} : ∀ (acs : List Af), (∀ a ∈ acs, ∀ b, a.ob = some b → W.heap[b]? = some (.cells a.cs a.T a.fr)) → Has W (acs.map afK) []
  | [], _ => has_nil _
  | a :: r, h => has_cons (has_map r (fun x hx => h x (by simp [hx]))) (h a (by simp))
theorem reads_slice2 {P : Program} {W : World} {t e : TypeId} {cs : List Value} {sz : Nat} (h : Reads P W t cs) (ht : P.underlying t = some (.slice e)) (hsz : P.cellsOf e = sz) (hz : 0 < sz) {α : Type} [Inhabited α] (f : α → List Value) (hf : ∀ a, (f a).length = sz) (good : α → Prop)
    (hel : ∀ es, es.length = sz → Reads P W e es → ∃ a, es = f a ∧ good a) :
    ∃ (p : Option Addr) (ob : Option Nat) (off cap : Nat) (c : Array Value) (T : TypeId) (fr : Nat × Nat) (l : List α), cs = [.slice p l.length cap] ∧ l.length ≤ cap ∧ cap ≤ 9223372036854775807 ∧ ((p = ob.map (fun b => ⟨b, off, none⟩) ∧ Sees sz ob off cap c (l.flatMap f) l.length) ∨ (l = [] ∧ cap = 0)) ∧ ∀ b, ob = some b → W.heap[b]? = some (.cells c T fr) := by
  obtain ⟨H, enc, n, x, h⟩ := h
  rcases Go.Deep.open_slice ht h with ⟨h0, _⟩ | ⟨a, len, cap, m, n, D, Pl, hcs, _, hl, hm, hmm, _, hx⟩
  · exact ⟨none, none, 0, 0, #[], 0, (0, 0), [], h0, Nat.le_refl _, by omega, .inr ⟨rfl, rfl⟩, fun b hb => by cases hb⟩
  · simp at hmm
    subst hmm
    have hm' : m ≤ 9223372036854775807 := by unfold maxLen at hm; omega
    rcases Nat.eq_zero_or_pos m with h0 | hpos
    · subst h0
      have hl0 : len = 0 := by omega
      subst hl0
      exact ⟨some a, none, 0, 0, #[], 0, (0, 0), [], hcs, Nat.le_refl _, by omega, .inr ⟨rfl, rfl⟩, fun b hb => by cases hb⟩
    · obtain ⟨bb, off, spot⟩ := a
      have hex : spot = none ∧ ∃ c T fr, W.heap[bb]? = some (.cells c T fr) := by
        obtain ⟨es, h1, _⟩ := hx 0 hpos
        rw [hsz] at h1
        obtain ⟨_, hlen, hc⟩ := World.cells?_some h1
        have h2 := hc 0 hz
        rw [List.getElem?_eq_getElem (by omega)] at h2
        cases spot with
        | none =>
          rw [addr_add, addr_add] at h2
          unfold World.cell? at h2
          split at h2
          · rename_i c T fr hb
            exact ⟨rfl, c, T, fr, hb⟩
          · cases h2
        | some s =>
          exfalso
          unfold World.cell? at h2
          split at h2
          · simp [Addr.add] at h2
          · cases h2
      obtain ⟨rfl, c, T, fr, hb⟩ := hex
      have hok : ∀ i, i < len → ∃ a : α, ∀ j, j < sz → c[off + i * sz + j]? = (f a)[j]? := fun i hi => by
        obtain ⟨es, h1, h2⟩ := hx i (by omega)
        rw [hsz] at h1
        obtain ⟨_, hlen, hc⟩ := World.cells?_some h1
        obtain ⟨a, rfl, hg⟩ := hel es hlen ⟨H, enc, n, _, h2⟩
        refine ⟨a, fun j hj => ?_⟩
        have := hc j hj
        rw [addr_add, addr_add, cell_of_row W bb _ c T fr hb] at this
        exact this
      obtain ⟨F, hF⟩ := choose_lt hok
      have hll : ((List.range len).map F).length = len := by simp
      refine ⟨some ⟨bb, off, none⟩, some bb, off, m, c, T, fr, (List.range len).map F, by rw [hll]; exact hcs, by rw [hll]; exact hl, hm', .inl ⟨rfl, by rw [flat_len f hf, hll], by rw [hll]; exact hl, hm', ?_, fun h => by cases h⟩, fun b hb' => by cases hb'; exact hb⟩
      rw [hll]
      apply List.ext_getElem?
      intro k
      have hfl : (((List.range len).map F).flatMap f).length = len * sz := by rw [flat_len f hf, hll]
      rcases Nat.lt_or_ge k (len * sz) with hk | hk
      · have hi : k / sz < len := Nat.div_lt_of_lt_mul (by rw [Nat.mul_comm]; exact hk)
        have hj : k % sz < sz := Nat.mod_lt _ hz
        have hkk : k = k / sz * sz + k % sz := by have := Nat.div_add_mod k sz; rw [Nat.mul_comm] at this; omega
        have h1 := hF (k / sz) hi (k % sz) hj
        have h2 := flat_at f hf ((List.range len).map F) (k / sz) (F (k / sz)) (by simp [hi])
        have h3 : (((List.range len).map F).flatMap f)[k]? = (f (F (k / sz)))[k % sz]? := by
          rw [← h2, List.getElem?_take, if_pos hj, List.getElem?_drop, ← hkk]
        rw [h3, ← h1, List.getElem?_take, if_pos hk, List.getElem?_drop]
        have e : off + k / sz * sz + k % sz = off + k := by omega
        rw [e]
        simp
      · rw [List.getElem?_eq_none (by rw [List.length_take]; omega), List.getElem?_eq_none (by omega)]
instance : Inhabited (Int × Int) := ⟨(0, 0)⟩
theorem keep_of {W : World} {es : List Value} (hl : es.length = 2) (h : Reads Tryd.prog W 132 es) : ∃ x : Int × Int, es = kCells x ∧ True := by
  match es, hl with
  | [v0, v1], _ =>
    obtain ⟨n0, e0, _⟩ := reads_int (reads_field (s := 1) (vs := [v0]) h Tryd.underlying132 0 _ rfl (by kernel_rfl) rfl) Tryd.underlying3
    obtain ⟨n1, e1, _⟩ := reads_int (reads_field (s := 1) (vs := [v1]) h Tryd.underlying132 1 _ rfl (by kernel_rfl) rfl) Tryd.underlying3
    simp only [List.cons.injEq, and_true] at e0 e1
    subst e0 e1
    exact ⟨(n0, n1), rfl, trivial⟩
set_option maxRecDepth 100000 in
theorem act_of {W : World} {es : List Value} (hl : es.length = 4) (h : Reads Tryd.prog W 94 es) : ∃ a : Af, es = afC a ∧ AfOk a ∧ ∀ b, a.ob = some b → W.heap[b]? = some (.cells a.cs a.T a.fr) := by
  match es, hl with
  | [v0, v1, v2, v3], _ =>
    obtain ⟨n0, e0, x0, y0⟩ := reads_int (reads_field (s := 1) (vs := [v0]) h Tryd.underlying94 0 _ rfl (by kernel_rfl) rfl) Tryd.underlying3
    obtain ⟨t, e1, pt⟩ := reads_str (reads_field (s := 1) (vs := [v1]) h Tryd.underlying94 1 _ rfl (by kernel_rfl) rfl) Tryd.underlying9
    obtain ⟨n2, e2, x2, y2⟩ := reads_int (reads_field (s := 1) (vs := [v2]) h Tryd.underlying94 2 _ rfl (by kernel_rfl) rfl) Tryd.underlying3
    obtain ⟨p, ob, off, cap, c, T, fr, ks, e3, hle, hmax, hs, hb⟩ := reads_slice2 (sz := 2) (reads_field (s := 1) (vs := [v3]) h Tryd.underlying94 3 _ rfl (by kernel_rfl) rfl) Tryd.underlying59 (by kernel_rfl) (by omega) kCells k_len (fun _ => True) (fun es hl h => keep_of hl h)
    simp only [List.cons.injEq, and_true] at e0 e1 e2 e3
    subst e0 e1 e2 e3
    exact ⟨⟨n0, t, n2, p, ob, off, cap, c, T, fr, ks⟩, rfl, ⟨pt, y2, hle, hmax, hs⟩, hb⟩
theorem okv_slice {P : Program} {W : World} {r : Reach} {b : Nat} {t e : TypeId} {v : Value} (h : Value.okWide P W r b t v) (ht : P.underlying t = some (.slice e)) : ∃ p i j, v = .slice p i j ∧ Cell.okWide P W r b t v := by
  have h1 := okv_cell h ht rfl
  have h2 := h1
  unfold Cell.okWide at h2
  rw [ht] at h2
  cases v <;> first | exact ⟨_, _, _, rfl, h1⟩ | (exfalso; first | exact h2 | (unfold Cell.ok at h2; rw [ht] at h2; exact h2) | (simp [Cell.ok, ht] at h2; done))
set_option maxRecDepth 100000 in
theorem logFalls_walk : LawWalk 11 Tryd.f11 := lawwalk_reads (fun W base args hs hval => by
  rw [Tryd.params11] at hs hval
  obtain ⟨l⟩ := args
  match l, hs with
  | [a], _ =>
    obtain ⟨h0, hr⟩ := hval 0 90 a rfl rfl
    obtain ⟨p, i, j, rfl, hv⟩ := okv_slice h0 Tryd.underlying90
    obtain ⟨o1, p1, q1, c1, T1, f1, acs, e1, hk, hg, hb⟩ := reads_slice (sz := 4) hr Tryd.underlying90 (by kernel_rfl) rfl hv afC af_len (fun x => AfOk x ∧ ∀ b, x.ob = some b → W.heap[b]? = some (.cells x.cs x.T x.fr)) (fun es hl h => act_of hl h)
    rw [e1]
    exact ⟨_, has_cons (has_map acs (fun x hx => (hg x hx).2)) hb, logFalls_all o1 p1 q1 c1 T1 f1 acs hk (fun x hx => (hg x hx).1)⟩)


set_option maxRecDepth 100000 in
theorem logFalls_lifted (os : Os) (started : os.Started) (H : Type) (enc : TypeId × Value → H) :
    ReturnsInHanded {} Tryd.checked os 11 .any (fun w args => (Rows.logFallsSpec.pre enc Tryd.prog Tryd.f11 [] false w args ∧ laidMetH Tryd.prog Rows.logFallsRow.laid w) ∧ sizedMet enc Tryd.prog Tryd.f11 (OpenSpec.ofChange Rows.logFallsSpec) false w args)
      (Rows.logFallsSpec.post enc Tryd.prog Tryd.f11 false true false false) := by
  refine returnsInHanded_of_change_and (C := Tryd.checked) (X := fun w _ => laidMetH Tryd.prog Rows.logFallsRow.laid w) (fun _ _ _ hh h => h.of_heap hh) Tryd.ownK started (by kernel_rfl) Tryd.func11
    (ChangeSpec.witness_shaped (enc := enc) (C := Tryd.checked) (os := os) (X := fun w _ => laidMetH Tryd.prog Rows.logFallsRow.laid w) false (World.laidAll Tryd.prog os Rows.logFallsRow.laid) #[.slice none 0 0] 8 (World.laidAll_os _ _ _)
      (World.shaped_of_ZipB (by kernel_rfl) (by kernel_rfl)) (by kernel_rfl) (by kernel_rfl) (by kernel_rfl)
      (by rw [MakeChecks.laidMetH_plain _ _ _ (by kernel_rfl)]; exact laidMet_laidAll _ (by kernel_rfl) (by kernel_rfl))) ?_
  intro W base args ds gs before hval hW _ _ _ _
  exact law_end (s := Rows.logFallsSpec) rfl (by kernel_rfl) (by kernel_rfl) (by decide +kernel) (fun ds h => by match ds, h with | [_], _ => rfl) logFalls_walk W base args ds gs before hval hW
theorem logFalls_said : Rows.LogFallsSaid :=
  OpenClaim.holds_of_wide 11 Tryd.f11 rfl rfl rfl rfl rfl rfl rfl ⟨rfl, rfl, rfl, rfl, rfl⟩ rfl rfl rfl rfl rfl (by kernel_rfl) Tryd.func11 (by kernel_rfl)
    (of_decide_eq_true (by kernel_rfl)) (by unfold Func.isWrapper; first | (rw [if_pos (by decide +kernel)]; kernel_rfl) | (rw [if_neg (by decide +kernel)]; exact ⟨rfl, rfl⟩))
    (fun os started H enc _ => logFalls_lifted os started H enc)
theorem logFalls_holds : Rows.LogFallsCardSaid :=
  Claim7.holds_tied_plain_at .later [] _ _ _ _ logFalls_said (fun _ h => by cases h) (by kernel_rfl) (fun _ h => by cases h) logFalls_row_tie rfl ⟨rfl, rfl⟩ (by kernel_rfl) rfl
    (fun f fn hf hfn => by
      obtain rfl : f = 11 := Option.some.inj ((show Tryd.prog.funcNamed "billet/billetlaw26.LogFalls" = some 11 by kernel_rfl).symm.trans hf) |>.symm
      obtain rfl : fn = Tryd.f11 := (Option.some.inj (Tryd.func11.symm.trans hfn)).symm
      exact ⟨by kernel_rfl, fun j t ht => by
        rw [Tryd.params11] at ht
        have hm : t ∈ [90] := by simpa using Array.mem_of_getElem? ht
        have hall : ([90].all fun u => !Tryd.prog.wantsStandIn u) = true := by kernel_rfl
        exact (show Tryd.prog.wantsStandIn t = false by simpa using List.all_eq_true.1 hall t hm)⟩)
    (by kernel_rfl)
#print axioms logFalls_holds

end
end Go.Proofs.YtbblkgdejgoncaaDoor
