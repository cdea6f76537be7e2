/- The law JournalFalls: however often, and however, the power goes in whatever is done, and whatever stays: the disk has what it had ahead of it, or what it has behind it; the latter, if it answered OK; the call returns true and leaves its arguments as they were. -/
import Derived.Test.YtbblkgdejgoncaaGreatDoorPkJournalFalls1
import Derived.Test.YtbblkgdejgoncaaGreatDoorPkJournalFalls2
import Derived.Test.YtbblkgdejgoncaaGreatDoorPkJournalFalls3
import Derived.Test.YtbblkgdejgoncaaGreatDoorPkJournalFalls4
import Derived.Test.YtbblkgdejgoncaaGreatDoorPkJournalFalls5
import Derived.Test.YtbblkgdejgoncaaGreatDoorPkJournalFalls6
import Derived.Test.YtbblkgdejgoncaaGreatDoorCards
import Derived.Test.YtbblkgdejgoncaaGreatDoorTie
import Derived.Lay
import Derived.LaidOnce
import Derived.SevenTiedAt
import Derived.Deep.DeepHandedRow

/- The walk of what is done under a fuse. -/
set_option linter.unusedSimpArgs false
set_option linter.unusedVariables false
namespace Go.Proofs.YtbblkgdejgoncaaGreatDoor
open Go Go.ChangeShapes Go.WideShapes Go.ChangeAt Go.RowKit

section
theorem infJourF_3 : Tryz.prog.info? 3 = some Tryz.t3 := by kernel_rfl
theorem infJourF_9 : Tryz.prog.info? 9 = some Tryz.t9 := by kernel_rfl
theorem infJourF_36 : Tryz.prog.info? 36 = some Tryz.t36 := by kernel_rfl


/-- What was done: there is what there should be behind it; or the power went, and whatever stays, there is what there was, or what there should be. -/
def Out (N R : Nat) (k1 : Dk) (sp : Sp) (tx : List UInt8) (rc : List (List UInt8)) (tx2 : List UInt8) (rc2 : List (List UInt8)) (g : Int) : Prop :=
  (¬ g = 21 ∧ ∃ sp1, sp1.seq ≤ sp.seq + 1 ∧ JD N R k1 sp1 tx2 rc2) ∨ (g = 21 ∧ ∀ ks, ∃ sp1, sp1.seq ≤ sp.seq + 1 ∧ (JD N R (k1.crash ks) sp1 tx rc ∨ JD N R (k1.crash ks) sp1 tx2 rc2))
theorem pcs_snoc (rc : List (List UInt8)) (s : List UInt8) : (pcs (rc ++ [s])).length = (pcs rc).length + manyN s.length := by rw [pcs_app, List.length_append, pcs_one, piecesF_len]
theorem add4 {N R a : Nat} {k : Dk} {sp : Sp} {text : List UInt8} {recs : List (List UInt8)} (h : JJ N R k sp text recs a) (s : List UInt8) :
    (1000 < s.length ∧ lgE (((N - (2 + 2 * R) : Nat) : Int) - (a : Int)) s = 4) ∨ (s.length ≤ 1000 ∧ ¬ fitsL (((N - (2 + 2 * R) : Nat) : Int) - (a : Int)) s ∧ lgE (((N - (2 + 2 * R) : Nat) : Int) - (a : Int)) s = 17) ∨
    (fitsL (((N - (2 + 2 * R) : Nat) : Int) - (a : Int)) s ∧ addE k ((2 + 2 * R : Nat) : Int) ((N - (2 + 2 * R) : Nat) : Int) sp.epoch a s = 0 ∧ JD N R (addK k ((2 + 2 * R : Nat) : Int) ((N - (2 + 2 * R) : Nat) : Int) sp.epoch a s) sp text (recs ++ [s])) ∨
    (fitsL (((N - (2 + 2 * R) : Nat) : Int) - (a : Int)) s ∧ addE k ((2 + 2 * R : Nat) : Int) ((N - (2 + 2 * R) : Nat) : Int) sp.epoch a s = 21 ∧ ∀ ks, JD N R ((addK k ((2 + 2 * R : Nat) : Int) ((N - (2 + 2 * R) : Nat) : Int) sp.epoch a s).crash ks) sp text recs ∨ JD N R ((addK k ((2 + 2 * R : Nat) : Int) ((N - (2 + 2 * R) : Nat) : Int) sp.epoch a s).crash ks) sp text (recs ++ [s])) := by
  by_cases hf : fitsL (((N - (2 + 2 * R) : Nat) : Int) - (a : Int)) s
  · rcases jadd_fall h hf.1 hf with ⟨e1, _, e3⟩ | ⟨e1, e2⟩
    · exact .inr (.inr (.inl ⟨hf, e1, e3.jd⟩))
    · exact .inr (.inr (.inr ⟨hf, e1, e2⟩))
  · by_cases hl : 1000 < s.length
    · exact .inl ⟨hl, by unfold lgE; rw [if_pos hl]⟩
    · exact .inr (.inl ⟨by omega, hf, by unfold lgE; rw [if_neg hl, if_pos (by unfold fitsL at hf; omega)]⟩)
theorem anew3 {N R : Nat} {k : Dk} {sp : Sp} {text : List UInt8} {recs : List (List UInt8)} (h : JD N R k sp text recs) (hq : sp.seq + 1 < 250) (s : List UInt8) (hs : s.length ≤ 1000000) :
    (R < manyS s.length) ∨ (manyS s.length ≤ R ∧ jputE k (othF R sp : Nat) R (anewS sp s.length) s = 0 ∧ JD N R (jputK k (othF R sp : Nat) R (anewS sp s.length) s) (anewS sp s.length) s []) ∨
    (manyS s.length ≤ R ∧ jputE k (othF R sp : Nat) R (anewS sp s.length) s = 21 ∧ ∀ ks, JD N R ((jputK k (othF R sp : Nat) R (anewS sp s.length) s).crash ks) sp text recs ∨ JD N R ((jputK k (othF R sp : Nat) R (anewS sp s.length) s).crash ks) (anewS sp s.length) s []) := by
  rcases Nat.lt_or_ge R (manyS s.length) with hm | hm
  · exact .inl hm
  · rcases janew_fall h hq hs hm with ⟨e1, e2, _⟩ | ⟨e1, e2⟩
    · exact .inr (.inl ⟨hm, e1, e2⟩)
    · exact .inr (.inr ⟨hm, e1, e2⟩)
theorem open2 {N R : Nat} {k : Dk} {sp : Sp} {text : List UInt8} {recs : List (List UInt8)} (h : JD N R k sp text recs) (hq : sp.seq + 1 < 250) :
    (storeE k (nextS sp) = 0 ∧ JD N R (storeK k (nextS sp)) (nextS sp) text recs) ∨ (storeE k (nextS sp) = 21 ∧ ∀ ks, JD N R ((storeK k (nextS sp)).crash ks) sp text recs ∨ JD N R ((storeK k (nextS sp)).crash ks) (nextS sp) text recs) := by
  rcases jopen_fall h hq with ⟨e1, e2, _⟩ | h
  · exact .inl ⟨e1, e2⟩
  · exact .inr h
attribute [local irreducible] storeK storeE jputK jputE addK addE appK appE appA newD putK putE

set_option maxRecDepth 100000 in
set_option maxHeartbeats 16000000 in
theorem jl_does (d n lb lcap : Nat) (lcs : Array Value) (uw : Sl) (k : Dk) (h : DkAt k n lb lcs lcap uw) (R : Nat) (sp : Sp) (text : List UInt8) (recs : List (List UInt8)) (a j g : Nat) (hj : JJ n R k sp text recs a) (u : Sl) (hu : Own 1 u (recs.map strC) recs.length) (e : Int) (he : 0 ≤ e ∧ e ≤ 100) (x : Int × List UInt8) (hxl : x.2.length ≤ 1100) (hq : sp.seq + 1 < 250) :
    Ct Tryz.prog 25 [.pointer (some ⟨d, 0, none⟩), .pointer (some ⟨j, 0, none⟩), .agg (wC text (u.v recs.length) (a : Int) ((n - (2 + 2 * R) : Nat) : Int) (R : Int) e).toArray, .agg (acC x).toArray] [(u.ob, .cells u.cs 9 u.fz)] [(some j, .cells (jC d (R : Int) sp g).toArray 86 (0, 0)), (some g, .cells (lgC d ((2 + 2 * R : Nat) : Int) ((n - (2 + 2 * R) : Nat) : Int) sp.epoch a).toArray 117 (0, 0)), (some d, .cells #[.slice (some ⟨lb, 0, none⟩) n lcap, uw.v k.W.length, .int .i64 k.fuse, .bool k.dead] 67 (0, 0)), (some lb, .cells lcs 9 (0, 0)), (uw.ob, .cells uw.cs 90 uw.fz)] fun v post => (∃ g1 k1 lcs1 uw1, DkAt k1 n lb lcs1 lcap uw1 ∧ Out n R k1 sp text recs text recs g1 ∧ v = .tuple #[.int .i64 g1, .agg (wC text (u.v recs.length) (a : Int) ((n - (2 + 2 * R) : Nat) : Int) (R : Int) e).toArray] ∧ post = [(some d, .cells #[.slice (some ⟨lb, 0, none⟩) n lcap, uw1.v k1.W.length, .int .i64 k1.fuse, .bool k1.dead] 67 (0, 0)), (some lb, .cells lcs1 9 (0, 0)), (uw1.ob, .cells uw1.cs 90 uw1.fz)]) ∨ (∃ g1 k1 lcs1 uw1 tx2 rc2 u2 e2, DkAt k1 n lb lcs1 lcap uw1 ∧ Out n R k1 sp text recs tx2 rc2 g1 ∧ Own 1 u2 (rc2.map strC) rc2.length ∧ 0 ≤ e2 ∧ e2 ≤ e + 1 ∧ v = .tuple #[.int .i64 g1, .agg (wC tx2 (u2.v rc2.length) (((pcs rc2).length : Nat) : Int) ((n - (2 + 2 * R) : Nat) : Int) (R : Int) e2).toArray] ∧ post = [(some d, .cells #[.slice (some ⟨lb, 0, none⟩) n lcap, uw1.v k1.W.length, .int .i64 k1.fuse, .bool k1.dead] 67 (0, 0)), (some lb, .cells lcs1 9 (0, 0)), (uw1.ob, .cells uw1.cs 90 uw1.fz), (u2.ob, .cells u2.cs 9 u2.fz)]) := by
 have hb := h.bd
 have hb1 := hb.n1
 have hb2 := hb.n4
 have hb3 := hb.ncs
 have hb4 := hb.ncap
 have hb5 := hb.cap
 have hb6 := hb.w
 have hb7 := hb.wc
 have hln := h.len
 obtain ⟨hrN, hn60, hatn, he1, he2, heq, hw0, hr1, hlen⟩ := hj.bd
 have hrcl := hj.rcl
 have haa := hj.a.1
 have hqn : (nextS sp).seq = sp.seq + 1 := rfl
 have hqa : (anewS sp x.2.length).seq = sp.seq + 1 := rfl
 refine ct_of Tryz.func25 rfl rfl (fun w0 => ?_)
 show G _ _ [(0, _), (1, _), (2, _), (3, _)] _ _
 refine G_seq ?_
 refine G_region (l := [0, 1, 2, 3]) rfl ?_
 refine G_new rfl rfl rfl rfl (N_boxA rfl rfl) (fun b6 => ?_)
 refine G_new rfl rfl rfl rfl (N_boxA rfl rfl) (fun b7 => ?_)
 refine G_val rfl rfl rfl rfl (V_assign rfl rfl) ?_
 refine G_new rfl rfl rfl rfl (N_allocA rfl infJourF_36 rfl) (fun b9 => ?_)
 refine G_done ?_
 refine G_seq ?_
 refine G_seq ?_
 refine G_region (l := [0, 1]) rfl ?_
 refine G_val rfl rfl rfl rfl (V_fieldAddr (fo := 0) rfl Tryz.underlying42 rfl infJourF_3 rfl rfl rfl) ?_
 refine G_val rfl rfl rfl rfl (V_load1 rfl rfl (mem_at 2 rfl) rfl Tryz.underlying3 rfl) ?_
 refine G_done ?_
 refine G_block ?_
 refine G_seq ?_
 refine G_region (l := [0, 1]) rfl ?_
 refine G_val rfl rfl rfl rfl (V_eql rfl rfl rfl) ?_
 refine G_val rfl rfl rfl rfl (V_assign rfl rfl) ?_
 refine G_done ?_
 refine G_ifD rfl (fun hc1 => ?_) (fun hc1 => ?_)
 ·
  refine G_seq ?_
  rcases add4 hj x.2 with hx1 | hx1 | hx1 | hx1
  ·
   refine G_region (l := [0, 1, 2, 3, 4, 5, 6, 7, 8, 9]) rfl ?_
   refine G_val rfl rfl rfl rfl (V_loadW (s := 6) rfl rfl (mem_at 3 rfl) Tryz.underlying36 rfl infJourF_36 rfl (by rfl)) ?_
   refine G_val rfl rfl rfl rfl (V_fieldAddr (fo := 1) rfl Tryz.underlying42 rfl infJourF_9 rfl rfl rfl) ?_
   refine G_val rfl rfl rfl rfl (V_load1 rfl rfl (mem_at 2 rfl) rfl Tryz.underlying9 rfl) ?_
   refine G_call (L2 := [_, _, _, _, _, _, _, _]) rfl rfl rfl rfl rfl rfl Tryz.call15 (rj_add_long n R a (by omega) (by omega) text recs u e (by omega) x.2 (by omega) hx1.1) [] [] rfl rfl ?_
   rintro v post ⟨rfl, rfl⟩
   show G _ _ _ [_, _, _, _, _, _, _, _] _
   refine G_val rfl rfl rfl rfl (V_move rfl rfl) ?_
   refine G_val rfl rfl rfl rfl (V_extract rfl rfl rfl) ?_
   refine G_val rfl rfl rfl rfl (V_extract rfl rfl rfl) ?_
   refine G_new rfl rfl rfl rfl (N_allocA rfl infJourF_36 rfl) (fun b10 => ?_)
   refine G_put (l1 := []) (L' := [_, _, _, _, _, _, _, _, _]) rfl rfl rfl rfl (P_storeA (s := 6) rfl rfl rfl (mem_at 0 rfl) (by rfl) infJourF_36 rfl (by rfl) (by simp [Value.oneCell', spCells, pCells, wCells, kCells, rgC, lgC, rdC, Sl.v, zeroF, foundC, jC, wC, acC])) rfl ?_
   refine G_val rfl rfl rfl rfl (V_assign rfl rfl) ?_
   refine G_done ?_
   refine G_seq ?_
   refine G_region (l := [0, 1, 2, 3, 4, 5]) rfl ?_
   refine G_val rfl rfl rfl rfl (V_move rfl rfl) ?_
   refine G_val rfl rfl rfl rfl (V_fieldAddr (fo := 1) rfl Tryz.underlying42 rfl infJourF_9 rfl rfl rfl) ?_
   refine G_val rfl rfl rfl rfl (V_load1 rfl rfl (mem_at 3 rfl) rfl Tryz.underlying9 rfl) ?_
   refine G_call (L2 := [_, _, _, _, _]) rfl rfl rfl rfl rfl rfl Tryz.call17 (jl_add_no d n lb lcap lcs uw k h R sp text recs a j g hj x.2 (by omega) 4 hx1.2 (by decide)) [5, 5, 5, 5] [5] rfl rfl ?_
   rintro v post ⟨rfl, lcs1, uw1, h1, rfl⟩
   show G _ _ _ [_, _, _, _, _, _, _, _, _] _
   refine G_call (L2 := [_, _, _, _, _, _, _, _, _]) rfl rfl rfl rfl rfl rfl Tryz.call9 (jl_num _) [] [] rfl rfl ?_
   rintro v post ⟨rfl, rfl⟩
   show G _ _ _ [_, _, _, _, _, _, _, _, _] _
   refine G_val rfl rfl rfl rfl (V_assign rfl rfl) ?_
   refine G_done ?_
   refine G_seq ?_
   refine G_seq ?_
   refine G_region (l := [0, 1, 2, 3, 4, 5, 6]) rfl ?_
   refine G_val rfl rfl rfl rfl (V_move rfl rfl) ?_
   refine G_val rfl rfl rfl rfl (V_neq rfl rfl rfl) ?_
   refine G_val rfl rfl rfl rfl (V_move rfl rfl) ?_
   refine G_splitD 38 rfl (fun hc2 => ?_) (fun hc2 => ?_)
   rotate_left
   · (first | (exact absurd rfl hc2) | (exact absurd hc2 (by decide)) | (exact absurd (by decide) hc2) | (exfalso; omega) | (exfalso; simp at hc2; done))
   refine G_val rfl rfl rfl rfl (V_move rfl rfl) ?_
   refine G_val rfl rfl rfl rfl (V_move rfl rfl) ?_
   refine G_val rfl rfl rfl rfl (V_neq rfl rfl rfl) ?_
   refine G_val rfl rfl rfl rfl (V_pickT rfl rfl rfl) ?_
   refine G_done ?_
   refine G_ifD rfl (fun hc3 => ?_) (fun hc3 => ?_)
   · (first | (exact absurd rfl hc3) | (exact absurd hc3 (by decide)) | (exact absurd (by decide) hc3) | (exfalso; omega) | (exfalso; simp at hc3; done))
   refine G_skip ?_
   refine G_seq ?_
   refine GH_start (Lq := [_]) (isq := [4]) (m := 4) mixedK rfl rfl ?_
   refine GH_take 0 rfl rfl rfl rfl (by kernel_rfl) (by kernel_rfl) (by kernel_rfl) (fun _ _ => (V_move rfl rfl)) ?_
   refine GH_take 1 rfl rfl rfl rfl (by kernel_rfl) (by kernel_rfl) (by kernel_rfl) (fun _ _ => (V_loadW (s := 6) rfl rfl (mem_at 1 rfl) Tryz.underlying36 rfl infJourF_36 rfl (by rfl))) ?_
   refine GH_take 2 rfl rfl rfl rfl (by kernel_rfl) (by kernel_rfl) (by kernel_rfl) (fun _ _ => (V_assign rfl rfl)) ?_
   refine GH_all [3] (by kernel_rfl) (by decide) ?_
   refine (And.intro ?_ trivial)
   ·
    refine GHop_put (l1 := [_, _, _, _, _]) (L' := [_, _, _, _, _, _, _, _, _]) rfl rfl rfl rfl (P_storeA (s := 6) rfl rfl rfl (mem_at 5 rfl) (by rfl) infJourF_36 rfl (by rfl) (by simp [Value.oneCell', spCells, pCells, wCells, kCells, rgC, lgC, rdC, Sl.v, zeroF, foundC, jC, wC, acC])) rfl [4] rfl ?_
    refine GH_done (by kernel_rfl) ?_
    refine G_ret (post := [_, _, _]) Tryz.func25 rfl (RVs_cons (RV_tmp rfl) (RVs_cons (RV_cell (s := 6) rfl (mem_at 6 rfl) Tryz.underlying36 rfl infJourF_36 rfl (by rfl)) RVs_nil)) [1, 1, 1] rfl ?_
    dsimp only [packed]
    first
      | exact .inr ⟨_, _, lcs1, uw1, _, _, un, _, h1, .inl ⟨by decide, sp, by omega, hx1.2.2⟩, hun, by omega, by omega, rfl, rfl⟩
      | exact .inr ⟨_, _, lcs1, uw1, _, _, un, _, h1, .inr ⟨rfl, fun ks => ⟨sp, by omega, hx1.2.2 ks⟩⟩, hun, by omega, by omega, rfl, rfl⟩
      | exact .inr ⟨_, _, lcs1, uw1, _, [], un, _, h1, .inl ⟨by decide, _, by omega, hx1.2.2⟩, hun, by omega, by omega, rfl, rfl⟩
      | exact .inr ⟨_, _, lcs1, uw1, _, [], un, _, h1, .inr ⟨rfl, fun ks => (hx1.2.2 ks).elim (fun q => ⟨sp, by omega, .inl q⟩) (fun q => ⟨_, by omega, .inr q⟩)⟩, hun, by omega, by omega, rfl, rfl⟩
      | exact .inl ⟨_, _, lcs1, uw1, h1, .inl ⟨by decide, _, by omega, hx1.2⟩, rfl, rfl⟩
      | exact .inl ⟨_, _, lcs1, uw1, h1, .inr ⟨rfl, fun ks => (hx1.2 ks).elim (fun q => ⟨sp, by omega, .inl q⟩) (fun q => ⟨_, by omega, .inl q⟩)⟩, rfl, rfl⟩
      | exact .inl ⟨_, _, lcs1, uw1, h1, .inl ⟨by decide, sp, by omega, hj.jd⟩, rfl, rfl⟩
      | exact .inl ⟨_, _, lcs, uw, h, .inl ⟨by decide, sp, by omega, hj.jd⟩, rfl, rfl⟩
  ·
   refine G_region (l := [0, 1, 2, 3, 4, 5, 6, 7, 8, 9]) rfl ?_
   refine G_val rfl rfl rfl rfl (V_loadW (s := 6) rfl rfl (mem_at 3 rfl) Tryz.underlying36 rfl infJourF_36 rfl (by rfl)) ?_
   refine G_val rfl rfl rfl rfl (V_fieldAddr (fo := 1) rfl Tryz.underlying42 rfl infJourF_9 rfl rfl rfl) ?_
   refine G_val rfl rfl rfl rfl (V_load1 rfl rfl (mem_at 2 rfl) rfl Tryz.underlying9 rfl) ?_
   refine G_call (L2 := [_, _, _, _, _, _, _, _]) rfl rfl rfl rfl rfl rfl Tryz.call15 (rj_add_full n R a (by omega) (by omega) text recs u e (by omega) x.2 (by omega) hx1.1 hx1.2.1) [] [] rfl rfl ?_
   rintro v post ⟨rfl, rfl⟩
   show G _ _ _ [_, _, _, _, _, _, _, _] _
   refine G_val rfl rfl rfl rfl (V_move rfl rfl) ?_
   refine G_val rfl rfl rfl rfl (V_extract rfl rfl rfl) ?_
   refine G_val rfl rfl rfl rfl (V_extract rfl rfl rfl) ?_
   refine G_new rfl rfl rfl rfl (N_allocA rfl infJourF_36 rfl) (fun b10 => ?_)
   refine G_put (l1 := []) (L' := [_, _, _, _, _, _, _, _, _]) rfl rfl rfl rfl (P_storeA (s := 6) rfl rfl rfl (mem_at 0 rfl) (by rfl) infJourF_36 rfl (by rfl) (by simp [Value.oneCell', spCells, pCells, wCells, kCells, rgC, lgC, rdC, Sl.v, zeroF, foundC, jC, wC, acC])) rfl ?_
   refine G_val rfl rfl rfl rfl (V_assign rfl rfl) ?_
   refine G_done ?_
   refine G_seq ?_
   refine G_region (l := [0, 1, 2, 3, 4, 5]) rfl ?_
   refine G_val rfl rfl rfl rfl (V_move rfl rfl) ?_
   refine G_val rfl rfl rfl rfl (V_fieldAddr (fo := 1) rfl Tryz.underlying42 rfl infJourF_9 rfl rfl rfl) ?_
   refine G_val rfl rfl rfl rfl (V_load1 rfl rfl (mem_at 3 rfl) rfl Tryz.underlying9 rfl) ?_
   refine G_call (L2 := [_, _, _, _, _]) rfl rfl rfl rfl rfl rfl Tryz.call17 (jl_add_no d n lb lcap lcs uw k h R sp text recs a j g hj x.2 (by omega) 17 hx1.2.2 (by decide)) [5, 5, 5, 5] [5] rfl rfl ?_
   rintro v post ⟨rfl, lcs1, uw1, h1, rfl⟩
   show G _ _ _ [_, _, _, _, _, _, _, _, _] _
   refine G_call (L2 := [_, _, _, _, _, _, _, _, _]) rfl rfl rfl rfl rfl rfl Tryz.call9 (jl_num _) [] [] rfl rfl ?_
   rintro v post ⟨rfl, rfl⟩
   show G _ _ _ [_, _, _, _, _, _, _, _, _] _
   refine G_val rfl rfl rfl rfl (V_assign rfl rfl) ?_
   refine G_done ?_
   refine G_seq ?_
   refine G_seq ?_
   refine G_region (l := [0, 1, 2, 3, 4, 5, 6]) rfl ?_
   refine G_val rfl rfl rfl rfl (V_move rfl rfl) ?_
   refine G_val rfl rfl rfl rfl (V_neq rfl rfl rfl) ?_
   refine G_val rfl rfl rfl rfl (V_move rfl rfl) ?_
   refine G_splitD 38 rfl (fun hc2 => ?_) (fun hc2 => ?_)
   rotate_left
   · (first | (exact absurd rfl hc2) | (exact absurd hc2 (by decide)) | (exact absurd (by decide) hc2) | (exfalso; omega) | (exfalso; simp at hc2; done))
   refine G_val rfl rfl rfl rfl (V_move rfl rfl) ?_
   refine G_val rfl rfl rfl rfl (V_move rfl rfl) ?_
   refine G_val rfl rfl rfl rfl (V_neq rfl rfl rfl) ?_
   refine G_val rfl rfl rfl rfl (V_pickT rfl rfl rfl) ?_
   refine G_done ?_
   refine G_ifD rfl (fun hc3 => ?_) (fun hc3 => ?_)
   · (first | (exact absurd rfl hc3) | (exact absurd hc3 (by decide)) | (exact absurd (by decide) hc3) | (exfalso; omega) | (exfalso; simp at hc3; done))
   refine G_skip ?_
   refine G_seq ?_
   refine GH_start (Lq := [_]) (isq := [4]) (m := 4) mixedK rfl rfl ?_
   refine GH_take 0 rfl rfl rfl rfl (by kernel_rfl) (by kernel_rfl) (by kernel_rfl) (fun _ _ => (V_move rfl rfl)) ?_
   refine GH_take 1 rfl rfl rfl rfl (by kernel_rfl) (by kernel_rfl) (by kernel_rfl) (fun _ _ => (V_loadW (s := 6) rfl rfl (mem_at 1 rfl) Tryz.underlying36 rfl infJourF_36 rfl (by rfl))) ?_
   refine GH_take 2 rfl rfl rfl rfl (by kernel_rfl) (by kernel_rfl) (by kernel_rfl) (fun _ _ => (V_assign rfl rfl)) ?_
   refine GH_all [3] (by kernel_rfl) (by decide) ?_
   refine (And.intro ?_ trivial)
   ·
    refine GHop_put (l1 := [_, _, _, _, _]) (L' := [_, _, _, _, _, _, _, _, _]) rfl rfl rfl rfl (P_storeA (s := 6) rfl rfl rfl (mem_at 5 rfl) (by rfl) infJourF_36 rfl (by rfl) (by simp [Value.oneCell', spCells, pCells, wCells, kCells, rgC, lgC, rdC, Sl.v, zeroF, foundC, jC, wC, acC])) rfl [4] rfl ?_
    refine GH_done (by kernel_rfl) ?_
    refine G_ret (post := [_, _, _]) Tryz.func25 rfl (RVs_cons (RV_tmp rfl) (RVs_cons (RV_cell (s := 6) rfl (mem_at 6 rfl) Tryz.underlying36 rfl infJourF_36 rfl (by rfl)) RVs_nil)) [1, 1, 1] rfl ?_
    dsimp only [packed]
    first
      | exact .inr ⟨_, _, lcs1, uw1, _, _, un, _, h1, .inl ⟨by decide, sp, by omega, hx1.2.2⟩, hun, by omega, by omega, rfl, rfl⟩
      | exact .inr ⟨_, _, lcs1, uw1, _, _, un, _, h1, .inr ⟨rfl, fun ks => ⟨sp, by omega, hx1.2.2 ks⟩⟩, hun, by omega, by omega, rfl, rfl⟩
      | exact .inr ⟨_, _, lcs1, uw1, _, [], un, _, h1, .inl ⟨by decide, _, by omega, hx1.2.2⟩, hun, by omega, by omega, rfl, rfl⟩
      | exact .inr ⟨_, _, lcs1, uw1, _, [], un, _, h1, .inr ⟨rfl, fun ks => (hx1.2.2 ks).elim (fun q => ⟨sp, by omega, .inl q⟩) (fun q => ⟨_, by omega, .inr q⟩)⟩, hun, by omega, by omega, rfl, rfl⟩
      | exact .inl ⟨_, _, lcs1, uw1, h1, .inl ⟨by decide, _, by omega, hx1.2⟩, rfl, rfl⟩
      | exact .inl ⟨_, _, lcs1, uw1, h1, .inr ⟨rfl, fun ks => (hx1.2 ks).elim (fun q => ⟨sp, by omega, .inl q⟩) (fun q => ⟨_, by omega, .inl q⟩)⟩, rfl, rfl⟩
      | exact .inl ⟨_, _, lcs1, uw1, h1, .inl ⟨by decide, sp, by omega, hj.jd⟩, rfl, rfl⟩
      | exact .inl ⟨_, _, lcs, uw, h, .inl ⟨by decide, sp, by omega, hj.jd⟩, rfl, rfl⟩
  ·
   refine G_region (l := [0, 1, 2, 3, 4, 5, 6, 7, 8, 9]) rfl ?_
   refine G_val rfl rfl rfl rfl (V_loadW (s := 6) rfl rfl (mem_at 3 rfl) Tryz.underlying36 rfl infJourF_36 rfl (by rfl)) ?_
   refine G_val rfl rfl rfl rfl (V_fieldAddr (fo := 1) rfl Tryz.underlying42 rfl infJourF_9 rfl rfl rfl) ?_
   refine G_val rfl rfl rfl rfl (V_load1 rfl rfl (mem_at 2 rfl) rfl Tryz.underlying9 rfl) ?_
   refine G_call (L2 := [_, _, _, _, _, _, _, _]) rfl rfl rfl rfl rfl rfl Tryz.call15 (rj_add n R a (by omega) (by omega) text recs u e (by omega) x.2 (by omega) hx1.1 hu (by omega)) [] [0] rfl rfl ?_
   rintro v post ⟨un, hun, rfl, rfl⟩
   show G _ _ _ [_, _, _, _, _, _, _, _, _] _
   rw [show a + manyN x.2.length = (pcs (recs ++ [x.2])).length by rw [pcs_snoc, ← haa]]
   refine G_val rfl rfl rfl rfl (V_move rfl rfl) ?_
   refine G_val rfl rfl rfl rfl (V_extract rfl rfl rfl) ?_
   refine G_val rfl rfl rfl rfl (V_extract rfl rfl rfl) ?_
   refine G_new rfl rfl rfl rfl (N_allocA rfl infJourF_36 rfl) (fun b10 => ?_)
   refine G_put (l1 := []) (L' := [_, _, _, _, _, _, _, _, _, _]) rfl rfl rfl rfl (P_storeA (s := 6) rfl rfl rfl (mem_at 0 rfl) (by rfl) infJourF_36 rfl (by rfl) (by simp [Value.oneCell', spCells, pCells, wCells, kCells, rgC, lgC, rdC, Sl.v, zeroF, foundC, jC, wC, acC])) rfl ?_
   refine G_val rfl rfl rfl rfl (V_assign rfl rfl) ?_
   refine G_done ?_
   refine G_seq ?_
   refine G_region (l := [0, 1, 2, 3, 4, 5]) rfl ?_
   refine G_val rfl rfl rfl rfl (V_move rfl rfl) ?_
   refine G_val rfl rfl rfl rfl (V_fieldAddr (fo := 1) rfl Tryz.underlying42 rfl infJourF_9 rfl rfl rfl) ?_
   refine G_val rfl rfl rfl rfl (V_load1 rfl rfl (mem_at 4 rfl) rfl Tryz.underlying9 rfl) ?_
   refine G_call (L2 := [_, _, _, _, _, _]) rfl rfl rfl rfl rfl rfl Tryz.call17 ((jn_add d n lb lcap lcs uw k h R sp text recs a j g hj x.2 (by omega)).weaken (fun v post h => by rw [hx1.2.1] at h; exact h)) [6, 6, 6, 6] [6] rfl rfl ?_
   rintro v post ⟨rfl, lcs1, uw1, h1, rfl⟩
   show G _ _ _ [_, _, _, _, _, _, _, _, _, _] _
   refine G_call (L2 := [_, _, _, _, _, _, _, _, _, _]) rfl rfl rfl rfl rfl rfl Tryz.call9 (jl_num _) [] [] rfl rfl ?_
   rintro v post ⟨rfl, rfl⟩
   show G _ _ _ [_, _, _, _, _, _, _, _, _, _] _
   refine G_val rfl rfl rfl rfl (V_assign rfl rfl) ?_
   refine G_done ?_
   refine G_seq ?_
   refine G_seq ?_
   refine G_region (l := [0, 1, 2, 3, 4, 5, 6]) rfl ?_
   refine G_val rfl rfl rfl rfl (V_move rfl rfl) ?_
   refine G_val rfl rfl rfl rfl (V_neq rfl rfl rfl) ?_
   refine G_val rfl rfl rfl rfl (V_move rfl rfl) ?_
   refine G_splitD 38 rfl (fun hc2 => ?_) (fun hc2 => ?_)
   · (first | (exact absurd rfl hc2) | (exact absurd hc2 (by decide)) | (exact absurd (by decide) hc2) | (exfalso; omega) | (exfalso; simp at hc2; done))
   refine G_off rfl rfl rfl rfl ?_
   refine G_off rfl rfl rfl rfl ?_
   refine G_off rfl rfl rfl rfl ?_
   refine G_val rfl rfl rfl rfl (V_pickF rfl rfl rfl) ?_
   refine G_done ?_
   refine G_else rfl ?_
   refine G_skip ?_
   refine G_seq ?_
   refine GH_start (Lq := [_]) (isq := [4]) (m := 4) mixedK rfl rfl ?_
   refine GH_take 0 rfl rfl rfl rfl (by kernel_rfl) (by kernel_rfl) (by kernel_rfl) (fun _ _ => (V_move rfl rfl)) ?_
   refine GH_take 1 rfl rfl rfl rfl (by kernel_rfl) (by kernel_rfl) (by kernel_rfl) (fun _ _ => (V_loadW (s := 6) rfl rfl (mem_at 1 rfl) Tryz.underlying36 rfl infJourF_36 rfl (by rfl))) ?_
   refine GH_take 2 rfl rfl rfl rfl (by kernel_rfl) (by kernel_rfl) (by kernel_rfl) (fun _ _ => (V_assign rfl rfl)) ?_
   refine GH_all [3] (by kernel_rfl) (by decide) ?_
   refine (And.intro ?_ trivial)
   ·
    refine GHop_put (l1 := [_, _, _, _, _, _]) (L' := [_, _, _, _, _, _, _, _, _, _]) rfl rfl rfl rfl (P_storeA (s := 6) rfl rfl rfl (mem_at 6 rfl) (by rfl) infJourF_36 rfl (by rfl) (by simp [Value.oneCell', spCells, pCells, wCells, kCells, rgC, lgC, rdC, Sl.v, zeroF, foundC, jC, wC, acC])) rfl [4] rfl ?_
    refine GH_done (by kernel_rfl) ?_
    refine G_ret (post := [_, _, _, _]) Tryz.func25 rfl (RVs_cons (RV_tmp rfl) (RVs_cons (RV_cell (s := 6) rfl (mem_at 7 rfl) Tryz.underlying36 rfl infJourF_36 rfl (by rfl)) RVs_nil)) [1, 1, 1, 2] rfl ?_
    dsimp only [packed]
    first
      | exact .inr ⟨_, _, lcs1, uw1, _, _, un, _, h1, .inl ⟨by decide, sp, by omega, hx1.2.2⟩, hun, by omega, by omega, rfl, rfl⟩
      | exact .inr ⟨_, _, lcs1, uw1, _, _, un, _, h1, .inr ⟨rfl, fun ks => ⟨sp, by omega, hx1.2.2 ks⟩⟩, hun, by omega, by omega, rfl, rfl⟩
      | exact .inr ⟨_, _, lcs1, uw1, _, [], un, _, h1, .inl ⟨by decide, _, by omega, hx1.2.2⟩, hun, by omega, by omega, rfl, rfl⟩
      | exact .inr ⟨_, _, lcs1, uw1, _, [], un, _, h1, .inr ⟨rfl, fun ks => (hx1.2.2 ks).elim (fun q => ⟨sp, by omega, .inl q⟩) (fun q => ⟨_, by omega, .inr q⟩)⟩, hun, by omega, by omega, rfl, rfl⟩
      | exact .inl ⟨_, _, lcs1, uw1, h1, .inl ⟨by decide, _, by omega, hx1.2⟩, rfl, rfl⟩
      | exact .inl ⟨_, _, lcs1, uw1, h1, .inr ⟨rfl, fun ks => (hx1.2 ks).elim (fun q => ⟨sp, by omega, .inl q⟩) (fun q => ⟨_, by omega, .inl q⟩)⟩, rfl, rfl⟩
      | exact .inl ⟨_, _, lcs1, uw1, h1, .inl ⟨by decide, sp, by omega, hj.jd⟩, rfl, rfl⟩
      | exact .inl ⟨_, _, lcs, uw, h, .inl ⟨by decide, sp, by omega, hj.jd⟩, rfl, rfl⟩
  ·
   refine G_region (l := [0, 1, 2, 3, 4, 5, 6, 7, 8, 9]) rfl ?_
   refine G_val rfl rfl rfl rfl (V_loadW (s := 6) rfl rfl (mem_at 3 rfl) Tryz.underlying36 rfl infJourF_36 rfl (by rfl)) ?_
   refine G_val rfl rfl rfl rfl (V_fieldAddr (fo := 1) rfl Tryz.underlying42 rfl infJourF_9 rfl rfl rfl) ?_
   refine G_val rfl rfl rfl rfl (V_load1 rfl rfl (mem_at 2 rfl) rfl Tryz.underlying9 rfl) ?_
   refine G_call (L2 := [_, _, _, _, _, _, _, _]) rfl rfl rfl rfl rfl rfl Tryz.call15 (rj_add n R a (by omega) (by omega) text recs u e (by omega) x.2 (by omega) hx1.1 hu (by omega)) [] [0] rfl rfl ?_
   rintro v post ⟨un, hun, rfl, rfl⟩
   show G _ _ _ [_, _, _, _, _, _, _, _, _] _
   rw [show a + manyN x.2.length = (pcs (recs ++ [x.2])).length by rw [pcs_snoc, ← haa]]
   refine G_val rfl rfl rfl rfl (V_move rfl rfl) ?_
   refine G_val rfl rfl rfl rfl (V_extract rfl rfl rfl) ?_
   refine G_val rfl rfl rfl rfl (V_extract rfl rfl rfl) ?_
   refine G_new rfl rfl rfl rfl (N_allocA rfl infJourF_36 rfl) (fun b10 => ?_)
   refine G_put (l1 := []) (L' := [_, _, _, _, _, _, _, _, _, _]) rfl rfl rfl rfl (P_storeA (s := 6) rfl rfl rfl (mem_at 0 rfl) (by rfl) infJourF_36 rfl (by rfl) (by simp [Value.oneCell', spCells, pCells, wCells, kCells, rgC, lgC, rdC, Sl.v, zeroF, foundC, jC, wC, acC])) rfl ?_
   refine G_val rfl rfl rfl rfl (V_assign rfl rfl) ?_
   refine G_done ?_
   refine G_seq ?_
   refine G_region (l := [0, 1, 2, 3, 4, 5]) rfl ?_
   refine G_val rfl rfl rfl rfl (V_move rfl rfl) ?_
   refine G_val rfl rfl rfl rfl (V_fieldAddr (fo := 1) rfl Tryz.underlying42 rfl infJourF_9 rfl rfl rfl) ?_
   refine G_val rfl rfl rfl rfl (V_load1 rfl rfl (mem_at 4 rfl) rfl Tryz.underlying9 rfl) ?_
   refine G_call (L2 := [_, _, _, _, _, _]) rfl rfl rfl rfl rfl rfl Tryz.call17 ((jn_add d n lb lcap lcs uw k h R sp text recs a j g hj x.2 (by omega)).weaken (fun v post h => by rw [hx1.2.1] at h; exact h)) [6, 6, 6, 6] [6] rfl rfl ?_
   rintro v post ⟨rfl, lcs1, uw1, h1, rfl⟩
   show G _ _ _ [_, _, _, _, _, _, _, _, _, _] _
   refine G_call (L2 := [_, _, _, _, _, _, _, _, _, _]) rfl rfl rfl rfl rfl rfl Tryz.call9 (jl_num _) [] [] rfl rfl ?_
   rintro v post ⟨rfl, rfl⟩
   show G _ _ _ [_, _, _, _, _, _, _, _, _, _] _
   refine G_val rfl rfl rfl rfl (V_assign rfl rfl) ?_
   refine G_done ?_
   refine G_seq ?_
   refine G_seq ?_
   refine G_region (l := [0, 1, 2, 3, 4, 5, 6]) rfl ?_
   refine G_val rfl rfl rfl rfl (V_move rfl rfl) ?_
   refine G_val rfl rfl rfl rfl (V_neq rfl rfl rfl) ?_
   refine G_val rfl rfl rfl rfl (V_move rfl rfl) ?_
   refine G_splitD 38 rfl (fun hc2 => ?_) (fun hc2 => ?_)
   rotate_left
   · (first | (exact absurd rfl hc2) | (exact absurd hc2 (by decide)) | (exact absurd (by decide) hc2) | (exfalso; omega) | (exfalso; simp at hc2; done))
   refine G_val rfl rfl rfl rfl (V_move rfl rfl) ?_
   refine G_val rfl rfl rfl rfl (V_move rfl rfl) ?_
   refine G_val rfl rfl rfl rfl (V_neq rfl rfl rfl) ?_
   refine G_val rfl rfl rfl rfl (V_pickT rfl rfl rfl) ?_
   refine G_done ?_
   refine G_ifD rfl (fun hc3 => ?_) (fun hc3 => ?_)
   rotate_left
   · (first | (exact absurd rfl hc3) | (exact absurd hc3 (by decide)) | (exact absurd (by decide) hc3) | (exfalso; omega) | (exfalso; simp at hc3; done))
   refine G_seq ?_
   refine GH_start (Lq := [_]) (isq := [4]) (m := 4) mixedK rfl rfl ?_
   refine GH_take 0 rfl rfl rfl rfl (by kernel_rfl) (by kernel_rfl) (by kernel_rfl) (fun _ _ => (V_move rfl rfl)) ?_
   refine GH_take 1 rfl rfl rfl rfl (by kernel_rfl) (by kernel_rfl) (by kernel_rfl) (fun _ _ => (V_loadW (s := 6) rfl rfl (mem_at 1 rfl) Tryz.underlying36 rfl infJourF_36 rfl (by rfl))) ?_
   refine GH_take 2 rfl rfl rfl rfl (by kernel_rfl) (by kernel_rfl) (by kernel_rfl) (fun _ _ => (V_assign rfl rfl)) ?_
   refine GH_all [3] (by kernel_rfl) (by decide) ?_
   refine (And.intro ?_ trivial)
   ·
    refine GHop_put (l1 := [_, _, _, _, _, _]) (L' := [_, _, _, _, _, _, _, _, _, _]) rfl rfl rfl rfl (P_storeA (s := 6) rfl rfl rfl (mem_at 6 rfl) (by rfl) infJourF_36 rfl (by rfl) (by simp [Value.oneCell', spCells, pCells, wCells, kCells, rgC, lgC, rdC, Sl.v, zeroF, foundC, jC, wC, acC])) rfl [4] rfl ?_
    refine GH_done (by kernel_rfl) ?_
    refine G_ret (post := [_, _, _, _]) Tryz.func25 rfl (RVs_cons (RV_tmp rfl) (RVs_cons (RV_cell (s := 6) rfl (mem_at 7 rfl) Tryz.underlying36 rfl infJourF_36 rfl (by rfl)) RVs_nil)) [1, 1, 1, 2] rfl ?_
    dsimp only [packed]
    first
      | exact .inr ⟨_, _, lcs1, uw1, _, _, un, _, h1, .inl ⟨by decide, sp, by omega, hx1.2.2⟩, hun, by omega, by omega, rfl, rfl⟩
      | exact .inr ⟨_, _, lcs1, uw1, _, _, un, _, h1, .inr ⟨rfl, fun ks => ⟨sp, by omega, hx1.2.2 ks⟩⟩, hun, by omega, by omega, rfl, rfl⟩
      | exact .inr ⟨_, _, lcs1, uw1, _, [], un, _, h1, .inl ⟨by decide, _, by omega, hx1.2.2⟩, hun, by omega, by omega, rfl, rfl⟩
      | exact .inr ⟨_, _, lcs1, uw1, _, [], un, _, h1, .inr ⟨rfl, fun ks => (hx1.2.2 ks).elim (fun q => ⟨sp, by omega, .inl q⟩) (fun q => ⟨_, by omega, .inr q⟩)⟩, hun, by omega, by omega, rfl, rfl⟩
      | exact .inl ⟨_, _, lcs1, uw1, h1, .inl ⟨by decide, _, by omega, hx1.2⟩, rfl, rfl⟩
      | exact .inl ⟨_, _, lcs1, uw1, h1, .inr ⟨rfl, fun ks => (hx1.2 ks).elim (fun q => ⟨sp, by omega, .inl q⟩) (fun q => ⟨_, by omega, .inl q⟩)⟩, rfl, rfl⟩
      | exact .inl ⟨_, _, lcs1, uw1, h1, .inl ⟨by decide, sp, by omega, hj.jd⟩, rfl, rfl⟩
      | exact .inl ⟨_, _, lcs, uw, h, .inl ⟨by decide, sp, by omega, hj.jd⟩, rfl, rfl⟩
 refine G_seq ?_
 refine G_region (l := [0, 1]) rfl ?_
 refine G_val rfl rfl rfl rfl (V_eql rfl rfl rfl) ?_
 refine G_val rfl rfl rfl rfl (V_assign rfl rfl) ?_
 refine G_done ?_
 refine G_ifD rfl (fun hc2 => ?_) (fun hc2 => ?_)
 ·
  refine G_seq ?_
  rcases anew3 hj.jd hq x.2 (by omega) with hx1 | hx1 | hx1
  ·
   refine G_region (l := [0, 1, 2, 3, 4, 5, 6, 7, 8, 9]) rfl ?_
   refine G_val rfl rfl rfl rfl (V_loadW (s := 6) rfl rfl (mem_at 3 rfl) Tryz.underlying36 rfl infJourF_36 rfl (by rfl)) ?_
   refine G_val rfl rfl rfl rfl (V_fieldAddr (fo := 1) rfl Tryz.underlying42 rfl infJourF_9 rfl rfl rfl) ?_
   refine G_val rfl rfl rfl rfl (V_load1 rfl rfl (mem_at 2 rfl) rfl Tryz.underlying9 rfl) ?_
   refine G_call (L2 := [_, _, _, _, _, _, _, _]) rfl rfl rfl rfl rfl rfl Tryz.call18 (rj_anew_full n R a (by omega) (by omega) text recs u e (by omega) x.2 (by omega) hx1) [] [] rfl rfl ?_
   rintro v post ⟨rfl, rfl⟩
   show G _ _ _ [_, _, _, _, _, _, _, _] _
   refine G_val rfl rfl rfl rfl (V_move rfl rfl) ?_
   refine G_val rfl rfl rfl rfl (V_extract rfl rfl rfl) ?_
   refine G_val rfl rfl rfl rfl (V_extract rfl rfl rfl) ?_
   refine G_new rfl rfl rfl rfl (N_allocA rfl infJourF_36 rfl) (fun b13 => ?_)
   refine G_put (l1 := []) (L' := [_, _, _, _, _, _, _, _, _]) rfl rfl rfl rfl (P_storeA (s := 6) rfl rfl rfl (mem_at 0 rfl) (by rfl) infJourF_36 rfl (by rfl) (by simp [Value.oneCell', spCells, pCells, wCells, kCells, rgC, lgC, rdC, Sl.v, zeroF, foundC, jC, wC, acC])) rfl ?_
   refine G_val rfl rfl rfl rfl (V_assign rfl rfl) ?_
   refine G_done ?_
   refine G_seq ?_
   refine G_region (l := [0, 1, 2, 3, 4, 5]) rfl ?_
   refine G_val rfl rfl rfl rfl (V_move rfl rfl) ?_
   refine G_val rfl rfl rfl rfl (V_fieldAddr (fo := 1) rfl Tryz.underlying42 rfl infJourF_9 rfl rfl rfl) ?_
   refine G_val rfl rfl rfl rfl (V_load1 rfl rfl (mem_at 3 rfl) rfl Tryz.underlying9 rfl) ?_
   refine G_call (L2 := [_, _, _, _, _, _, _, _, _]) rfl rfl rfl rfl rfl rfl Tryz.call19 (jn_anew_full d n lb lcap lcs uw k h R sp text recs j g hj.jd x.2 (by omega) hx1) [] [5] rfl rfl ?_
   rintro v post ⟨rfl, rfl⟩
   show G _ _ _ [_, _, _, _, _, _, _, _, _] _
   refine G_call (L2 := [_, _, _, _, _, _, _, _, _]) rfl rfl rfl rfl rfl rfl Tryz.call9 (jl_num _) [] [] rfl rfl ?_
   rintro v post ⟨rfl, rfl⟩
   show G _ _ _ [_, _, _, _, _, _, _, _, _] _
   refine G_val rfl rfl rfl rfl (V_assign rfl rfl) ?_
   refine G_done ?_
   refine G_seq ?_
   refine G_seq ?_
   refine G_region (l := [0, 1, 2, 3, 4, 5, 6]) rfl ?_
   refine G_val rfl rfl rfl rfl (V_move rfl rfl) ?_
   refine G_val rfl rfl rfl rfl (V_neq rfl rfl rfl) ?_
   refine G_val rfl rfl rfl rfl (V_move rfl rfl) ?_
   refine G_splitD 63 rfl (fun hc3 => ?_) (fun hc3 => ?_)
   rotate_left
   · (first | (exact absurd rfl hc3) | (exact absurd hc3 (by decide)) | (exact absurd (by decide) hc3) | (exfalso; omega) | (exfalso; simp at hc3; done))
   refine G_val rfl rfl rfl rfl (V_move rfl rfl) ?_
   refine G_val rfl rfl rfl rfl (V_move rfl rfl) ?_
   refine G_val rfl rfl rfl rfl (V_neq rfl rfl rfl) ?_
   refine G_val rfl rfl rfl rfl (V_pickT rfl rfl rfl) ?_
   refine G_done ?_
   refine G_ifD rfl (fun hc4 => ?_) (fun hc4 => ?_)
   · (first | (exact absurd rfl hc4) | (exact absurd hc4 (by decide)) | (exact absurd (by decide) hc4) | (exfalso; omega) | (exfalso; simp at hc4; done))
   refine G_skip ?_
   refine G_seq ?_
   refine GH_start (Lq := [_]) (isq := [0]) (m := 4) mixedK rfl rfl ?_
   refine GH_take 0 rfl rfl rfl rfl (by kernel_rfl) (by kernel_rfl) (by kernel_rfl) (fun _ _ => (V_move rfl rfl)) ?_
   refine GH_take 1 rfl rfl rfl rfl (by kernel_rfl) (by kernel_rfl) (by kernel_rfl) (fun _ _ => (V_loadW (s := 6) rfl rfl (mem_at 1 rfl) Tryz.underlying36 rfl infJourF_36 rfl (by rfl))) ?_
   refine GH_take 2 rfl rfl rfl rfl (by kernel_rfl) (by kernel_rfl) (by kernel_rfl) (fun _ _ => (V_assign rfl rfl)) ?_
   refine GH_all [3] (by kernel_rfl) (by decide) ?_
   refine (And.intro ?_ trivial)
   ·
    refine GHop_put (l1 := [_]) (L' := [_, _, _, _, _, _, _, _, _]) rfl rfl rfl rfl (P_storeA (s := 6) rfl rfl rfl (mem_at 1 rfl) (by rfl) infJourF_36 rfl (by rfl) (by simp [Value.oneCell', spCells, pCells, wCells, kCells, rgC, lgC, rdC, Sl.v, zeroF, foundC, jC, wC, acC])) rfl [0] rfl ?_
    refine GH_done (by kernel_rfl) ?_
    refine G_ret (post := [_, _, _]) Tryz.func25 rfl (RVs_cons (RV_tmp rfl) (RVs_cons (RV_cell (s := 6) rfl (mem_at 2 rfl) Tryz.underlying36 rfl infJourF_36 rfl (by rfl)) RVs_nil)) [6, 6, 6] rfl ?_
    dsimp only [packed]
    first
      | exact .inr ⟨_, _, lcs1, uw1, _, _, un, _, h1, .inl ⟨by decide, sp, by omega, hx1.2.2⟩, hun, by omega, by omega, rfl, rfl⟩
      | exact .inr ⟨_, _, lcs1, uw1, _, _, un, _, h1, .inr ⟨rfl, fun ks => ⟨sp, by omega, hx1.2.2 ks⟩⟩, hun, by omega, by omega, rfl, rfl⟩
      | exact .inr ⟨_, _, lcs1, uw1, _, [], un, _, h1, .inl ⟨by decide, _, by omega, hx1.2.2⟩, hun, by omega, by omega, rfl, rfl⟩
      | exact .inr ⟨_, _, lcs1, uw1, _, [], un, _, h1, .inr ⟨rfl, fun ks => (hx1.2.2 ks).elim (fun q => ⟨sp, by omega, .inl q⟩) (fun q => ⟨_, by omega, .inr q⟩)⟩, hun, by omega, by omega, rfl, rfl⟩
      | exact .inl ⟨_, _, lcs1, uw1, h1, .inl ⟨by decide, _, by omega, hx1.2⟩, rfl, rfl⟩
      | exact .inl ⟨_, _, lcs1, uw1, h1, .inr ⟨rfl, fun ks => (hx1.2 ks).elim (fun q => ⟨sp, by omega, .inl q⟩) (fun q => ⟨_, by omega, .inl q⟩)⟩, rfl, rfl⟩
      | exact .inl ⟨_, _, lcs1, uw1, h1, .inl ⟨by decide, sp, by omega, hj.jd⟩, rfl, rfl⟩
      | exact .inl ⟨_, _, lcs, uw, h, .inl ⟨by decide, sp, by omega, hj.jd⟩, rfl, rfl⟩
  ·
   refine G_region (l := [0, 1, 2, 3, 4, 5, 6, 7, 8, 9]) rfl ?_
   refine G_val rfl rfl rfl rfl (V_loadW (s := 6) rfl rfl (mem_at 3 rfl) Tryz.underlying36 rfl infJourF_36 rfl (by rfl)) ?_
   refine G_val rfl rfl rfl rfl (V_fieldAddr (fo := 1) rfl Tryz.underlying42 rfl infJourF_9 rfl rfl rfl) ?_
   refine G_val rfl rfl rfl rfl (V_load1 rfl rfl (mem_at 2 rfl) rfl Tryz.underlying9 rfl) ?_
   refine G_call (L2 := [_, _, _, _, _, _, _, _]) rfl rfl rfl rfl rfl rfl Tryz.call18 (rj_anew n R a (by omega) (by omega) text recs u e (by omega) x.2 (by omega) hx1.1) [] [] rfl rfl ?_
   rintro v post ⟨un, hun, rfl, rfl⟩
   show G _ _ _ [_, _, _, _, _, _, _, _, _] _
   refine G_val rfl rfl rfl rfl (V_move rfl rfl) ?_
   refine G_val rfl rfl rfl rfl (V_extract rfl rfl rfl) ?_
   refine G_val rfl rfl rfl rfl (V_extract rfl rfl rfl) ?_
   refine G_new rfl rfl rfl rfl (N_allocA rfl infJourF_36 rfl) (fun b13 => ?_)
   refine G_put (l1 := []) (L' := [_, _, _, _, _, _, _, _, _, _]) rfl rfl rfl rfl (P_storeA (s := 6) rfl rfl rfl (mem_at 0 rfl) (by rfl) infJourF_36 rfl (by rfl) (by simp [Value.oneCell', spCells, pCells, wCells, kCells, rgC, lgC, rdC, Sl.v, zeroF, foundC, jC, wC, acC])) rfl ?_
   refine G_val rfl rfl rfl rfl (V_assign rfl rfl) ?_
   refine G_done ?_
   refine G_seq ?_
   refine G_region (l := [0, 1, 2, 3, 4, 5]) rfl ?_
   refine G_val rfl rfl rfl rfl (V_move rfl rfl) ?_
   refine G_val rfl rfl rfl rfl (V_fieldAddr (fo := 1) rfl Tryz.underlying42 rfl infJourF_9 rfl rfl rfl) ?_
   refine G_val rfl rfl rfl rfl (V_load1 rfl rfl (mem_at 4 rfl) rfl Tryz.underlying9 rfl) ?_
   refine G_call (L2 := [_, _, _, _, _, _]) rfl rfl rfl rfl rfl rfl Tryz.call19 (jn_anew d n lb lcap lcs uw k h R sp text recs j g hj.jd x.2 (by omega) hx1.1 hx1.2.1) [5, 6, 6, 6] [] rfl rfl ?_
   rintro v post ⟨rfl, lcs1, uw1, g1, h1, rfl⟩
   show G _ _ _ [_, _, _, _, _, _, _, _, _, _, _] _
   refine G_call (L2 := [_, _, _, _, _, _, _, _, _, _, _]) rfl rfl rfl rfl rfl rfl Tryz.call9 (jl_num _) [] [] rfl rfl ?_
   rintro v post ⟨rfl, rfl⟩
   show G _ _ _ [_, _, _, _, _, _, _, _, _, _, _] _
   refine G_val rfl rfl rfl rfl (V_assign rfl rfl) ?_
   refine G_done ?_
   refine G_seq ?_
   refine G_seq ?_
   refine G_region (l := [0, 1, 2, 3, 4, 5, 6]) rfl ?_
   refine G_val rfl rfl rfl rfl (V_move rfl rfl) ?_
   refine G_val rfl rfl rfl rfl (V_neq rfl rfl rfl) ?_
   refine G_val rfl rfl rfl rfl (V_move rfl rfl) ?_
   refine G_splitD 63 rfl (fun hc3 => ?_) (fun hc3 => ?_)
   · (first | (exact absurd rfl hc3) | (exact absurd hc3 (by decide)) | (exact absurd (by decide) hc3) | (exfalso; omega) | (exfalso; simp at hc3; done))
   refine G_off rfl rfl rfl rfl ?_
   refine G_off rfl rfl rfl rfl ?_
   refine G_off rfl rfl rfl rfl ?_
   refine G_val rfl rfl rfl rfl (V_pickF rfl rfl rfl) ?_
   refine G_done ?_
   refine G_else rfl ?_
   refine G_skip ?_
   refine G_seq ?_
   refine GH_start (Lq := [_]) (isq := [5]) (m := 4) mixedK rfl rfl ?_
   refine GH_take 0 rfl rfl rfl rfl (by kernel_rfl) (by kernel_rfl) (by kernel_rfl) (fun _ _ => (V_move rfl rfl)) ?_
   refine GH_take 1 rfl rfl rfl rfl (by kernel_rfl) (by kernel_rfl) (by kernel_rfl) (fun _ _ => (V_loadW (s := 6) rfl rfl (mem_at 1 rfl) Tryz.underlying36 rfl infJourF_36 rfl (by rfl))) ?_
   refine GH_take 2 rfl rfl rfl rfl (by kernel_rfl) (by kernel_rfl) (by kernel_rfl) (fun _ _ => (V_assign rfl rfl)) ?_
   refine GH_all [3] (by kernel_rfl) (by decide) ?_
   refine (And.intro ?_ trivial)
   ·
    refine GHop_put (l1 := [_, _, _, _, _, _, _]) (L' := [_, _, _, _, _, _, _, _, _, _, _]) rfl rfl rfl rfl (P_storeA (s := 6) rfl rfl rfl (mem_at 7 rfl) (by rfl) infJourF_36 rfl (by rfl) (by simp [Value.oneCell', spCells, pCells, wCells, kCells, rgC, lgC, rdC, Sl.v, zeroF, foundC, jC, wC, acC])) rfl [5] rfl ?_
    refine GH_done (by kernel_rfl) ?_
    refine G_ret (post := [_, _, _, _]) Tryz.func25 rfl (RVs_cons (RV_tmp rfl) (RVs_cons (RV_cell (s := 6) rfl (mem_at 8 rfl) Tryz.underlying36 rfl infJourF_36 rfl (by rfl)) RVs_nil)) [1, 1, 1, 3] rfl ?_
    dsimp only [packed]
    first
      | exact .inr ⟨_, _, lcs1, uw1, _, _, un, _, h1, .inl ⟨by decide, sp, by omega, hx1.2.2⟩, hun, by omega, by omega, rfl, rfl⟩
      | exact .inr ⟨_, _, lcs1, uw1, _, _, un, _, h1, .inr ⟨rfl, fun ks => ⟨sp, by omega, hx1.2.2 ks⟩⟩, hun, by omega, by omega, rfl, rfl⟩
      | exact .inr ⟨_, _, lcs1, uw1, _, [], un, _, h1, .inl ⟨by decide, _, by omega, hx1.2.2⟩, hun, by omega, by omega, rfl, rfl⟩
      | exact .inr ⟨_, _, lcs1, uw1, _, [], un, _, h1, .inr ⟨rfl, fun ks => (hx1.2.2 ks).elim (fun q => ⟨sp, by omega, .inl q⟩) (fun q => ⟨_, by omega, .inr q⟩)⟩, hun, by omega, by omega, rfl, rfl⟩
      | exact .inl ⟨_, _, lcs1, uw1, h1, .inl ⟨by decide, _, by omega, hx1.2⟩, rfl, rfl⟩
      | exact .inl ⟨_, _, lcs1, uw1, h1, .inr ⟨rfl, fun ks => (hx1.2 ks).elim (fun q => ⟨sp, by omega, .inl q⟩) (fun q => ⟨_, by omega, .inl q⟩)⟩, rfl, rfl⟩
      | exact .inl ⟨_, _, lcs1, uw1, h1, .inl ⟨by decide, sp, by omega, hj.jd⟩, rfl, rfl⟩
      | exact .inl ⟨_, _, lcs, uw, h, .inl ⟨by decide, sp, by omega, hj.jd⟩, rfl, rfl⟩
  ·
   refine G_region (l := [0, 1, 2, 3, 4, 5, 6, 7, 8, 9]) rfl ?_
   refine G_val rfl rfl rfl rfl (V_loadW (s := 6) rfl rfl (mem_at 3 rfl) Tryz.underlying36 rfl infJourF_36 rfl (by rfl)) ?_
   refine G_val rfl rfl rfl rfl (V_fieldAddr (fo := 1) rfl Tryz.underlying42 rfl infJourF_9 rfl rfl rfl) ?_
   refine G_val rfl rfl rfl rfl (V_load1 rfl rfl (mem_at 2 rfl) rfl Tryz.underlying9 rfl) ?_
   refine G_call (L2 := [_, _, _, _, _, _, _, _]) rfl rfl rfl rfl rfl rfl Tryz.call18 (rj_anew n R a (by omega) (by omega) text recs u e (by omega) x.2 (by omega) hx1.1) [] [] rfl rfl ?_
   rintro v post ⟨un, hun, rfl, rfl⟩
   show G _ _ _ [_, _, _, _, _, _, _, _, _] _
   refine G_val rfl rfl rfl rfl (V_move rfl rfl) ?_
   refine G_val rfl rfl rfl rfl (V_extract rfl rfl rfl) ?_
   refine G_val rfl rfl rfl rfl (V_extract rfl rfl rfl) ?_
   refine G_new rfl rfl rfl rfl (N_allocA rfl infJourF_36 rfl) (fun b13 => ?_)
   refine G_put (l1 := []) (L' := [_, _, _, _, _, _, _, _, _, _]) rfl rfl rfl rfl (P_storeA (s := 6) rfl rfl rfl (mem_at 0 rfl) (by rfl) infJourF_36 rfl (by rfl) (by simp [Value.oneCell', spCells, pCells, wCells, kCells, rgC, lgC, rdC, Sl.v, zeroF, foundC, jC, wC, acC])) rfl ?_
   refine G_val rfl rfl rfl rfl (V_assign rfl rfl) ?_
   refine G_done ?_
   refine G_seq ?_
   refine G_region (l := [0, 1, 2, 3, 4, 5]) rfl ?_
   refine G_val rfl rfl rfl rfl (V_move rfl rfl) ?_
   refine G_val rfl rfl rfl rfl (V_fieldAddr (fo := 1) rfl Tryz.underlying42 rfl infJourF_9 rfl rfl rfl) ?_
   refine G_val rfl rfl rfl rfl (V_load1 rfl rfl (mem_at 4 rfl) rfl Tryz.underlying9 rfl) ?_
   refine G_call (L2 := [_, _, _, _, _, _, _]) rfl rfl rfl rfl rfl rfl Tryz.call19 (jn_anew_21 d n lb lcap lcs uw k h R sp text recs j g hj.jd x.2 (by omega) hx1.1 hx1.2.1) [7, 7, 7] [6] rfl rfl ?_
   rintro v post ⟨rfl, lcs1, uw1, h1, rfl⟩
   show G _ _ _ [_, _, _, _, _, _, _, _, _, _] _
   refine G_call (L2 := [_, _, _, _, _, _, _, _, _, _]) rfl rfl rfl rfl rfl rfl Tryz.call9 (jl_num _) [] [] rfl rfl ?_
   rintro v post ⟨rfl, rfl⟩
   show G _ _ _ [_, _, _, _, _, _, _, _, _, _] _
   refine G_val rfl rfl rfl rfl (V_assign rfl rfl) ?_
   refine G_done ?_
   refine G_seq ?_
   refine G_seq ?_
   refine G_region (l := [0, 1, 2, 3, 4, 5, 6]) rfl ?_
   refine G_val rfl rfl rfl rfl (V_move rfl rfl) ?_
   refine G_val rfl rfl rfl rfl (V_neq rfl rfl rfl) ?_
   refine G_val rfl rfl rfl rfl (V_move rfl rfl) ?_
   refine G_splitD 63 rfl (fun hc3 => ?_) (fun hc3 => ?_)
   rotate_left
   · (first | (exact absurd rfl hc3) | (exact absurd hc3 (by decide)) | (exact absurd (by decide) hc3) | (exfalso; omega) | (exfalso; simp at hc3; done))
   refine G_val rfl rfl rfl rfl (V_move rfl rfl) ?_
   refine G_val rfl rfl rfl rfl (V_move rfl rfl) ?_
   refine G_val rfl rfl rfl rfl (V_neq rfl rfl rfl) ?_
   refine G_val rfl rfl rfl rfl (V_pickT rfl rfl rfl) ?_
   refine G_done ?_
   refine G_ifD rfl (fun hc4 => ?_) (fun hc4 => ?_)
   rotate_left
   · (first | (exact absurd rfl hc4) | (exact absurd hc4 (by decide)) | (exact absurd (by decide) hc4) | (exfalso; omega) | (exfalso; simp at hc4; done))
   refine G_seq ?_
   refine GH_start (Lq := [_]) (isq := [3]) (m := 4) mixedK rfl rfl ?_
   refine GH_take 0 rfl rfl rfl rfl (by kernel_rfl) (by kernel_rfl) (by kernel_rfl) (fun _ _ => (V_move rfl rfl)) ?_
   refine GH_take 1 rfl rfl rfl rfl (by kernel_rfl) (by kernel_rfl) (by kernel_rfl) (fun _ _ => (V_loadW (s := 6) rfl rfl (mem_at 1 rfl) Tryz.underlying36 rfl infJourF_36 rfl (by rfl))) ?_
   refine GH_take 2 rfl rfl rfl rfl (by kernel_rfl) (by kernel_rfl) (by kernel_rfl) (fun _ _ => (V_assign rfl rfl)) ?_
   refine GH_all [3] (by kernel_rfl) (by decide) ?_
   refine (And.intro ?_ trivial)
   ·
    refine GHop_put (l1 := [_, _, _, _, _]) (L' := [_, _, _, _, _, _, _, _, _, _]) rfl rfl rfl rfl (P_storeA (s := 6) rfl rfl rfl (mem_at 5 rfl) (by rfl) infJourF_36 rfl (by rfl) (by simp [Value.oneCell', spCells, pCells, wCells, kCells, rgC, lgC, rdC, Sl.v, zeroF, foundC, jC, wC, acC])) rfl [3] rfl ?_
    refine GH_done (by kernel_rfl) ?_
    refine G_ret (post := [_, _, _, _]) Tryz.func25 rfl (RVs_cons (RV_tmp rfl) (RVs_cons (RV_cell (s := 6) rfl (mem_at 6 rfl) Tryz.underlying36 rfl infJourF_36 rfl (by rfl)) RVs_nil)) [0, 0, 0, 1] rfl ?_
    dsimp only [packed]
    first
      | exact .inr ⟨_, _, lcs1, uw1, _, _, un, _, h1, .inl ⟨by decide, sp, by omega, hx1.2.2⟩, hun, by omega, by omega, rfl, rfl⟩
      | exact .inr ⟨_, _, lcs1, uw1, _, _, un, _, h1, .inr ⟨rfl, fun ks => ⟨sp, by omega, hx1.2.2 ks⟩⟩, hun, by omega, by omega, rfl, rfl⟩
      | exact .inr ⟨_, _, lcs1, uw1, _, [], un, _, h1, .inl ⟨by decide, _, by omega, hx1.2.2⟩, hun, by omega, by omega, rfl, rfl⟩
      | exact .inr ⟨_, _, lcs1, uw1, _, [], un, _, h1, .inr ⟨rfl, fun ks => (hx1.2.2 ks).elim (fun q => ⟨sp, by omega, .inl q⟩) (fun q => ⟨_, by omega, .inr q⟩)⟩, hun, by omega, by omega, rfl, rfl⟩
      | exact .inl ⟨_, _, lcs1, uw1, h1, .inl ⟨by decide, _, by omega, hx1.2⟩, rfl, rfl⟩
      | exact .inl ⟨_, _, lcs1, uw1, h1, .inr ⟨rfl, fun ks => (hx1.2 ks).elim (fun q => ⟨sp, by omega, .inl q⟩) (fun q => ⟨_, by omega, .inl q⟩)⟩, rfl, rfl⟩
      | exact .inl ⟨_, _, lcs1, uw1, h1, .inl ⟨by decide, sp, by omega, hj.jd⟩, rfl, rfl⟩
      | exact .inl ⟨_, _, lcs, uw, h, .inl ⟨by decide, sp, by omega, hj.jd⟩, rfl, rfl⟩
 refine G_skip ?_
 refine G_inBlock ?_
 refine G_seq ?_
 rcases open2 hj.jd hq with hx1 | hx1
 ·
  refine G_region (l := [0, 1, 2, 3, 4, 5, 6, 7, 8, 9, 10, 11, 12]) rfl ?_
  refine G_val rfl rfl rfl rfl (V_move rfl rfl) ?_
  refine G_val rfl rfl rfl rfl (V_fieldAddr (fo := 4) rfl Tryz.underlying36 rfl infJourF_3 rfl rfl rfl) ?_
  refine G_val rfl rfl rfl rfl (V_load1 rfl rfl (mem_at 3 rfl) rfl Tryz.underlying3 rfl) ?_
  refine G_call (L2 := [_, _, _, _, _]) rfl rfl rfl rfl rfl rfl Tryz.call14 (jn_open d n lb lcap lcs uw k h R sp text recs hj.jd hx1.1) [5, 5, 5] [] rfl rfl ?_
  rintro v post ⟨lcs1, uw1, j1, g1, u1, h1, hu1, rfl, rfl⟩
  show G _ _ _ [_, _, _, _, _, _, _, _, _, _, _] _
  refine G_val rfl rfl rfl rfl (V_move rfl rfl) ?_
  refine G_val rfl rfl rfl rfl (V_extract rfl rfl rfl) ?_
  refine G_val rfl rfl rfl rfl (V_extract rfl rfl rfl) ?_
  refine G_val rfl rfl rfl rfl (V_extract rfl rfl rfl) ?_
  refine G_val rfl rfl rfl rfl (V_extract rfl rfl rfl) ?_
  refine G_val rfl rfl rfl rfl (V_assign rfl rfl) ?_
  refine G_val rfl rfl rfl rfl (V_assign rfl rfl) ?_
  refine G_val rfl rfl rfl rfl (V_assign rfl rfl) ?_
  refine G_val rfl rfl rfl rfl (V_assign rfl rfl) ?_
  refine G_done ?_
  refine G_seq ?_
  refine GH_start (Lq := [_]) (isq := [8]) (m := 5) mixedK rfl rfl ?_
  refine GH_take 0 rfl rfl rfl rfl (by kernel_rfl) (by kernel_rfl) (by kernel_rfl) (fun _ _ => (V_move rfl rfl)) ?_
  refine GH_take 2 rfl rfl rfl rfl (by kernel_rfl) (by kernel_rfl) (by kernel_rfl) (fun _ _ => (V_loadW (s := 6) rfl rfl (mem_at 1 rfl) Tryz.underlying36 rfl infJourF_36 rfl (by rfl))) ?_
  refine GH_all [1] (by kernel_rfl) (by decide) ?_
  refine (And.intro ?_ trivial)
  ·
   refine GHop_call (L2 := [_, _, _, _, _, _, _, _, _, _, _]) rfl rfl rfl rfl rfl rfl Tryz.call9 (jl_num _) [] [] rfl rfl [8] (by rintro v post ⟨rfl, rfl⟩; exact ⟨_, rfl⟩) ?_
   rintro v post ⟨rfl, rfl⟩
   show GH _ _ _ _ _ _ _ [_, _, _, _, _, _, _, _, _, _, _] _
   refine GH_take 3 rfl rfl rfl rfl (by kernel_rfl) (by kernel_rfl) (by kernel_rfl) (fun _ _ => (V_assign rfl rfl)) ?_
   refine GH_all [4] (by kernel_rfl) (by decide) ?_
   refine (And.intro ?_ trivial)
   ·
    refine GHop_put (l1 := [_, _, _, _, _, _]) (L' := [_, _, _, _, _, _, _, _, _, _, _]) rfl rfl rfl rfl (P_storeA (s := 6) rfl rfl rfl (mem_at 6 rfl) (by rfl) infJourF_36 rfl (by rfl) (by simp [Value.oneCell', spCells, pCells, wCells, kCells, rgC, lgC, rdC, Sl.v, zeroF, foundC, jC, wC, acC])) rfl [8] rfl ?_
    refine GH_done (by kernel_rfl) ?_
    refine G_ret (post := [_, _, _]) Tryz.func25 rfl (RVs_cons (RV_tmp rfl) (RVs_cons (RV_cell (s := 6) rfl (mem_at 7 rfl) Tryz.underlying36 rfl infJourF_36 rfl (by rfl)) RVs_nil)) [0, 0, 0] rfl ?_
    dsimp only [packed]
    first
      | exact .inr ⟨_, _, lcs1, uw1, _, _, un, _, h1, .inl ⟨by decide, sp, by omega, hx1.2.2⟩, hun, by omega, by omega, rfl, rfl⟩
      | exact .inr ⟨_, _, lcs1, uw1, _, _, un, _, h1, .inr ⟨rfl, fun ks => ⟨sp, by omega, hx1.2.2 ks⟩⟩, hun, by omega, by omega, rfl, rfl⟩
      | exact .inr ⟨_, _, lcs1, uw1, _, [], un, _, h1, .inl ⟨by decide, _, by omega, hx1.2.2⟩, hun, by omega, by omega, rfl, rfl⟩
      | exact .inr ⟨_, _, lcs1, uw1, _, [], un, _, h1, .inr ⟨rfl, fun ks => (hx1.2.2 ks).elim (fun q => ⟨sp, by omega, .inl q⟩) (fun q => ⟨_, by omega, .inr q⟩)⟩, hun, by omega, by omega, rfl, rfl⟩
      | exact .inl ⟨_, _, lcs1, uw1, h1, .inl ⟨by decide, _, by omega, hx1.2⟩, rfl, rfl⟩
      | exact .inl ⟨_, _, lcs1, uw1, h1, .inr ⟨rfl, fun ks => (hx1.2 ks).elim (fun q => ⟨sp, by omega, .inl q⟩) (fun q => ⟨_, by omega, .inl q⟩)⟩, rfl, rfl⟩
      | exact .inl ⟨_, _, lcs1, uw1, h1, .inl ⟨by decide, sp, by omega, hj.jd⟩, rfl, rfl⟩
      | exact .inl ⟨_, _, lcs, uw, h, .inl ⟨by decide, sp, by omega, hj.jd⟩, rfl, rfl⟩
 ·
  refine G_region (l := [0, 1, 2, 3, 4, 5, 6, 7, 8, 9, 10, 11, 12]) rfl ?_
  refine G_val rfl rfl rfl rfl (V_move rfl rfl) ?_
  refine G_val rfl rfl rfl rfl (V_fieldAddr (fo := 4) rfl Tryz.underlying36 rfl infJourF_3 rfl rfl rfl) ?_
  refine G_val rfl rfl rfl rfl (V_load1 rfl rfl (mem_at 3 rfl) rfl Tryz.underlying3 rfl) ?_
  refine G_call (L2 := [_, _, _, _, _]) rfl rfl rfl rfl rfl rfl Tryz.call14 (jn_open_21 d n lb lcap lcs uw k h R sp text recs hj.jd hx1.1) [5, 5, 5] [] rfl rfl ?_
  rintro v post ⟨rfl, lcs1, uw1, h1, rfl⟩
  show G _ _ _ [_, _, _, _, _, _, _, _] _
  refine G_val rfl rfl rfl rfl (V_move rfl rfl) ?_
  refine G_val rfl rfl rfl rfl (V_extract rfl rfl rfl) ?_
  refine G_val rfl rfl rfl rfl (V_extract rfl rfl rfl) ?_
  refine G_val rfl rfl rfl rfl (V_extract rfl rfl rfl) ?_
  refine G_val rfl rfl rfl rfl (V_extract rfl rfl rfl) ?_
  refine G_val rfl rfl rfl rfl (V_assign rfl rfl) ?_
  refine G_val rfl rfl rfl rfl (V_assign rfl rfl) ?_
  refine G_val rfl rfl rfl rfl (V_assign rfl rfl) ?_
  refine G_val rfl rfl rfl rfl (V_assign rfl rfl) ?_
  refine G_done ?_
  refine G_seq ?_
  refine GH_start (Lq := [_]) (isq := [5]) (m := 5) mixedK rfl rfl ?_
  refine GH_take 0 rfl rfl rfl rfl (by kernel_rfl) (by kernel_rfl) (by kernel_rfl) (fun _ _ => (V_move rfl rfl)) ?_
  refine GH_take 2 rfl rfl rfl rfl (by kernel_rfl) (by kernel_rfl) (by kernel_rfl) (fun _ _ => (V_loadW (s := 6) rfl rfl (mem_at 1 rfl) Tryz.underlying36 rfl infJourF_36 rfl (by rfl))) ?_
  refine GH_all [1] (by kernel_rfl) (by decide) ?_
  refine (And.intro ?_ trivial)
  ·
   refine GHop_call (L2 := [_, _, _, _, _, _, _, _]) rfl rfl rfl rfl rfl rfl Tryz.call9 (jl_num _) [] [] rfl rfl [5] (by rintro v post ⟨rfl, rfl⟩; exact ⟨_, rfl⟩) ?_
   rintro v post ⟨rfl, rfl⟩
   show GH _ _ _ _ _ _ _ [_, _, _, _, _, _, _, _] _
   refine GH_take 3 rfl rfl rfl rfl (by kernel_rfl) (by kernel_rfl) (by kernel_rfl) (fun _ _ => (V_assign rfl rfl)) ?_
   refine GH_all [4] (by kernel_rfl) (by decide) ?_
   refine (And.intro ?_ trivial)
   ·
    refine GHop_put (l1 := [_, _, _]) (L' := [_, _, _, _, _, _, _, _]) rfl rfl rfl rfl (P_storeA (s := 6) rfl rfl rfl (mem_at 3 rfl) (by rfl) infJourF_36 rfl (by rfl) (by simp [Value.oneCell', spCells, pCells, wCells, kCells, rgC, lgC, rdC, Sl.v, zeroF, foundC, jC, wC, acC])) rfl [5] rfl ?_
    refine GH_done (by kernel_rfl) ?_
    refine G_ret (post := [_, _, _]) Tryz.func25 rfl (RVs_cons (RV_tmp rfl) (RVs_cons (RV_cell (s := 6) rfl (mem_at 4 rfl) Tryz.underlying36 rfl infJourF_36 rfl (by rfl)) RVs_nil)) [0, 0, 0] rfl ?_
    dsimp only [packed]
    first
      | exact .inr ⟨_, _, lcs1, uw1, _, _, un, _, h1, .inl ⟨by decide, sp, by omega, hx1.2.2⟩, hun, by omega, by omega, rfl, rfl⟩
      | exact .inr ⟨_, _, lcs1, uw1, _, _, un, _, h1, .inr ⟨rfl, fun ks => ⟨sp, by omega, hx1.2.2 ks⟩⟩, hun, by omega, by omega, rfl, rfl⟩
      | exact .inr ⟨_, _, lcs1, uw1, _, [], un, _, h1, .inl ⟨by decide, _, by omega, hx1.2.2⟩, hun, by omega, by omega, rfl, rfl⟩
      | exact .inr ⟨_, _, lcs1, uw1, _, [], un, _, h1, .inr ⟨rfl, fun ks => (hx1.2.2 ks).elim (fun q => ⟨sp, by omega, .inl q⟩) (fun q => ⟨_, by omega, .inr q⟩)⟩, hun, by omega, by omega, rfl, rfl⟩
      | exact .inl ⟨_, _, lcs1, uw1, h1, .inl ⟨by decide, _, by omega, hx1.2⟩, rfl, rfl⟩
      | exact .inl ⟨_, _, lcs1, uw1, h1, .inr ⟨rfl, fun ks => (hx1.2 ks).elim (fun q => ⟨sp, by omega, .inl q⟩) (fun q => ⟨_, by omega, .inl q⟩)⟩, rfl, rfl⟩
      | exact .inl ⟨_, _, lcs1, uw1, h1, .inl ⟨by decide, sp, by omega, hj.jd⟩, rfl, rfl⟩
      | exact .inl ⟨_, _, lcs, uw, h, .inl ⟨by decide, sp, by omega, hj.jd⟩, rfl, rfl⟩

end
end Go.Proofs.YtbblkgdejgoncaaGreatDoor

/- From a law's walk to the form of a row that lists package-level variables: one lemma for all laws of such a seat. -/
namespace Go.Proofs.YtbblkgdejgoncaaGreatDoor
open Go.ChangeShapes Go.WideShapes Go.ChangeAt Go.RowKit

set_option maxRecDepth 100000 in
theorem law_end {f : FuncId} {F : Func} {s : ChangeSpec} {H : Type} {enc : TypeId × Value → H}
    (hvars : s.vars = []) (hrt : F.resultTypes.toList = [4]) (hrs : F.resultTypes.size = 1)
    (hread : ∀ t ∈ F.params.toList, Tryz.prog.readableRec t = true ∧ t < Tryz.prog.types.size)
    (hspec : ∀ ds : List (DataW H), ds.length = F.params.toList.length → s.fn H (ds ++ []) = { results := [.lit (.bool true)], args := ds })
    (walk : LawWalk f F) (W : World) (base : Nat) (args : Array Value) (ds gs : List (DataW H)) (before : List MemPlace)
    (hval : ∀ (j : Nat) t v, F.params[j]? = some t → args[j]? = some v → Value.okWide Tryz.prog W .any base t v)
    (hW : DataW.Whole enc Tryz.prog F.params.toList s.vars false W args.toList ds gs before) :
    Calls Tryz.prog f args W fun e W' => ∃ v, e = .returned v ∧ s.post enc Tryz.prog F false true false false W args v W' := by
  have hW' := hW
  obtain ⟨p, q, hA, hV, rfl, hfz, hnd⟩ := hW
  rw [hvars] at hV
  obtain ⟨rfl, rfl⟩ := trodVars_none hV
  have hlen := trodAll_len _ _ _ _ hA
  refine (walk H enc W base args ds p hval hA).mono fun e W' ⟨he, hb⟩ => ?_
  subst he
  refine ⟨_, rfl, ds, [], _, [], p, [], hW', ?_, ?_, ?_, hb.frame _, fun h => by cases h⟩
  rotate_left
  · rw [hspec ds hlen]
    exact trodAll_below Tryz.laidOutK hb _ _ _ _ hread hA
  · rw [hvars, hspec ds hlen]
    rfl
  · rw [hspec ds hlen, hrt, hrs]
    exact trodAll_mk1 (shut_bool Tryz.underlying4 _)
end Go.Proofs.YtbblkgdejgoncaaGreatDoor

/- The address of an array's element. No program in sight. -/
set_option linter.unusedSimpArgs false
set_option linter.unusedVariables false
namespace Go.Proofs.YtbblkgdejgoncaaGreatDoor
open Go Go.RowKit

section
variable {c : Cx} {n : Nat} {env : List (Nat × Value)} {L : List (Option Nat × Obj)} {o : Oper}
theorem V_aindexAddr {x y : Operand} {t e : TypeId} {m : Nat} {ti : TypeInfo} {q : IntKind} {b off s : Nat} {z : Int} (hop : o.op = .indexAddr t x y) (hu : c.P.underlying t = some (.array m e)) (hs : c.P.info? e = some ti) (hz : ti.size = s) (hx : fev env x = some (.pointer (some ⟨b, off, none⟩))) (hy : fev env y = some (.int q z)) (h0 : 0 ≤ z) (h1 : z < (m : Int)) :
    Val c n env L o (.pointer (some ⟨b, off + z.toNat * s, none⟩)) := fun a w hk _ => by
  subst hz
  simp [execOp, hop, hk.eval hx, hk.eval hy, Instr.indexAt, run_underlying hu, asIntOf, h0, h1, sizeOf, typeInfo, hs, Addr.add_lit, Instr.sureAddr]
end
end Go.Proofs.YtbblkgdejgoncaaGreatDoor

set_option linter.unusedSimpArgs false
set_option linter.unusedVariables false
namespace Go.Proofs.YtbblkgdejgoncaaGreatDoor
open Go Go.ChangeShapes Go.WideShapes Go.ChangeAt Go.RowKit

section
theorem infLawJournalFalls_3 : Tryz.prog.info? 3 = some Tryz.t3 := by kernel_rfl
theorem infLawJournalFalls_4 : Tryz.prog.info? 4 = some Tryz.t4 := by kernel_rfl
theorem infLawJournalFalls_9 : Tryz.prog.info? 9 = some Tryz.t9 := by kernel_rfl
theorem infLawJournalFalls_34 : Tryz.prog.info? 34 = some Tryz.t34 := by kernel_rfl
theorem infLawJournalFalls_36 : Tryz.prog.info? 36 = some Tryz.t36 := by kernel_rfl
theorem infLawJournalFalls_42 : Tryz.prog.info? 42 = some Tryz.t42 := by kernel_rfl
theorem infLawJournalFalls_54 : Tryz.prog.info? 54 = some Tryz.t54 := by kernel_rfl
theorem infLawJournalFalls_56 : Tryz.prog.info? 56 = some Tryz.t56 := by kernel_rfl
theorem infLawJournalFalls_65 : Tryz.prog.info? 65 = some Tryz.t65 := by kernel_rfl
theorem infLawJournalFalls_88 : Tryz.prog.info? 88 = some Tryz.t88 := by kernel_rfl
theorem infLawJournalFalls_90 : Tryz.prog.info? 90 = some Tryz.t90 := by kernel_rfl


structure Jf where
  kd : Int
  s : List UInt8
  z : Int
  p : Option Addr
  ob : Option Nat
  off : Nat
  cap : Nat
  cs : Array Value
  T : TypeId
  fr : Nat × Nat
  ks : List (Int × Int)
instance : Inhabited Jf := ⟨⟨0, [], 0, none, none, 0, 0, #[], 0, (0, 0), []⟩⟩
def jfC (a : Jf) : List Value := [.int .i64 a.kd, .string (bs a.s), .int .i64 a.z, Value.slice a.p a.ks.length a.cap]
theorem jf_len (a : Jf) : (jfC a).length = 4 := rfl
structure JfOk (a : Jf) : Prop where
  s1 : a.s.length ≤ 9223372036854775807
  z1 : a.z ≤ 9223372036854775807
  le : a.ks.length ≤ a.cap
  max : a.cap ≤ 9223372036854775807
  sees : (a.p = a.ob.map (fun b => ⟨b, a.off, none⟩) ∧ Sees 2 a.ob a.off a.cap a.cs (a.ks.flatMap kCells) a.ks.length) ∨ (a.ks = [] ∧ a.cap = 0)
def jfK (a : Jf) : Option Nat × Obj := (a.ob, .cells a.cs a.T a.fr)

set_option maxRecDepth 100000 in
set_option maxHeartbeats 1000000 in
theorem dk_crash0 (d n lb lcap : Nat) (lcs : Array Value) (uw : Sl) (k : Dk) (h : DkAt k n lb lcs lcap uw) (p : Option Addr) :
    Ct Tryz.prog 26 [.pointer (some ⟨d, 0, none⟩), .slice p 0 0] [] [(some d, .cells #[.slice (some ⟨lb, 0, none⟩) n lcap, uw.v k.W.length, .int .i64 k.fuse, .bool k.dead] 67 (0, 0)), (some lb, .cells lcs 9 (0, 0)), (uw.ob, .cells uw.cs 90 uw.fz)] fun v post => v = .int .i64 0 ∧ ∃ lcs1, DkAt (k.crash []) n lb lcs1 lcap slNil ∧ post = [(some d, .cells #[.slice (some ⟨lb, 0, none⟩) n lcap, slNil.v (k.crash []).W.length, .int .i64 (k.crash []).fuse, .bool (k.crash []).dead] 67 (0, 0)), (some lb, .cells lcs1 9 (0, 0)), (slNil.ob, .cells slNil.cs 90 slNil.fz)] := by
 have hb := h.bd
 have hb1 := hb.n1
 have hb2 := hb.n4
 have hb3 := hb.ncs
 have hb4 := hb.ncap
 have hb5 := hb.cap
 have hb6 := hb.w
 have hb7 := hb.wc
 have hln := h.len
 refine ct_of Tryz.func26 rfl rfl (fun w0 => ?_)
 show G _ _ [(0, _), (1, _)] _ _
 refine G_seq ?_
 refine G_region (l := [0]) rfl ?_
 refine G_val rfl rfl rfl rfl (V_assign rfl rfl) ?_
 refine G_done ?_
 refine G_seq ?_
 refine G_seq ?_
 refine G_region (l := [0, 1]) rfl ?_
 refine G_val rfl rfl rfl rfl (V_move rfl rfl) ?_
 refine G_val rfl rfl rfl rfl (V_peqlN rfl Tryz.underlying26 rfl rfl) ?_
 refine G_done ?_
 refine G_else rfl ?_
 refine G_skip ?_
 refine G_seq ?_
 refine G_seq ?_
 refine G_region (l := [0, 1, 2]) rfl ?_
 refine G_val rfl rfl rfl rfl (V_move rfl rfl) ?_
 refine G_val rfl rfl rfl rfl (V_len rfl rfl Tryz.underlying54 rfl) ?_
 refine G_val rfl rfl rfl rfl (V_move rfl rfl) ?_
 refine G_done ?_
 refine G_block ?_
 refine G_sub ?he4 [0, 0, 0] ?hl4 (G_loop (X := Nat) (fun i => i = 0) (fun i => 0) (fun i => [(0, .pointer (some ⟨d, 0, none⟩)), (11, .slice p 0 0), (12, .int .i64 0), (13, .int .i64 (i : Int))]) (fun i => [(some d, .cells #[.slice (some ⟨lb, 0, none⟩) n lcap, uw.v k.W.length, .int .i64 k.fuse, .bool k.dead] 67 (0, 0)), (some lb, .cells lcs 9 (0, 0)), (uw.ob, .cells uw.cs 90 uw.fz)]) ?round4 0 ?h04)
 case he4 => exact (And.intro rfl (And.intro rfl (And.intro rfl (And.intro rfl trivial))))
 case hl4 => exact ⟨_, rfl⟩
 case h04 => rfl
 case round4 =>
  intro i hJ ih
  try dsimp only at hJ ih
  obtain hi := hJ
  refine G_seq ?_
  refine G_region (l := [0]) rfl ?_
  refine G_val rfl rfl rfl rfl (V_lss rfl rfl rfl) ?_
  refine G_done ?_
  refine G_seq ?_
  refine G_ifD rfl (fun hc1 => ?_) (fun hc1 => ?_)
  · (first | (exact absurd rfl hc1) | (exfalso; omega))
  refine G_exit rfl ?_
  refine G_seq ?_
  refine G_addNone (.cells #[] 90 (0, 0)) ?_
  refine G_region (l := [0, 1, 2, 3, 4, 5, 6, 7, 8, 9, 10, 11]) rfl ?_
  refine G_val rfl rfl rfl rfl (V_move rfl rfl) ?_
  refine G_val rfl rfl rfl rfl (V_move rfl rfl) ?_
  refine G_val rfl rfl rfl rfl (V_move rfl rfl) ?_
  refine G_val rfl rfl rfl rfl (V_nilCheck rfl rfl) ?_
  refine G_val rfl rfl rfl rfl (V_fieldAddr (fo := 1) rfl Tryz.underlying67 rfl infLawJournalFalls_65 rfl rfl rfl) ?_
  refine G_put (l1 := [_]) (L' := [_, _, _, _]) rfl rfl rfl rfl (P_store1 rfl rfl rfl (mem_at 1 rfl) (by first | exact of_decide_eq_true rfl | omega | (simp [spCells, pCells, wCells, kCells, rgC, lgC, rdC, Sl.v, zeroF, foundC, jC, wC, acC, sv, jfC]; done) | (simp [spCells, pCells, wCells, kCells, rgC, lgC, rdC, Sl.v, zeroF, foundC, jC, wC, acC, sv, jfC]; omega) | (simp [spCells, pCells, wCells, kCells, rgC, lgC, rdC, Sl.v, zeroF, foundC, jC, wC, acC, sv, jfC] at *; omega)) infLawJournalFalls_65 rfl rfl) rfl ?_
  refine G_val rfl rfl rfl rfl (V_nilCheck rfl rfl) ?_
  refine G_val rfl rfl rfl rfl (V_fieldAddr (fo := 2) rfl Tryz.underlying67 rfl infLawJournalFalls_3 rfl rfl rfl) ?_
  refine G_put (l1 := [_]) (L' := [_, _, _, _]) rfl rfl rfl rfl (P_store1 rfl rfl rfl (mem_at 1 rfl) (by first | exact of_decide_eq_true rfl | omega | (simp [spCells, pCells, wCells, kCells, rgC, lgC, rdC, Sl.v, zeroF, foundC, jC, wC, acC, sv, jfC]; done) | (simp [spCells, pCells, wCells, kCells, rgC, lgC, rdC, Sl.v, zeroF, foundC, jC, wC, acC, sv, jfC]; omega) | (simp [spCells, pCells, wCells, kCells, rgC, lgC, rdC, Sl.v, zeroF, foundC, jC, wC, acC, sv, jfC] at *; omega)) infLawJournalFalls_3 rfl rfl) rfl ?_
  refine G_val rfl rfl rfl rfl (V_nilCheck rfl rfl) ?_
  refine G_val rfl rfl rfl rfl (V_fieldAddr (fo := 3) rfl Tryz.underlying67 rfl infLawJournalFalls_4 rfl rfl rfl) ?_
  refine G_put (l1 := [_]) (L' := [_, _, _, _]) rfl rfl rfl rfl (P_store1 rfl rfl rfl (mem_at 1 rfl) (by first | exact of_decide_eq_true rfl | omega | (simp [spCells, pCells, wCells, kCells, rgC, lgC, rdC, Sl.v, zeroF, foundC, jC, wC, acC, sv, jfC]; done) | (simp [spCells, pCells, wCells, kCells, rgC, lgC, rdC, Sl.v, zeroF, foundC, jC, wC, acC, sv, jfC]; omega) | (simp [spCells, pCells, wCells, kCells, rgC, lgC, rdC, Sl.v, zeroF, foundC, jC, wC, acC, sv, jfC] at *; omega)) infLawJournalFalls_4 rfl rfl) rfl ?_
  refine G_done ?_
  refine G_seq ?_
  refine G_region (l := [0]) rfl ?_
  refine G_val rfl rfl rfl rfl (V_assign rfl rfl) ?_
  refine G_done ?_
  refine G_ret (post := [_, _, _]) Tryz.func26 rfl (RVs_cons (RV_tmp rfl) RVs_nil) [1, 1, 0] rfl ?_
  dsimp only [packed]
  exact ⟨rfl, lcs, crash_at h h.l, rfl⟩


theorem ct_more {P : Program} {f : FuncId} {args : List Value} {A L : List (Option Nat × Obj)} {R : Value → List (Option Nat × Obj) → Prop} (h : Ct P f args [] L R) : Ct P f args A L R := fun w0 hh => h w0 hh.dropA
theorem crash_any (d n lb lcap : Nat) (lcs : Array Value) (uw : Sl) (k : Dk) (h : DkAt k n lb lcs lcap uw) (a : Jf) (ha : JfOk a) : Ct Tryz.prog 26 [.pointer (some ⟨d, 0, none⟩), .slice a.p a.ks.length a.cap] [jfK a] [(some d, .cells #[.slice (some ⟨lb, 0, none⟩) n lcap, uw.v k.W.length, .int .i64 k.fuse, .bool k.dead] 67 (0, 0)), (some lb, .cells lcs 9 (0, 0)), (uw.ob, .cells uw.cs 90 uw.fz)] (fun v post => v = .int .i64 0 ∧ ∃ lcs1, DkAt (k.crash a.ks) n lb lcs1 lcap slNil ∧ post = [(some d, .cells #[.slice (some ⟨lb, 0, none⟩) n lcap, slNil.v (k.crash a.ks).W.length, .int .i64 (k.crash a.ks).fuse, .bool (k.crash a.ks).dead] 67 (0, 0)), (some lb, .cells lcs1 9 (0, 0)), (slNil.ob, .cells slNil.cs 90 slNil.fz)]) := by
  rcases ha.sees with ⟨e, hs⟩ | ⟨e1, e2⟩
  · rw [e]; exact dk_crash d n lb lcap lcs uw k h _ _ _ _ _ _ a.ks hs
  · rw [e1, e2]; exact ct_more (dk_crash0 d n lb lcap lcs uw k h a.p)
theorem jl_fuse (d n lb lcap : Nat) (lcs : Array Value) (uw : Sl) (k : Dk) (h : DkAt k n lb lcs lcap uw) (z : Int) (hz : z ≤ 9223372036854775807) (R : Nat) (sp : Sp) (text : List UInt8) (recs : List (List UInt8)) (a : Nat) (hj : JJ n R k sp text recs a) : Ct Tryz.prog 24 [.pointer (some ⟨d, 0, none⟩), .int .i64 z] [] [(some d, .cells #[.slice (some ⟨lb, 0, none⟩) n lcap, uw.v k.W.length, .int .i64 k.fuse, .bool k.dead] 67 (0, 0))] (fun v post => v = .tuple #[] ∧ ∃ k2, DkAt k2 n lb lcs lcap uw ∧ JJ n R k2 sp text recs a ∧ post = [(some d, .cells #[.slice (some ⟨lb, 0, none⟩) n lcap, uw.v k2.W.length, .int .i64 k2.fuse, .bool k2.dead] 67 (0, 0))]) := by
  refine (dk_fuse d n lb lcap lcs uw k h z).weaken ?_
  rintro v post ⟨rfl, rfl⟩
  exact ⟨rfl, _, setFuse_at h hz, hj.fuse z, rfl⟩
theorem jl_fuse1 (d n lb lcap : Nat) (lcs : Array Value) (uw : Sl) (k : Dk) (h : DkAt k n lb lcs lcap uw) (R : Nat) (sp : Sp) (text : List UInt8) (recs : List (List UInt8)) (hj : JD n R k sp text recs) : Ct Tryz.prog 24 [.pointer (some ⟨d, 0, none⟩), .int .i64 (-1)] [] [(some d, .cells #[.slice (some ⟨lb, 0, none⟩) n lcap, uw.v k.W.length, .int .i64 k.fuse, .bool k.dead] 67 (0, 0))] (fun v post => v = .tuple #[] ∧ ∃ k2, DkAt k2 n lb lcs lcap uw ∧ Lively k2 ∧ JD n R k2 sp text recs ∧ post = [(some d, .cells #[.slice (some ⟨lb, 0, none⟩) n lcap, uw.v k2.W.length, .int .i64 k2.fuse, .bool k2.dead] 67 (0, 0))]) := by
  refine (dk_fuse d n lb lcap lcs uw k h (-1)).weaken ?_
  rintro v post ⟨rfl, rfl⟩
  exact ⟨rfl, _, setFuse_at h (by omega), fuse_lively hj.h.alive, hj.fuse (-1), rfl⟩
attribute [local irreducible] newD partE

set_option maxRecDepth 100000 in
set_option maxHeartbeats 16000000 in
theorem journalFalls_all (o1 : Option Nat) (p1 q1 : Nat) (c1 : Array Value) (T1 : TypeId) (f1 : Nat × Nat) (l : List Jf) (hs : Sees 4 o1 p1 q1 c1 (l.flatMap jfC) l.length) (hok : ∀ x ∈ l, JfOk x) :
    Ct Tryz.prog 4 [sv o1 p1 l.length q1] ((o1, .cells c1 T1 f1) :: l.map jfK) [] fun v post => v = .bool true ∧ post = [] := by
 have hl1_ := hs.le
 have hl2_ := hs.max
 refine ct_of Tryz.func4 rfl rfl (fun w0 => ?_)
 show G _ _ [(0, _)] _ _
 refine G_seq ?_
 refine G_region (l := [0]) rfl ?_
 refine G_val rfl rfl rfl rfl (V_assign rfl rfl) ?_
 refine G_done ?_
 refine G_seq ?_
 refine G_seq ?_
 refine G_region (l := [0, 1, 2]) rfl ?_
 refine G_val rfl rfl rfl rfl (V_move rfl rfl) ?_
 refine G_val rfl rfl rfl rfl (V_len rfl rfl Tryz.underlying53 rfl) ?_
 refine G_val rfl rfl rfl rfl (V_gtr rfl rfl rfl) ?_
 refine G_done ?_
 refine G_ifD rfl (fun hc1 => ?_) (fun hc1 => ?_)
 ·
  refine G_seq ?_
  refine G_region (l := [0, 1]) rfl ?_
  refine G_callM (L2 := []) rfl rfl rfl rfl rfl rfl Tryz.call7 (jl_live) [] rfl subA_nil ?_
  rintro v post ⟨rfl, rfl⟩
  refine G_val rfl rfl rfl rfl (V_assign rfl rfl) ?_
  refine G_done ?_
  refine G_ret (post := []) Tryz.func4 rfl (RVs_cons (RV_tmp rfl) RVs_nil) [] rfl ?_
  dsimp only [packed]
  exact ⟨rfl, rfl⟩
 refine G_skip ?_
 refine G_seq ?_
 refine G_region (l := [0, 1, 2, 3, 4, 5]) rfl ?_
 refine G_callM (L2 := []) rfl rfl rfl rfl rfl rfl Tryz.call8 (dk_new 30 (by omega) (by omega)) [] rfl subA_nil ?_
 rintro v post ⟨d, lb, lcap, lcs, rfl, h, rfl⟩
 show G _ _ _ [_, _, _] _
 refine G_val rfl rfl rfl rfl (V_move rfl rfl) ?_
 refine G_val rfl rfl rfl rfl (V_extract rfl rfl rfl) ?_
 refine G_val rfl rfl rfl rfl (V_extract rfl rfl rfl) ?_
 refine G_val rfl rfl rfl rfl (V_assign rfl rfl) ?_
 refine G_val rfl rfl rfl rfl (V_assign rfl rfl) ?_
 refine G_done ?_
 refine G_seq ?_
 refine G_region (l := [0, 1, 2, 3]) rfl ?_
 refine G_val rfl rfl rfl rfl (V_move rfl rfl) ?_
 refine G_callM (L2 := []) rfl rfl rfl rfl rfl rfl Tryz.call10 (jl_format d 30 lb lcap lcs h 4 (by unfold partE; decide) (by omega) [98, 101, 103, 105, 110] (by simp) (by decide)) [0, 0, 0] rfl subA_nil ?_
 rintro v post ⟨rfl, k0, lc0, uw0, h0, hl0, hj0, rfl⟩
 show G _ _ _ [_, _, _] _
 refine G_callM (L2 := [_, _, _]) rfl rfl rfl rfl rfl rfl Tryz.call9 (jl_num _) [] rfl subA_nil ?_
 rintro v post ⟨rfl, rfl⟩
 show G _ _ _ [_, _, _] _
 refine G_val rfl rfl rfl rfl (V_assign rfl rfl) ?_
 refine G_done ?_
 refine G_seq ?_
 refine G_region (l := [0, 1, 2, 3, 4, 5, 6, 7, 8, 9, 10]) rfl ?_
 refine G_val rfl rfl rfl rfl (V_move rfl rfl) ?_
 refine G_callM (L2 := []) rfl rfl rfl rfl rfl rfl Tryz.call14 (jl_open d 30 lb lcap lc0 uw0 k0 h0 4 (firstS 5) [98, 101, 103, 105, 110] [] hj0 hl0 (by show 1 + 1 < 250; omega)) [0, 0, 0] rfl subA_nil ?_
 rintro v post ⟨k, lc, uw, j, g, u0, h, hl, hj, hu0, rfl, rfl⟩
 show G _ _ _ [_, _, _, _, _, _] _
 refine G_val rfl rfl rfl rfl (V_move rfl rfl) ?_
 refine G_val rfl rfl rfl rfl (V_extract rfl rfl rfl) ?_
 refine G_val rfl rfl rfl rfl (V_extract rfl rfl rfl) ?_
 refine G_val rfl rfl rfl rfl (V_extract rfl rfl rfl) ?_
 refine G_val rfl rfl rfl rfl (V_extract rfl rfl rfl) ?_
 refine G_val rfl rfl rfl rfl (V_assign rfl rfl) ?_
 refine G_val rfl rfl rfl rfl (V_assign rfl rfl) ?_
 refine G_val rfl rfl rfl rfl (V_assign rfl rfl) ?_
 refine G_val rfl rfl rfl rfl (V_assign rfl rfl) ?_
 refine G_done ?_
 refine G_seq ?_
 refine G_region (l := [0, 1, 2]) rfl ?_
 refine G_callM (L2 := [_, _, _, _, _, _]) rfl rfl rfl rfl rfl rfl Tryz.call13 (rj_new 30 4 (by omega) (by omega) [98, 101, 103, 105, 110]) [] rfl subA_nil ?_
 rintro v post ⟨rfl, rfl⟩
 show G _ _ _ [_, _, _, _, _, _] _
 refine G_new rfl rfl rfl rfl (N_allocA rfl infLawJournalFalls_36 rfl) (fun b10 => ?_)
 refine G_put (l1 := []) (L' := [_, _, _, _, _, _, _]) rfl rfl rfl rfl (P_storeA (s := 6) rfl rfl rfl (mem_at 0 rfl) (by rfl) infLawJournalFalls_36 rfl (by rfl) (by simp [Value.oneCell', spCells, pCells, wCells, kCells, rgC, lgC, rdC, Sl.v, zeroF, foundC, jC, wC, acC, sv, jfC])) rfl ?_
 refine G_done ?_
 refine G_seq ?_
 refine G_seq ?_
 refine G_region (l := [0, 1, 2, 3, 4, 5, 6]) rfl ?_
 refine G_val rfl rfl rfl rfl (V_move rfl rfl) ?_
 refine G_val rfl rfl rfl rfl (V_neq rfl rfl rfl) ?_
 refine G_val rfl rfl rfl rfl (V_move rfl rfl) ?_
 refine G_splitD 40 rfl (fun hc2 => ?_) (fun hc2 => ?_)
 · (first | (exact absurd rfl hc2) | (exact absurd hc2 (by decide)) | (exact absurd (by decide) hc2) | (exfalso; omega) | (exfalso; simp at hc2; done))
 refine G_val rfl rfl rfl rfl (V_move rfl rfl) ?_
 refine G_callM (L2 := [_, _, _, _, _, _, _]) rfl rfl rfl rfl rfl rfl Tryz.call9 (jl_num _) [] rfl subA_nil ?_
 rintro v post ⟨rfl, rfl⟩
 show G _ _ _ [_, _, _, _, _, _, _] _
 refine G_val rfl rfl rfl rfl (V_neq rfl rfl rfl) ?_
 refine G_val rfl rfl rfl rfl (V_pickF rfl rfl rfl) ?_
 refine G_done ?_
 refine G_ifD rfl (fun hc3 => ?_) (fun hc3 => ?_)
 · (first | (exact absurd rfl hc3) | (exact absurd hc3 (by decide)) | (exact absurd (by decide) hc3) | (exfalso; omega) | (exfalso; simp at hc3; done))
 refine G_skip ?_
 refine G_seq ?_
 refine G_seq ?_
 refine G_addNone (.cells #[] 9 (0, 0)) ?_
 refine G_region (l := [0]) rfl ?_
 refine G_val rfl rfl rfl rfl (V_assign rfl rfl) ?_
 refine G_done ?_
 refine G_block ?_
 refine G_sub ?he10 [2, 2, 2, 1, 1, 1, 0] ?hl10 (G_loop (X := Nat × Dk × Array Value × Sl × Sp × List UInt8 × List (List UInt8) × Nat × Nat × Nat × Sl × Int) (fun y_ => match y_ with | ⟨i, k, lc, uw, sp, tx, rc, a, j, g, u, e⟩ => i ≤ l.length ∧ DkAt k 30 lb lc lcap uw ∧ Lively k ∧ JJ 30 4 k sp tx rc a ∧ sp.seq ≤ 2 + 2 * i ∧ Own 1 u (rc.map strC) rc.length ∧ 0 ≤ e ∧ e ≤ 2 + (i : Int)) (fun y_ => match y_ with | ⟨i, k, lc, uw, sp, tx, rc, a, j, g, u, e⟩ => l.length - i) (fun y_ => match y_ with | ⟨i, k, lc, uw, sp, tx, rc, a, j, g, u, e⟩ => [(0, sv o1 p1 l.length q1), (3, .pointer (some ⟨d, 0, none⟩)), (6, .pointer (some ⟨j, 0, none⟩)), (10, .pointer (some ⟨b10, 0, none⟩)), (11, .int .i64 (i : Int))]) (fun y_ => match y_ with | ⟨i, k, lc, uw, sp, tx, rc, a, j, g, u, e⟩ => [(some d, .cells #[.slice (some ⟨lb, 0, none⟩) 30 lcap, uw.v k.W.length, .int .i64 k.fuse, .bool k.dead] 67 (0, 0)), (some lb, .cells lc 9 (0, 0)), (uw.ob, .cells uw.cs 90 uw.fz), (some b10, .cells (wC tx (u.v rc.length) (a : Int) ((30 - (2 + 2 * 4) : Nat) : Int) ((4 : Nat) : Int) e).toArray 36 (0, 0)), (some j, .cells (jC d ((4 : Nat) : Int) sp g).toArray 86 (0, 0)), (some g, .cells (lgC d ((2 + 2 * 4 : Nat) : Int) ((30 - (2 + 2 * 4) : Nat) : Int) sp.epoch a).toArray 117 (0, 0)), (u.ob, .cells u.cs 9 u.fz)]) ?round10 (0, k, lc, uw, nextS (firstS 5), [98, 101, 103, 105, 110], [], 0, j, g, slNil, 2) ?h010)
 case he10 => exact (And.intro rfl (And.intro rfl (And.intro rfl (And.intro rfl (And.intro rfl trivial)))))
 case hl10 => exact ⟨_, rfl⟩
 case h010 => exact ⟨Nat.zero_le _, h, hl, hj, Nat.le_refl _, own_nil 1, by omega, by omega⟩
 case round10 =>
  intro y_ hJ ih
  try dsimp only at hJ ih
  obtain ⟨i, k, lc, uw, sp, tx, rc, a, j, g, u, e⟩ := y_
  try dsimp only at hJ ih
  obtain ⟨hi, h, hl, hj, hsq, hu, he0, he1⟩ := hJ
  show G _ _ [(0, sv o1 p1 l.length q1), (3, .pointer (some ⟨d, 0, none⟩)), (6, .pointer (some ⟨j, 0, none⟩)), (10, .pointer (some ⟨b10, 0, none⟩)), (11, .int .i64 (i : Int))] [(some d, .cells #[.slice (some ⟨lb, 0, none⟩) 30 lcap, uw.v k.W.length, .int .i64 k.fuse, .bool k.dead] 67 (0, 0)), (some lb, .cells lc 9 (0, 0)), (uw.ob, .cells uw.cs 90 uw.fz), (some b10, .cells (wC tx (u.v rc.length) (a : Int) ((30 - (2 + 2 * 4) : Nat) : Int) ((4 : Nat) : Int) e).toArray 36 (0, 0)), (some j, .cells (jC d ((4 : Nat) : Int) sp g).toArray 86 (0, 0)), (some g, .cells (lgC d ((2 + 2 * 4 : Nat) : Int) ((30 - (2 + 2 * 4) : Nat) : Int) sp.epoch a).toArray 117 (0, 0)), (u.ob, .cells u.cs 9 u.fz)] _
  refine G_seq ?_
  refine G_seq ?_
  refine G_region (l := [0, 1, 2, 3]) rfl ?_
  refine G_val rfl rfl rfl rfl (V_move rfl rfl) ?_
  refine G_val rfl rfl rfl rfl (V_move rfl rfl) ?_
  refine G_val rfl rfl rfl rfl (V_len rfl rfl Tryz.underlying53 rfl) ?_
  refine G_val rfl rfl rfl rfl (V_lss rfl rfl rfl) ?_
  refine G_done ?_
  refine G_ifD rfl (fun hc4 => ?_) (fun hc4 => ?_)
  ·
   refine G_skip ?_
   refine G_seq ?_
   refine G_block ?_
   refine G_seq ?_
   obtain ⟨x, hx⟩ := getI (show i < l.length by omega)
   obtain ⟨bo1, rfl⟩ := hs.isSome (by omega)
   have hxo := hok x (List.mem_of_getElem? hx)
   have hle := hxo.le
   have hmax := hxo.max
   have hz1 := hxo.z1
   have hs1_ := hxo.s1
   obtain ⟨b_1, b_2, b_3, b_4, b_5, b_6, b_7, b_8, b_9⟩ := hj.bd
   refine G_region (l := [0, 1, 2, 3, 4, 5]) rfl ?_
   refine G_val rfl rfl rfl rfl (V_move rfl rfl) ?_
   refine G_val rfl rfl rfl rfl (V_move rfl rfl) ?_
   refine G_val rfl rfl rfl rfl (V_indexAddrN (s := 4) rfl Tryz.underlying53 infLawJournalFalls_56 rfl rfl rfl rfl (by omega)) ?_
   refine G_val rfl rfl rfl rfl (V_loadA (s := 4) (vs := (jfC x).toArray) rfl rfl (List.mem_append_left _ (mem_at 0 rfl)) Tryz.underlying56 rfl infLawJournalFalls_56 rfl (hs.elem jf_len hx) (by rfl)) ?_
   refine G_new rfl rfl rfl rfl (N_allocA rfl infLawJournalFalls_56 rfl) (fun b12 => ?_)
   refine G_put (l1 := []) (L' := [_, _, _, _, _, _, _, _]) rfl rfl rfl rfl (P_storeA (s := 4) rfl rfl rfl (mem_at 0 rfl) (by rfl) infLawJournalFalls_56 rfl (by rfl) (by simp [Value.oneCell', spCells, pCells, wCells, kCells, rgC, lgC, rdC, Sl.v, zeroF, foundC, jC, wC, acC, sv, jfC])) rfl ?_
   refine G_done ?_
   refine G_seq ?_
   refine G_seq ?_
   refine G_region (l := [0, 1, 2, 3, 4, 5, 6, 7, 8, 9, 10]) rfl ?_
   refine G_val rfl rfl rfl rfl (V_fieldAddr (fo := 0) rfl Tryz.underlying56 rfl infLawJournalFalls_42 rfl rfl rfl) ?_
   refine G_val rfl rfl rfl rfl (V_fieldAddr (fo := 1) rfl Tryz.underlying42 rfl infLawJournalFalls_9 rfl rfl rfl) ?_
   refine G_val rfl rfl rfl rfl (V_load1 rfl rfl (List.mem_append_right _ (mem_at 0 rfl)) rfl Tryz.underlying9 rfl) ?_
   refine G_val rfl rfl rfl rfl (V_slen rfl rfl Tryz.underlying9 rfl) ?_
   refine G_val rfl rfl rfl rfl (V_gtr rfl rfl rfl) ?_
   refine G_val rfl rfl rfl rfl (V_move rfl rfl) ?_
   refine G_splitD 60 rfl (fun hc5 => ?_) (fun hc5 => ?_)
   ·
    refine G_off rfl rfl rfl rfl ?_
    refine G_off rfl rfl rfl rfl ?_
    refine G_off rfl rfl rfl rfl ?_
    refine G_off rfl rfl rfl rfl ?_
    refine G_val rfl rfl rfl rfl (V_pickT rfl rfl rfl) ?_
    refine G_done ?_
    refine G_then rfl ?_
    refine G_seq ?_
    refine G_region (l := [0, 1]) rfl ?_
    refine G_callM (L2 := [_, _, _, _, _, _, _, _]) rfl rfl rfl rfl rfl rfl Tryz.call7 (jl_live) [] rfl subA_nil ?_
    rintro v post ⟨rfl, rfl⟩
    show G _ _ _ [_, _, _, _, _, _, _, _] _
    refine G_val rfl rfl rfl rfl (V_assign rfl rfl) ?_
    refine G_done ?_
    refine G_ret (post := []) Tryz.func4 rfl (RVs_cons (RV_tmp rfl) RVs_nil) [] rfl ?_
    dsimp only [packed]
    exact ⟨rfl, rfl⟩
   refine G_val rfl rfl rfl rfl (V_fieldAddr (fo := 3) rfl Tryz.underlying56 rfl infLawJournalFalls_54 rfl rfl rfl) ?_
   refine G_val rfl rfl rfl rfl (V_load1 rfl rfl (List.mem_append_right _ (mem_at 0 rfl)) rfl Tryz.underlying54 rfl) ?_
   refine G_val rfl rfl rfl rfl (V_len rfl rfl Tryz.underlying54 rfl) ?_
   refine G_val rfl rfl rfl rfl (V_gtr rfl rfl rfl) ?_
   refine G_val rfl rfl rfl rfl (V_pickF rfl rfl rfl) ?_
   refine G_done ?_
   refine G_ifD rfl (fun hc6 => ?_) (fun hc6 => ?_)
   ·
    refine G_seq ?_
    refine G_region (l := [0, 1]) rfl ?_
    refine G_callM (L2 := [_, _, _, _, _, _, _, _]) rfl rfl rfl rfl rfl rfl Tryz.call7 (jl_live) [] rfl subA_nil ?_
    rintro v post ⟨rfl, rfl⟩
    show G _ _ _ [_, _, _, _, _, _, _, _] _
    refine G_val rfl rfl rfl rfl (V_assign rfl rfl) ?_
    refine G_done ?_
    refine G_ret (post := []) Tryz.func4 rfl (RVs_cons (RV_tmp rfl) RVs_nil) [] rfl ?_
    dsimp only [packed]
    exact ⟨rfl, rfl⟩
   refine G_skip ?_
   refine G_seq ?_
   refine G_region (l := [0, 1, 2, 3]) rfl ?_
   refine G_val rfl rfl rfl rfl (V_move rfl rfl) ?_
   refine G_val rfl rfl rfl rfl (V_fieldAddr (fo := 2) rfl Tryz.underlying56 rfl infLawJournalFalls_3 rfl rfl rfl) ?_
   refine G_val rfl rfl rfl rfl (V_load1 rfl rfl (List.mem_append_right _ (mem_at 0 rfl)) rfl Tryz.underlying3 rfl) ?_
   refine G_callM (L2 := [_, _, _, _, _, _, _]) rfl rfl rfl rfl rfl rfl Tryz.call24 (jl_fuse d 30 lb lcap lc uw k h x.z hz1 4 sp tx rc a hj) [1] rfl subA_nil ?_
   rintro v post ⟨rfl, kf, hf, hjf, rfl⟩
   show G _ _ _ [_, _, _, _, _, _, _, _] _
   refine G_done ?_
   refine G_seq ?_
   refine G_region (l := [0, 1, 2, 3, 4, 5, 6, 7, 8, 9, 10, 11]) rfl ?_
   refine G_val rfl rfl rfl rfl (V_move rfl rfl) ?_
   refine G_val rfl rfl rfl rfl (V_move rfl rfl) ?_
   refine G_val rfl rfl rfl rfl (V_loadW (s := 6) rfl rfl (List.mem_append_right _ (mem_at 4 rfl)) Tryz.underlying36 rfl infLawJournalFalls_36 rfl (by rfl)) ?_
   refine G_val rfl rfl rfl rfl (V_fieldAddr (fo := 0) rfl Tryz.underlying56 rfl infLawJournalFalls_42 rfl rfl rfl) ?_
   refine G_val rfl rfl rfl rfl (V_loadA (s := 2) (vs := (acC (x.kd, x.s)).toArray) rfl rfl (List.mem_append_right _ (mem_at 1 rfl)) Tryz.underlying42 rfl infLawJournalFalls_42 rfl (by simp [jfC, acC]) (by rfl)) ?_
   refine G_callM (L2 := [_, _, _]) rfl rfl rfl rfl rfl rfl Tryz.call25 (jl_does d 30 lb lcap lc uw kf hf 4 sp tx rc a j g hjf u hu e (by omega) (x.kd, x.s) (by show x.s.length ≤ 1100; omega) (by omega)) [5, 5, 0, 1, 1] rfl (subA_cons (List.mem_append_right _ (mem_at 2 rfl)) subA_nil) ?_
   rintro v post (⟨g1, k1, lcs1, uw1, h1, hO, rfl, rfl⟩ | ⟨g1, k1, lcs1, uw1, tx2, rc2, u2, e2, h1, hO, hu2, he2, he3, rfl, rfl⟩)
   ·
    show G _ _ _ [_, _, _, _, _, _] _
    refine G_val rfl rfl rfl rfl (V_move rfl rfl) ?_
    refine G_val rfl rfl rfl rfl (V_extract rfl rfl rfl) ?_
    refine G_val rfl rfl rfl rfl (V_extract rfl rfl rfl) ?_
    refine G_new rfl rfl rfl rfl (N_allocA rfl infLawJournalFalls_36 rfl) (fun b14 => ?_)
    refine G_val rfl rfl rfl rfl (V_assign rfl rfl) ?_
    refine G_put (l1 := []) (L' := [_, _, _, _, _, _, _]) rfl rfl rfl rfl (P_storeA (s := 6) rfl rfl rfl (mem_at 0 rfl) (by rfl) infLawJournalFalls_36 rfl (by rfl) (by simp [Value.oneCell', spCells, pCells, wCells, kCells, rgC, lgC, rdC, Sl.v, zeroF, foundC, jC, wC, acC, sv, jfC])) rfl ?_
    refine G_done ?_
    refine G_seq ?_
    refine G_seq ?_
    refine G_region (l := [0, 1]) rfl ?_
    refine G_val rfl rfl rfl rfl (V_move rfl rfl) ?_
    refine G_val rfl rfl rfl rfl (V_eql rfl rfl rfl) ?_
    refine G_done ?_
    refine G_ifD rfl (fun hc7 => ?_) (fun hc7 => ?_)
    ·
     refine G_seq ?_
     refine G_seq ?_
     have hO2 := (hO.resolve_left (fun q => q.1 (by assumption))).2
     rcases True.intro with ⟨⟩
     ·
      refine G_region (l := [0, 1, 2, 3, 4, 5]) rfl ?_
      refine G_val rfl rfl rfl rfl (V_move rfl rfl) ?_
      refine G_val rfl rfl rfl rfl (V_fieldAddr (fo := 3) rfl Tryz.underlying56 rfl infLawJournalFalls_54 rfl rfl rfl) ?_
      refine G_val rfl rfl rfl rfl (V_load1 rfl rfl (List.mem_append_right _ (mem_at 4 rfl)) rfl Tryz.underlying54 rfl) ?_
      refine G_callM (L2 := [_, _, _, _]) rfl rfl rfl rfl rfl rfl Tryz.call26 (crash_any d 30 lb lcap lcs1 uw1 k1 h1 x hxo) [1, 1, 1] rfl (subA_cons (List.mem_append_left _ (List.mem_cons_of_mem _ (List.mem_map.2 ⟨x, List.mem_of_getElem? hx, rfl⟩))) subA_nil) ?_
      rintro v post ⟨rfl, lc2, h2, rfl⟩
      show G _ _ _ [_, _, _, _, _, _, _] _
      refine G_callM (L2 := [_, _, _, _, _, _, _]) rfl rfl rfl rfl rfl rfl Tryz.call9 (jl_num _) [] rfl subA_nil ?_
      rintro v post ⟨rfl, rfl⟩
      show G _ _ _ [_, _, _, _, _, _, _] _
      refine G_val rfl rfl rfl rfl (V_neq rfl rfl rfl) ?_
      refine G_done ?_
      refine G_ifD rfl (fun hc8 => ?_) (fun hc8 => ?_)
      · (first | (exact absurd rfl hc8) | (exact absurd hc8 (by decide)) | (exact absurd (by decide) hc8) | (exfalso; omega) | (exfalso; simp at hc8; done))
      refine G_skip ?_
      refine G_seq ?_
      have hlv := crash_lively k1 x.ks
      obtain ⟨sp1, hsq1, hJ1⟩ := hO2 x.ks
      generalize k1.crash x.ks = kc at *
      rcases hJ1 with hJ1 | hJ1
      ·
       refine G_region (l := [0, 1, 2, 3, 4, 5, 6, 7, 8, 9]) rfl ?_
       refine G_val rfl rfl rfl rfl (V_move rfl rfl) ?_
       refine G_val rfl rfl rfl rfl (V_loadW (s := 6) rfl rfl (List.mem_append_right _ (mem_at 5 rfl)) Tryz.underlying36 rfl infLawJournalFalls_36 rfl (by rfl)) ?_
       refine G_callM (L2 := [_, _, _, _, _, _, _]) rfl rfl rfl rfl rfl rfl Tryz.call21 ((jl_has d 30 lb lcap lc2 slNil (kc) h2 4 sp1 tx rc hJ1 tx rc u hu _ _ _).weaken (fun v post h => by rewrite [decide_eq_true ⟨rfl, rfl⟩] at h; exact h)) [] rfl (subA_cons (List.mem_append_right _ (mem_at 0 rfl)) (subA_cons (List.mem_append_right _ (mem_at 1 rfl)) (subA_cons (List.mem_append_right _ (mem_at 2 rfl)) (subA_cons (List.mem_append_right _ (mem_at 6 rfl)) subA_nil)))) ?_
       rintro v post ⟨rfl, rfl⟩
       show G _ _ _ [_, _, _, _, _, _, _] _
       refine G_val rfl rfl rfl rfl (V_not rfl rfl) ?_
       refine G_val rfl rfl rfl rfl (V_move rfl rfl) ?_
       refine G_off rfl rfl rfl rfl ?_
       refine G_off rfl rfl rfl rfl ?_
       refine G_off rfl rfl rfl rfl ?_
       refine G_off rfl rfl rfl rfl ?_
       refine G_val rfl rfl rfl rfl (V_pickF rfl rfl rfl) ?_
       refine G_done ?_
       refine G_else rfl ?_
       refine G_skip ?_
       refine G_seq ?_
       refine G_seq ?_
       refine G_region (l := [0, 1, 2]) rfl ?_
       refine G_val rfl rfl rfl rfl (V_move rfl rfl) ?_
       refine G_val rfl rfl rfl rfl (V_loadW (s := 6) rfl rfl (List.mem_append_right _ (mem_at 3 rfl)) Tryz.underlying36 rfl infLawJournalFalls_36 rfl (by rfl)) ?_
       refine G_callM (L2 := [_, _, _, _, _, _, _]) rfl rfl rfl rfl rfl rfl Tryz.call21 ((jl_has d 30 lb lcap lc2 slNil (kc) h2 4 sp1 tx rc hJ1 tx rc u hu _ _ _).weaken (fun v post h => by rewrite [decide_eq_true ⟨rfl, rfl⟩] at h; exact h)) [] rfl (subA_cons (List.mem_append_right _ (mem_at 0 rfl)) (subA_cons (List.mem_append_right _ (mem_at 1 rfl)) (subA_cons (List.mem_append_right _ (mem_at 2 rfl)) (subA_cons (List.mem_append_right _ (mem_at 6 rfl)) subA_nil)))) ?_
       rintro v post ⟨rfl, rfl⟩
       show G _ _ _ [_, _, _, _, _, _, _] _
       refine G_done ?_
       refine G_then rfl ?_
       rcases True.intro with ⟨⟩
       ·
        refine G_region (l := [0, 1]) rfl ?_
        refine G_val rfl rfl rfl rfl (V_loadW (s := 6) rfl rfl (List.mem_append_right _ (mem_at 3 rfl)) Tryz.underlying36 rfl infLawJournalFalls_36 rfl (by rfl)) ?_
        refine G_put (l1 := [_, _, _, _, _]) (L' := [_, _, _, _, _, _, _]) rfl rfl rfl rfl (P_storeA (s := 6) rfl rfl rfl (mem_at 5 rfl) (by rfl) infLawJournalFalls_36 rfl (by rfl) (by simp [Value.oneCell', spCells, pCells, wCells, kCells, rgC, lgC, rdC, Sl.v, zeroF, foundC, jC, wC, acC, sv, jfC])) rfl ?_
        refine G_done ?_
        refine G_seq ?_
        refine G_region (l := [0, 1, 2, 3, 4, 5, 6, 7, 8, 9, 10]) rfl ?_
        refine G_val rfl rfl rfl rfl (V_move rfl rfl) ?_
        refine G_callM (L2 := [_, _, _, _]) rfl rfl rfl rfl rfl rfl Tryz.call14 (jl_open d 30 lb lcap lc2 slNil (kc) h2 4 sp1 tx rc hJ1 hlv (by omega)) [0, 0, 0] rfl subA_nil ?_
        rintro v post ⟨k3, lc3, uw3, j3, g3, u3, h3, hl3, hj3, hu3, rfl, rfl⟩
        show G _ _ _ [_, _, _, _, _, _, _, _, _, _] _
        rw [← hj.a.1] at hj3 ⊢
        refine G_val rfl rfl rfl rfl (V_move rfl rfl) ?_
        refine G_val rfl rfl rfl rfl (V_extract rfl rfl rfl) ?_
        refine G_val rfl rfl rfl rfl (V_extract rfl rfl rfl) ?_
        refine G_val rfl rfl rfl rfl (V_extract rfl rfl rfl) ?_
        refine G_val rfl rfl rfl rfl (V_extract rfl rfl rfl) ?_
        refine G_val rfl rfl rfl rfl (V_assign rfl rfl) ?_
        refine G_val rfl rfl rfl rfl (V_assign rfl rfl) ?_
        refine G_val rfl rfl rfl rfl (V_assign rfl rfl) ?_
        refine G_val rfl rfl rfl rfl (V_assign rfl rfl) ?_
        refine G_done ?_
        refine G_seq ?_
        refine G_seq ?_
        refine G_region (l := [0, 1, 2, 3, 4, 5, 6, 7, 8, 9, 10, 11, 12, 13, 14, 15]) rfl ?_
        refine G_val rfl rfl rfl rfl (V_move rfl rfl) ?_
        refine G_callM (L2 := [_, _, _, _, _, _, _, _, _, _]) rfl rfl rfl rfl rfl rfl Tryz.call9 (jl_num _) [] rfl subA_nil ?_
        rintro v post ⟨rfl, rfl⟩
        show G _ _ _ [_, _, _, _, _, _, _, _, _, _] _
        refine G_val rfl rfl rfl rfl (V_neq rfl rfl rfl) ?_
        refine G_val rfl rfl rfl rfl (V_move rfl rfl) ?_
        refine G_splitD 118 rfl (fun hc9 => ?_) (fun hc9 => ?_)
        · (first | (exact absurd rfl hc9) | (exact absurd hc9 (by decide)) | (exact absurd (by decide) hc9) | (exfalso; omega) | (exfalso; simp at hc9; done))
        refine G_val rfl rfl rfl rfl (V_move rfl rfl) ?_
        refine G_val rfl rfl rfl rfl (V_fieldAddr (fo := 0) rfl Tryz.underlying36 rfl infLawJournalFalls_9 rfl rfl rfl) ?_
        refine G_val rfl rfl rfl rfl (V_load1 rfl rfl (List.mem_append_right _ (mem_at 8 rfl)) rfl Tryz.underlying9 rfl) ?_
        refine G_val rfl rfl rfl rfl (V_sneq rfl rfl rfl) ?_
        refine G_val rfl rfl rfl rfl (V_pickF rfl rfl rfl) ?_
        refine G_val rfl rfl rfl rfl (V_move rfl rfl) ?_
        refine G_splitD 124 rfl (fun hc10 => ?_) (fun hc10 => ?_)
        · (first | (exact absurd rfl hc10) | (exact absurd hc10 (by decide)) | (exact absurd (by decide) hc10) | (exfalso; omega) | (exfalso; simp at hc10; done))
        refine G_val rfl rfl rfl rfl (V_move rfl rfl) ?_
        refine G_val rfl rfl rfl rfl (V_fieldAddr (fo := 1) rfl Tryz.underlying36 rfl infLawJournalFalls_34 rfl rfl rfl) ?_
        refine G_val rfl rfl rfl rfl (V_load1 rfl rfl (List.mem_append_right _ (mem_at 8 rfl)) rfl Tryz.underlying34 rfl) ?_
        refine G_callM (L2 := [_, _, _, _, _, _, _, _, _, _]) rfl rfl rfl rfl rfl rfl Tryz.call20 ((ref_texts u3.ob 0 u3.cap u3.cs 9 u3.fz u.ob 0 u.cap u.cs 9 u.fz rc rc hu3.sees hu.sees).weaken (fun v post h => by rewrite [decide_eq_true rfl] at h; exact h)) [] rfl (subA_cons (List.mem_append_right _ (mem_at 5 rfl)) (subA_cons (List.mem_append_right _ (mem_at 9 rfl)) subA_nil)) ?_
        rintro v post ⟨rfl, rfl⟩
        show G _ _ _ [_, _, _, _, _, _, _, _, _, _] _
        refine G_val rfl rfl rfl rfl (V_not rfl rfl) ?_
        refine G_val rfl rfl rfl rfl (V_pickF rfl rfl rfl) ?_
        refine G_done ?_
        refine G_else rfl ?_
        refine G_skip ?_
        refine G_region (l := [0, 1]) rfl ?_
        refine G_val rfl rfl rfl rfl (V_move rfl rfl) ?_
        refine G_val rfl rfl rfl rfl (V_assign rfl rfl) ?_
        refine G_done ?_
        refine G_inBlock ?_
        refine G_region (l := [0, 1, 2]) rfl ?_
        refine G_val rfl rfl rfl rfl (V_move rfl rfl) ?_
        refine G_val rfl rfl rfl rfl ((V_add rfl rfl rfl).int (wrap_i64 (by omega))) ?_
        refine G_val rfl rfl rfl rfl (V_assign rfl rfl) ?_
        refine G_done ?_
        refine G_sub ?_ [0, 0, 0, 5, 0, 0, 3] ?_ (ih (i + 1, k3, lc3, uw3, nextS sp1, tx, rc, a, j3, g3, u, e) ?_ ?_)
        · (refine (And.intro ?_ (And.intro ?_ (And.intro ?_ (And.intro ?_ (And.intro ?_ trivial))))) <;> first | rfl | exact slot_int (by omega) | exact slot_int (by simp))
        · exact ⟨_, rfl⟩
        · exact ⟨by omega, h3, hl3, hj3, (by show sp1.seq + 1 ≤ 2 + 2 * (i + 1); omega), hu, (by show (0 : Int) ≤ e; omega), (by show e ≤ 2 + ((i + 1 : Nat) : Int); omega)⟩
        · (first | omega | (dsimp only; omega))
      ·
       refine G_region (l := [0, 1, 2, 3, 4, 5, 6, 7, 8, 9]) rfl ?_
       refine G_val rfl rfl rfl rfl (V_move rfl rfl) ?_
       refine G_val rfl rfl rfl rfl (V_loadW (s := 6) rfl rfl (List.mem_append_right _ (mem_at 5 rfl)) Tryz.underlying36 rfl infLawJournalFalls_36 rfl (by rfl)) ?_
       refine G_callM (L2 := [_, _, _, _, _, _, _]) rfl rfl rfl rfl rfl rfl Tryz.call21 ((jl_has d 30 lb lcap lc2 slNil (kc) h2 4 sp1 tx rc hJ1 tx rc u hu _ _ _).weaken (fun v post h => by rewrite [decide_eq_true ⟨rfl, rfl⟩] at h; exact h)) [] rfl (subA_cons (List.mem_append_right _ (mem_at 0 rfl)) (subA_cons (List.mem_append_right _ (mem_at 1 rfl)) (subA_cons (List.mem_append_right _ (mem_at 2 rfl)) (subA_cons (List.mem_append_right _ (mem_at 6 rfl)) subA_nil)))) ?_
       rintro v post ⟨rfl, rfl⟩
       show G _ _ _ [_, _, _, _, _, _, _] _
       refine G_val rfl rfl rfl rfl (V_not rfl rfl) ?_
       refine G_val rfl rfl rfl rfl (V_move rfl rfl) ?_
       refine G_off rfl rfl rfl rfl ?_
       refine G_off rfl rfl rfl rfl ?_
       refine G_off rfl rfl rfl rfl ?_
       refine G_off rfl rfl rfl rfl ?_
       refine G_val rfl rfl rfl rfl (V_pickF rfl rfl rfl) ?_
       refine G_done ?_
       refine G_else rfl ?_
       refine G_skip ?_
       refine G_seq ?_
       refine G_seq ?_
       refine G_region (l := [0, 1, 2]) rfl ?_
       refine G_val rfl rfl rfl rfl (V_move rfl rfl) ?_
       refine G_val rfl rfl rfl rfl (V_loadW (s := 6) rfl rfl (List.mem_append_right _ (mem_at 3 rfl)) Tryz.underlying36 rfl infLawJournalFalls_36 rfl (by rfl)) ?_
       refine G_callM (L2 := [_, _, _, _, _, _, _]) rfl rfl rfl rfl rfl rfl Tryz.call21 ((jl_has d 30 lb lcap lc2 slNil (kc) h2 4 sp1 tx rc hJ1 tx rc u hu _ _ _).weaken (fun v post h => by rewrite [decide_eq_true ⟨rfl, rfl⟩] at h; exact h)) [] rfl (subA_cons (List.mem_append_right _ (mem_at 0 rfl)) (subA_cons (List.mem_append_right _ (mem_at 1 rfl)) (subA_cons (List.mem_append_right _ (mem_at 2 rfl)) (subA_cons (List.mem_append_right _ (mem_at 6 rfl)) subA_nil)))) ?_
       rintro v post ⟨rfl, rfl⟩
       show G _ _ _ [_, _, _, _, _, _, _] _
       refine G_done ?_
       refine G_then rfl ?_
       rcases True.intro with ⟨⟩
       ·
        refine G_region (l := [0, 1]) rfl ?_
        refine G_val rfl rfl rfl rfl (V_loadW (s := 6) rfl rfl (List.mem_append_right _ (mem_at 3 rfl)) Tryz.underlying36 rfl infLawJournalFalls_36 rfl (by rfl)) ?_
        refine G_put (l1 := [_, _, _, _, _]) (L' := [_, _, _, _, _, _, _]) rfl rfl rfl rfl (P_storeA (s := 6) rfl rfl rfl (mem_at 5 rfl) (by rfl) infLawJournalFalls_36 rfl (by rfl) (by simp [Value.oneCell', spCells, pCells, wCells, kCells, rgC, lgC, rdC, Sl.v, zeroF, foundC, jC, wC, acC, sv, jfC])) rfl ?_
        refine G_done ?_
        refine G_seq ?_
        refine G_region (l := [0, 1, 2, 3, 4, 5, 6, 7, 8, 9, 10]) rfl ?_
        refine G_val rfl rfl rfl rfl (V_move rfl rfl) ?_
        refine G_callM (L2 := [_, _, _, _]) rfl rfl rfl rfl rfl rfl Tryz.call14 (jl_open d 30 lb lcap lc2 slNil (kc) h2 4 sp1 tx rc hJ1 hlv (by omega)) [0, 0, 0] rfl subA_nil ?_
        rintro v post ⟨k3, lc3, uw3, j3, g3, u3, h3, hl3, hj3, hu3, rfl, rfl⟩
        show G _ _ _ [_, _, _, _, _, _, _, _, _, _] _
        rw [← hj.a.1] at hj3 ⊢
        refine G_val rfl rfl rfl rfl (V_move rfl rfl) ?_
        refine G_val rfl rfl rfl rfl (V_extract rfl rfl rfl) ?_
        refine G_val rfl rfl rfl rfl (V_extract rfl rfl rfl) ?_
        refine G_val rfl rfl rfl rfl (V_extract rfl rfl rfl) ?_
        refine G_val rfl rfl rfl rfl (V_extract rfl rfl rfl) ?_
        refine G_val rfl rfl rfl rfl (V_assign rfl rfl) ?_
        refine G_val rfl rfl rfl rfl (V_assign rfl rfl) ?_
        refine G_val rfl rfl rfl rfl (V_assign rfl rfl) ?_
        refine G_val rfl rfl rfl rfl (V_assign rfl rfl) ?_
        refine G_done ?_
        refine G_seq ?_
        refine G_seq ?_
        refine G_region (l := [0, 1, 2, 3, 4, 5, 6, 7, 8, 9, 10, 11, 12, 13, 14, 15]) rfl ?_
        refine G_val rfl rfl rfl rfl (V_move rfl rfl) ?_
        refine G_callM (L2 := [_, _, _, _, _, _, _, _, _, _]) rfl rfl rfl rfl rfl rfl Tryz.call9 (jl_num _) [] rfl subA_nil ?_
        rintro v post ⟨rfl, rfl⟩
        show G _ _ _ [_, _, _, _, _, _, _, _, _, _] _
        refine G_val rfl rfl rfl rfl (V_neq rfl rfl rfl) ?_
        refine G_val rfl rfl rfl rfl (V_move rfl rfl) ?_
        refine G_splitD 118 rfl (fun hc9 => ?_) (fun hc9 => ?_)
        · (first | (exact absurd rfl hc9) | (exact absurd hc9 (by decide)) | (exact absurd (by decide) hc9) | (exfalso; omega) | (exfalso; simp at hc9; done))
        refine G_val rfl rfl rfl rfl (V_move rfl rfl) ?_
        refine G_val rfl rfl rfl rfl (V_fieldAddr (fo := 0) rfl Tryz.underlying36 rfl infLawJournalFalls_9 rfl rfl rfl) ?_
        refine G_val rfl rfl rfl rfl (V_load1 rfl rfl (List.mem_append_right _ (mem_at 8 rfl)) rfl Tryz.underlying9 rfl) ?_
        refine G_val rfl rfl rfl rfl (V_sneq rfl rfl rfl) ?_
        refine G_val rfl rfl rfl rfl (V_pickF rfl rfl rfl) ?_
        refine G_val rfl rfl rfl rfl (V_move rfl rfl) ?_
        refine G_splitD 124 rfl (fun hc10 => ?_) (fun hc10 => ?_)
        · (first | (exact absurd rfl hc10) | (exact absurd hc10 (by decide)) | (exact absurd (by decide) hc10) | (exfalso; omega) | (exfalso; simp at hc10; done))
        refine G_val rfl rfl rfl rfl (V_move rfl rfl) ?_
        refine G_val rfl rfl rfl rfl (V_fieldAddr (fo := 1) rfl Tryz.underlying36 rfl infLawJournalFalls_34 rfl rfl rfl) ?_
        refine G_val rfl rfl rfl rfl (V_load1 rfl rfl (List.mem_append_right _ (mem_at 8 rfl)) rfl Tryz.underlying34 rfl) ?_
        refine G_callM (L2 := [_, _, _, _, _, _, _, _, _, _]) rfl rfl rfl rfl rfl rfl Tryz.call20 ((ref_texts u3.ob 0 u3.cap u3.cs 9 u3.fz u.ob 0 u.cap u.cs 9 u.fz rc rc hu3.sees hu.sees).weaken (fun v post h => by rewrite [decide_eq_true rfl] at h; exact h)) [] rfl (subA_cons (List.mem_append_right _ (mem_at 5 rfl)) (subA_cons (List.mem_append_right _ (mem_at 9 rfl)) subA_nil)) ?_
        rintro v post ⟨rfl, rfl⟩
        show G _ _ _ [_, _, _, _, _, _, _, _, _, _] _
        refine G_val rfl rfl rfl rfl (V_not rfl rfl) ?_
        refine G_val rfl rfl rfl rfl (V_pickF rfl rfl rfl) ?_
        refine G_done ?_
        refine G_else rfl ?_
        refine G_skip ?_
        refine G_region (l := [0, 1]) rfl ?_
        refine G_val rfl rfl rfl rfl (V_move rfl rfl) ?_
        refine G_val rfl rfl rfl rfl (V_assign rfl rfl) ?_
        refine G_done ?_
        refine G_inBlock ?_
        refine G_region (l := [0, 1, 2]) rfl ?_
        refine G_val rfl rfl rfl rfl (V_move rfl rfl) ?_
        refine G_val rfl rfl rfl rfl ((V_add rfl rfl rfl).int (wrap_i64 (by omega))) ?_
        refine G_val rfl rfl rfl rfl (V_assign rfl rfl) ?_
        refine G_done ?_
        refine G_sub ?_ [0, 0, 0, 5, 0, 0, 3] ?_ (ih (i + 1, k3, lc3, uw3, nextS sp1, tx, rc, a, j3, g3, u, e) ?_ ?_)
        · (refine (And.intro ?_ (And.intro ?_ (And.intro ?_ (And.intro ?_ (And.intro ?_ trivial))))) <;> first | rfl | exact slot_int (by omega) | exact slot_int (by simp))
        · exact ⟨_, rfl⟩
        · exact ⟨by omega, h3, hl3, hj3, (by show sp1.seq + 1 ≤ 2 + 2 * (i + 1); omega), hu, (by show (0 : Int) ≤ e; omega), (by show e ≤ 2 + ((i + 1 : Nat) : Int); omega)⟩
        · (first | omega | (dsimp only; omega))
    refine G_seq ?_
    obtain ⟨_, sp1, hsq1, hJ1⟩ := hO.resolve_right (fun q => (by assumption : ¬ g1 = 21) q.1)
    refine G_region (l := [0, 1]) rfl ?_
    refine G_val rfl rfl rfl rfl (V_move rfl rfl) ?_
    refine G_callM (L2 := [_, _, _, _, _, _]) rfl rfl rfl rfl rfl rfl Tryz.call24 (jl_fuse1 d 30 lb lcap lcs1 uw1 k1 h1 4 sp1 tx rc hJ1) [1] rfl subA_nil ?_
    rintro v post ⟨rfl, kc, h2, hlv, hJ2, rfl⟩
    show G _ _ _ [_, _, _, _, _, _, _] _
    refine G_done ?_
    refine G_seq ?_
    refine G_region (l := [0, 1, 2, 3]) rfl ?_
    refine G_val rfl rfl rfl rfl (V_move rfl rfl) ?_
    refine G_val rfl rfl rfl rfl (V_loadW (s := 6) rfl rfl (List.mem_append_right _ (mem_at 1 rfl)) Tryz.underlying36 rfl infLawJournalFalls_36 rfl (by rfl)) ?_
    refine G_callM (L2 := [_, _, _, _, _, _, _]) rfl rfl rfl rfl rfl rfl Tryz.call21 ((jl_has d 30 lb lcap lcs1 uw1 (kc) h2 4 sp1 tx rc hJ2 tx rc u hu _ _ _).weaken (fun v post h => by rewrite [decide_eq_true ⟨rfl, rfl⟩] at h; exact h)) [] rfl (subA_cons (List.mem_append_right _ (mem_at 0 rfl)) (subA_cons (List.mem_append_right _ (mem_at 2 rfl)) (subA_cons (List.mem_append_right _ (mem_at 3 rfl)) (subA_cons (List.mem_append_right _ (mem_at 6 rfl)) subA_nil)))) ?_
    rintro v post ⟨rfl, rfl⟩
    show G _ _ _ [_, _, _, _, _, _, _] _
    refine G_val rfl rfl rfl rfl (V_not rfl rfl) ?_
    refine G_done ?_
    refine G_else rfl ?_
    refine G_skip ?_
    refine G_seq ?_
    refine G_seq ?_
    refine G_region (l := [0, 1, 2]) rfl ?_
    refine G_val rfl rfl rfl rfl (V_move rfl rfl) ?_
    refine G_val rfl rfl rfl rfl (V_loadW (s := 6) rfl rfl (List.mem_append_right _ (mem_at 1 rfl)) Tryz.underlying36 rfl infLawJournalFalls_36 rfl (by rfl)) ?_
    refine G_callM (L2 := [_, _, _, _, _, _, _]) rfl rfl rfl rfl rfl rfl Tryz.call21 ((jl_has d 30 lb lcap lcs1 uw1 (kc) h2 4 sp1 tx rc hJ2 tx rc u hu _ _ _).weaken (fun v post h => by rewrite [decide_eq_true ⟨rfl, rfl⟩] at h; exact h)) [] rfl (subA_cons (List.mem_append_right _ (mem_at 0 rfl)) (subA_cons (List.mem_append_right _ (mem_at 2 rfl)) (subA_cons (List.mem_append_right _ (mem_at 3 rfl)) (subA_cons (List.mem_append_right _ (mem_at 6 rfl)) subA_nil)))) ?_
    rintro v post ⟨rfl, rfl⟩
    show G _ _ _ [_, _, _, _, _, _, _] _
    refine G_done ?_
    refine G_then rfl ?_
    rcases True.intro with ⟨⟩
    ·
     refine G_region (l := [0, 1]) rfl ?_
     refine G_val rfl rfl rfl rfl (V_loadW (s := 6) rfl rfl (List.mem_append_right _ (mem_at 1 rfl)) Tryz.underlying36 rfl infLawJournalFalls_36 rfl (by rfl)) ?_
     refine G_put (l1 := [_, _, _, _, _]) (L' := [_, _, _, _, _, _, _]) rfl rfl rfl rfl (P_storeA (s := 6) rfl rfl rfl (mem_at 5 rfl) (by rfl) infLawJournalFalls_36 rfl (by rfl) (by simp [Value.oneCell', spCells, pCells, wCells, kCells, rgC, lgC, rdC, Sl.v, zeroF, foundC, jC, wC, acC, sv, jfC])) rfl ?_
     refine G_done ?_
     refine G_seq ?_
     refine G_region (l := [0, 1, 2, 3, 4, 5, 6, 7, 8, 9, 10]) rfl ?_
     refine G_val rfl rfl rfl rfl (V_move rfl rfl) ?_
     refine G_callM (L2 := [_, _, _, _]) rfl rfl rfl rfl rfl rfl Tryz.call14 (jl_open d 30 lb lcap lcs1 uw1 (kc) h2 4 sp1 tx rc hJ2 hlv (by omega)) [0, 1, 1] rfl subA_nil ?_
     rintro v post ⟨k3, lc3, uw3, j3, g3, u3, h3, hl3, hj3, hu3, rfl, rfl⟩
     show G _ _ _ [_, _, _, _, _, _, _, _, _, _] _
     rw [← hj.a.1] at hj3 ⊢
     refine G_val rfl rfl rfl rfl (V_move rfl rfl) ?_
     refine G_val rfl rfl rfl rfl (V_extract rfl rfl rfl) ?_
     refine G_val rfl rfl rfl rfl (V_extract rfl rfl rfl) ?_
     refine G_val rfl rfl rfl rfl (V_extract rfl rfl rfl) ?_
     refine G_val rfl rfl rfl rfl (V_extract rfl rfl rfl) ?_
     refine G_val rfl rfl rfl rfl (V_assign rfl rfl) ?_
     refine G_val rfl rfl rfl rfl (V_assign rfl rfl) ?_
     refine G_val rfl rfl rfl rfl (V_assign rfl rfl) ?_
     refine G_val rfl rfl rfl rfl (V_assign rfl rfl) ?_
     refine G_done ?_
     refine G_seq ?_
     refine G_seq ?_
     refine G_region (l := [0, 1, 2, 3, 4, 5, 6, 7, 8, 9, 10, 11, 12, 13, 14, 15]) rfl ?_
     refine G_val rfl rfl rfl rfl (V_move rfl rfl) ?_
     refine G_callM (L2 := [_, _, _, _, _, _, _, _, _, _]) rfl rfl rfl rfl rfl rfl Tryz.call9 (jl_num _) [] rfl subA_nil ?_
     rintro v post ⟨rfl, rfl⟩
     show G _ _ _ [_, _, _, _, _, _, _, _, _, _] _
     refine G_val rfl rfl rfl rfl (V_neq rfl rfl rfl) ?_
     refine G_val rfl rfl rfl rfl (V_move rfl rfl) ?_
     refine G_splitD 118 rfl (fun hc8 => ?_) (fun hc8 => ?_)
     · (first | (exact absurd rfl hc8) | (exact absurd hc8 (by decide)) | (exact absurd (by decide) hc8) | (exfalso; omega) | (exfalso; simp at hc8; done))
     refine G_val rfl rfl rfl rfl (V_move rfl rfl) ?_
     refine G_val rfl rfl rfl rfl (V_fieldAddr (fo := 0) rfl Tryz.underlying36 rfl infLawJournalFalls_9 rfl rfl rfl) ?_
     refine G_val rfl rfl rfl rfl (V_load1 rfl rfl (List.mem_append_right _ (mem_at 8 rfl)) rfl Tryz.underlying9 rfl) ?_
     refine G_val rfl rfl rfl rfl (V_sneq rfl rfl rfl) ?_
     refine G_val rfl rfl rfl rfl (V_pickF rfl rfl rfl) ?_
     refine G_val rfl rfl rfl rfl (V_move rfl rfl) ?_
     refine G_splitD 124 rfl (fun hc9 => ?_) (fun hc9 => ?_)
     · (first | (exact absurd rfl hc9) | (exact absurd hc9 (by decide)) | (exact absurd (by decide) hc9) | (exfalso; omega) | (exfalso; simp at hc9; done))
     refine G_val rfl rfl rfl rfl (V_move rfl rfl) ?_
     refine G_val rfl rfl rfl rfl (V_fieldAddr (fo := 1) rfl Tryz.underlying36 rfl infLawJournalFalls_34 rfl rfl rfl) ?_
     refine G_val rfl rfl rfl rfl (V_load1 rfl rfl (List.mem_append_right _ (mem_at 8 rfl)) rfl Tryz.underlying34 rfl) ?_
     refine G_callM (L2 := [_, _, _, _, _, _, _, _, _, _]) rfl rfl rfl rfl rfl rfl Tryz.call20 ((ref_texts u3.ob 0 u3.cap u3.cs 9 u3.fz u.ob 0 u.cap u.cs 9 u.fz rc rc hu3.sees hu.sees).weaken (fun v post h => by rewrite [decide_eq_true rfl] at h; exact h)) [] rfl (subA_cons (List.mem_append_right _ (mem_at 5 rfl)) (subA_cons (List.mem_append_right _ (mem_at 9 rfl)) subA_nil)) ?_
     rintro v post ⟨rfl, rfl⟩
     show G _ _ _ [_, _, _, _, _, _, _, _, _, _] _
     refine G_val rfl rfl rfl rfl (V_not rfl rfl) ?_
     refine G_val rfl rfl rfl rfl (V_pickF rfl rfl rfl) ?_
     refine G_done ?_
     refine G_else rfl ?_
     refine G_skip ?_
     refine G_region (l := [0, 1]) rfl ?_
     refine G_val rfl rfl rfl rfl (V_move rfl rfl) ?_
     refine G_val rfl rfl rfl rfl (V_assign rfl rfl) ?_
     refine G_done ?_
     refine G_inBlock ?_
     refine G_region (l := [0, 1, 2]) rfl ?_
     refine G_val rfl rfl rfl rfl (V_move rfl rfl) ?_
     refine G_val rfl rfl rfl rfl ((V_add rfl rfl rfl).int (wrap_i64 (by omega))) ?_
     refine G_val rfl rfl rfl rfl (V_assign rfl rfl) ?_
     refine G_done ?_
     refine G_sub ?_ [0, 0, 0, 5, 0, 0, 3] ?_ (ih (i + 1, k3, lc3, uw3, nextS sp1, tx, rc, a, j3, g3, u, e) ?_ ?_)
     · (refine (And.intro ?_ (And.intro ?_ (And.intro ?_ (And.intro ?_ (And.intro ?_ trivial))))) <;> first | rfl | exact slot_int (by omega) | exact slot_int (by simp))
     · exact ⟨_, rfl⟩
     · exact ⟨by omega, h3, hl3, hj3, (by show sp1.seq + 1 ≤ 2 + 2 * (i + 1); omega), hu, (by show (0 : Int) ≤ e; omega), (by show e ≤ 2 + ((i + 1 : Nat) : Int); omega)⟩
     · (first | omega | (dsimp only; omega))
   ·
    show G _ _ _ [_, _, _, _, _, _, _] _
    refine G_val rfl rfl rfl rfl (V_move rfl rfl) ?_
    refine G_val rfl rfl rfl rfl (V_extract rfl rfl rfl) ?_
    refine G_val rfl rfl rfl rfl (V_extract rfl rfl rfl) ?_
    refine G_new rfl rfl rfl rfl (N_allocA rfl infLawJournalFalls_36 rfl) (fun b14 => ?_)
    refine G_val rfl rfl rfl rfl (V_assign rfl rfl) ?_
    refine G_put (l1 := []) (L' := [_, _, _, _, _, _, _, _]) rfl rfl rfl rfl (P_storeA (s := 6) rfl rfl rfl (mem_at 0 rfl) (by rfl) infLawJournalFalls_36 rfl (by rfl) (by simp [Value.oneCell', spCells, pCells, wCells, kCells, rgC, lgC, rdC, Sl.v, zeroF, foundC, jC, wC, acC, sv, jfC])) rfl ?_
    refine G_done ?_
    refine G_seq ?_
    refine G_seq ?_
    refine G_region (l := [0, 1]) rfl ?_
    refine G_val rfl rfl rfl rfl (V_move rfl rfl) ?_
    refine G_val rfl rfl rfl rfl (V_eql rfl rfl rfl) ?_
    refine G_done ?_
    refine G_ifD rfl (fun hc7 => ?_) (fun hc7 => ?_)
    ·
     refine G_seq ?_
     refine G_seq ?_
     have hO2 := (hO.resolve_left (fun q => q.1 (by assumption))).2
     rcases True.intro with ⟨⟩
     ·
      refine G_region (l := [0, 1, 2, 3, 4, 5]) rfl ?_
      refine G_val rfl rfl rfl rfl (V_move rfl rfl) ?_
      refine G_val rfl rfl rfl rfl (V_fieldAddr (fo := 3) rfl Tryz.underlying56 rfl infLawJournalFalls_54 rfl rfl rfl) ?_
      refine G_val rfl rfl rfl rfl (V_load1 rfl rfl (List.mem_append_right _ (mem_at 5 rfl)) rfl Tryz.underlying54 rfl) ?_
      refine G_callM (L2 := [_, _, _, _, _]) rfl rfl rfl rfl rfl rfl Tryz.call26 (crash_any d 30 lb lcap lcs1 uw1 k1 h1 x hxo) [1, 1, 1] rfl (subA_cons (List.mem_append_left _ (List.mem_cons_of_mem _ (List.mem_map.2 ⟨x, List.mem_of_getElem? hx, rfl⟩))) subA_nil) ?_
      rintro v post ⟨rfl, lc2, h2, rfl⟩
      show G _ _ _ [_, _, _, _, _, _, _, _] _
      refine G_callM (L2 := [_, _, _, _, _, _, _, _]) rfl rfl rfl rfl rfl rfl Tryz.call9 (jl_num _) [] rfl subA_nil ?_
      rintro v post ⟨rfl, rfl⟩
      show G _ _ _ [_, _, _, _, _, _, _, _] _
      refine G_val rfl rfl rfl rfl (V_neq rfl rfl rfl) ?_
      refine G_done ?_
      refine G_ifD rfl (fun hc8 => ?_) (fun hc8 => ?_)
      · (first | (exact absurd rfl hc8) | (exact absurd hc8 (by decide)) | (exact absurd (by decide) hc8) | (exfalso; omega) | (exfalso; simp at hc8; done))
      refine G_skip ?_
      refine G_seq ?_
      have hlv := crash_lively k1 x.ks
      obtain ⟨sp1, hsq1, hJ1⟩ := hO2 x.ks
      generalize k1.crash x.ks = kc at *
      rcases hJ1 with hJ1 | hJ1
      ·
       refine G_region (l := [0, 1, 2, 3, 4, 5, 6, 7, 8, 9]) rfl ?_
       refine G_val rfl rfl rfl rfl (V_move rfl rfl) ?_
       refine G_val rfl rfl rfl rfl (V_loadW (s := 6) rfl rfl (List.mem_append_right _ (mem_at 6 rfl)) Tryz.underlying36 rfl infLawJournalFalls_36 rfl (by rfl)) ?_
       refine G_callM (L2 := [_, _, _, _, _, _, _, _]) rfl rfl rfl rfl rfl rfl Tryz.call21 ((jl_has d 30 lb lcap lc2 slNil (kc) h2 4 sp1 tx rc hJ1 tx rc u hu _ _ _).weaken (fun v post h => by rewrite [decide_eq_true ⟨rfl, rfl⟩] at h; exact h)) [] rfl (subA_cons (List.mem_append_right _ (mem_at 0 rfl)) (subA_cons (List.mem_append_right _ (mem_at 1 rfl)) (subA_cons (List.mem_append_right _ (mem_at 2 rfl)) (subA_cons (List.mem_append_right _ (mem_at 7 rfl)) subA_nil)))) ?_
       rintro v post ⟨rfl, rfl⟩
       show G _ _ _ [_, _, _, _, _, _, _, _] _
       refine G_val rfl rfl rfl rfl (V_not rfl rfl) ?_
       refine G_val rfl rfl rfl rfl (V_move rfl rfl) ?_
       refine G_off rfl rfl rfl rfl ?_
       refine G_off rfl rfl rfl rfl ?_
       refine G_off rfl rfl rfl rfl ?_
       refine G_off rfl rfl rfl rfl ?_
       refine G_val rfl rfl rfl rfl (V_pickF rfl rfl rfl) ?_
       refine G_done ?_
       refine G_else rfl ?_
       refine G_skip ?_
       refine G_seq ?_
       refine G_seq ?_
       refine G_region (l := [0, 1, 2]) rfl ?_
       refine G_val rfl rfl rfl rfl (V_move rfl rfl) ?_
       refine G_val rfl rfl rfl rfl (V_loadW (s := 6) rfl rfl (List.mem_append_right _ (mem_at 3 rfl)) Tryz.underlying36 rfl infLawJournalFalls_36 rfl (by rfl)) ?_
       refine G_callM (L2 := [_, _, _, _, _, _, _, _]) rfl rfl rfl rfl rfl rfl Tryz.call21 (jl_has d 30 lb lcap lc2 slNil (kc) h2 4 sp1 tx rc hJ1 tx2 rc2 u2 hu2 _ _ _) [] rfl (subA_cons (List.mem_append_right _ (mem_at 0 rfl)) (subA_cons (List.mem_append_right _ (mem_at 1 rfl)) (subA_cons (List.mem_append_right _ (mem_at 2 rfl)) (subA_cons (List.mem_append_right _ (mem_at 4 rfl)) subA_nil)))) ?_
       rintro v post ⟨rfl, rfl⟩
       show G _ _ _ [_, _, _, _, _, _, _, _] _
       refine G_done ?_
       refine G_ifD rfl (fun hc9 => ?_) (fun hc9 => ?_)
       ·
        obtain ⟨rfl, rfl⟩ := (by assumption : tx = tx2 ∧ rc = rc2)
        ·
         refine G_region (l := [0, 1]) rfl ?_
         refine G_val rfl rfl rfl rfl (V_loadW (s := 6) rfl rfl (List.mem_append_right _ (mem_at 3 rfl)) Tryz.underlying36 rfl infLawJournalFalls_36 rfl (by rfl)) ?_
         refine G_put (l1 := [_, _, _, _, _, _]) (L' := [_, _, _, _, _, _, _, _]) rfl rfl rfl rfl (P_storeA (s := 6) rfl rfl rfl (mem_at 6 rfl) (by rfl) infLawJournalFalls_36 rfl (by rfl) (by simp [Value.oneCell', spCells, pCells, wCells, kCells, rgC, lgC, rdC, Sl.v, zeroF, foundC, jC, wC, acC, sv, jfC])) rfl ?_
         refine G_done ?_
         refine G_seq ?_
         refine G_region (l := [0, 1, 2, 3, 4, 5, 6, 7, 8, 9, 10]) rfl ?_
         refine G_val rfl rfl rfl rfl (V_move rfl rfl) ?_
         refine G_callM (L2 := [_, _, _, _, _]) rfl rfl rfl rfl rfl rfl Tryz.call14 (jl_open d 30 lb lcap lc2 slNil (kc) h2 4 sp1 tx rc hJ1 hlv (by omega)) [0, 0, 0] rfl subA_nil ?_
         rintro v post ⟨k3, lc3, uw3, j3, g3, u3, h3, hl3, hj3, hu3, rfl, rfl⟩
         show G _ _ _ [_, _, _, _, _, _, _, _, _, _, _] _
         refine G_val rfl rfl rfl rfl (V_move rfl rfl) ?_
         refine G_val rfl rfl rfl rfl (V_extract rfl rfl rfl) ?_
         refine G_val rfl rfl rfl rfl (V_extract rfl rfl rfl) ?_
         refine G_val rfl rfl rfl rfl (V_extract rfl rfl rfl) ?_
         refine G_val rfl rfl rfl rfl (V_extract rfl rfl rfl) ?_
         refine G_val rfl rfl rfl rfl (V_assign rfl rfl) ?_
         refine G_val rfl rfl rfl rfl (V_assign rfl rfl) ?_
         refine G_val rfl rfl rfl rfl (V_assign rfl rfl) ?_
         refine G_val rfl rfl rfl rfl (V_assign rfl rfl) ?_
         refine G_done ?_
         refine G_seq ?_
         refine G_seq ?_
         refine G_region (l := [0, 1, 2, 3, 4, 5, 6, 7, 8, 9, 10, 11, 12, 13, 14, 15]) rfl ?_
         refine G_val rfl rfl rfl rfl (V_move rfl rfl) ?_
         refine G_callM (L2 := [_, _, _, _, _, _, _, _, _, _, _]) rfl rfl rfl rfl rfl rfl Tryz.call9 (jl_num _) [] rfl subA_nil ?_
         rintro v post ⟨rfl, rfl⟩
         show G _ _ _ [_, _, _, _, _, _, _, _, _, _, _] _
         refine G_val rfl rfl rfl rfl (V_neq rfl rfl rfl) ?_
         refine G_val rfl rfl rfl rfl (V_move rfl rfl) ?_
         refine G_splitD 118 rfl (fun hc10 => ?_) (fun hc10 => ?_)
         · (first | (exact absurd rfl hc10) | (exact absurd hc10 (by decide)) | (exact absurd (by decide) hc10) | (exfalso; omega) | (exfalso; simp at hc10; done))
         refine G_val rfl rfl rfl rfl (V_move rfl rfl) ?_
         refine G_val rfl rfl rfl rfl (V_fieldAddr (fo := 0) rfl Tryz.underlying36 rfl infLawJournalFalls_9 rfl rfl rfl) ?_
         refine G_val rfl rfl rfl rfl (V_load1 rfl rfl (List.mem_append_right _ (mem_at 9 rfl)) rfl Tryz.underlying9 rfl) ?_
         refine G_val rfl rfl rfl rfl (V_sneq rfl rfl rfl) ?_
         refine G_val rfl rfl rfl rfl (V_pickF rfl rfl rfl) ?_
         refine G_val rfl rfl rfl rfl (V_move rfl rfl) ?_
         refine G_splitD 124 rfl (fun hc11 => ?_) (fun hc11 => ?_)
         · (first | (exact absurd rfl hc11) | (exact absurd hc11 (by decide)) | (exact absurd (by decide) hc11) | (exfalso; omega) | (exfalso; simp at hc11; done))
         refine G_val rfl rfl rfl rfl (V_move rfl rfl) ?_
         refine G_val rfl rfl rfl rfl (V_fieldAddr (fo := 1) rfl Tryz.underlying36 rfl infLawJournalFalls_34 rfl rfl rfl) ?_
         refine G_val rfl rfl rfl rfl (V_load1 rfl rfl (List.mem_append_right _ (mem_at 9 rfl)) rfl Tryz.underlying34 rfl) ?_
         refine G_callM (L2 := [_, _, _, _, _, _, _, _, _, _, _]) rfl rfl rfl rfl rfl rfl Tryz.call20 ((ref_texts u3.ob 0 u3.cap u3.cs 9 u3.fz u2.ob 0 u2.cap u2.cs 9 u2.fz rc rc hu3.sees hu2.sees).weaken (fun v post h => by rewrite [decide_eq_true rfl] at h; exact h)) [] rfl (subA_cons (List.mem_append_right _ (mem_at 5 rfl)) (subA_cons (List.mem_append_right _ (mem_at 7 rfl)) subA_nil)) ?_
         rintro v post ⟨rfl, rfl⟩
         show G _ _ _ [_, _, _, _, _, _, _, _, _, _, _] _
         refine G_val rfl rfl rfl rfl (V_not rfl rfl) ?_
         refine G_val rfl rfl rfl rfl (V_pickF rfl rfl rfl) ?_
         refine G_done ?_
         refine G_else rfl ?_
         refine G_skip ?_
         refine G_region (l := [0, 1]) rfl ?_
         refine G_val rfl rfl rfl rfl (V_move rfl rfl) ?_
         refine G_val rfl rfl rfl rfl (V_assign rfl rfl) ?_
         refine G_done ?_
         refine G_inBlock ?_
         refine G_region (l := [0, 1, 2]) rfl ?_
         refine G_val rfl rfl rfl rfl (V_move rfl rfl) ?_
         refine G_val rfl rfl rfl rfl ((V_add rfl rfl rfl).int (wrap_i64 (by omega))) ?_
         refine G_val rfl rfl rfl rfl (V_assign rfl rfl) ?_
         refine G_done ?_
         refine G_sub ?_ [0, 0, 0, 6, 0, 0, 2] ?_ (ih (i + 1, k3, lc3, uw3, nextS sp1, tx, rc, (pcs rc).length, j3, g3, u2, e2) ?_ ?_)
         · (refine (And.intro ?_ (And.intro ?_ (And.intro ?_ (And.intro ?_ (And.intro ?_ trivial))))) <;> first | rfl | exact slot_int (by omega) | exact slot_int (by simp))
         · exact ⟨_, rfl⟩
         · exact ⟨by omega, h3, hl3, hj3, (by show sp1.seq + 1 ≤ 2 + 2 * (i + 1); omega), hu2, (by show (0 : Int) ≤ e2; omega), (by show e2 ≤ 2 + ((i + 1 : Nat) : Int); omega)⟩
         · (first | omega | (dsimp only; omega))
       refine G_skip ?_
       refine G_seq ?_
       refine G_region (l := [0, 1, 2, 3, 4, 5, 6, 7, 8, 9, 10]) rfl ?_
       refine G_val rfl rfl rfl rfl (V_move rfl rfl) ?_
       refine G_callM (L2 := [_, _, _, _, _]) rfl rfl rfl rfl rfl rfl Tryz.call14 (jl_open d 30 lb lcap lc2 slNil (kc) h2 4 sp1 tx rc hJ1 hlv (by omega)) [0, 0, 0] rfl subA_nil ?_
       rintro v post ⟨k3, lc3, uw3, j3, g3, u3, h3, hl3, hj3, hu3, rfl, rfl⟩
       show G _ _ _ [_, _, _, _, _, _, _, _, _, _, _] _
       rw [← hj.a.1] at hj3 ⊢
       refine G_val rfl rfl rfl rfl (V_move rfl rfl) ?_
       refine G_val rfl rfl rfl rfl (V_extract rfl rfl rfl) ?_
       refine G_val rfl rfl rfl rfl (V_extract rfl rfl rfl) ?_
       refine G_val rfl rfl rfl rfl (V_extract rfl rfl rfl) ?_
       refine G_val rfl rfl rfl rfl (V_extract rfl rfl rfl) ?_
       refine G_val rfl rfl rfl rfl (V_assign rfl rfl) ?_
       refine G_val rfl rfl rfl rfl (V_assign rfl rfl) ?_
       refine G_val rfl rfl rfl rfl (V_assign rfl rfl) ?_
       refine G_val rfl rfl rfl rfl (V_assign rfl rfl) ?_
       refine G_done ?_
       refine G_seq ?_
       refine G_seq ?_
       refine G_region (l := [0, 1, 2, 3, 4, 5, 6, 7, 8, 9, 10, 11, 12, 13, 14, 15]) rfl ?_
       refine G_val rfl rfl rfl rfl (V_move rfl rfl) ?_
       refine G_callM (L2 := [_, _, _, _, _, _, _, _, _, _, _]) rfl rfl rfl rfl rfl rfl Tryz.call9 (jl_num _) [] rfl subA_nil ?_
       rintro v post ⟨rfl, rfl⟩
       show G _ _ _ [_, _, _, _, _, _, _, _, _, _, _] _
       refine G_val rfl rfl rfl rfl (V_neq rfl rfl rfl) ?_
       refine G_val rfl rfl rfl rfl (V_move rfl rfl) ?_
       refine G_splitD 118 rfl (fun hc10 => ?_) (fun hc10 => ?_)
       · (first | (exact absurd rfl hc10) | (exact absurd hc10 (by decide)) | (exact absurd (by decide) hc10) | (exfalso; omega) | (exfalso; simp at hc10; done))
       refine G_val rfl rfl rfl rfl (V_move rfl rfl) ?_
       refine G_val rfl rfl rfl rfl (V_fieldAddr (fo := 0) rfl Tryz.underlying36 rfl infLawJournalFalls_9 rfl rfl rfl) ?_
       refine G_val rfl rfl rfl rfl (V_load1 rfl rfl (List.mem_append_right _ (mem_at 9 rfl)) rfl Tryz.underlying9 rfl) ?_
       refine G_val rfl rfl rfl rfl (V_sneq rfl rfl rfl) ?_
       refine G_val rfl rfl rfl rfl (V_pickF rfl rfl rfl) ?_
       refine G_val rfl rfl rfl rfl (V_move rfl rfl) ?_
       refine G_splitD 124 rfl (fun hc11 => ?_) (fun hc11 => ?_)
       · (first | (exact absurd rfl hc11) | (exact absurd hc11 (by decide)) | (exact absurd (by decide) hc11) | (exfalso; omega) | (exfalso; simp at hc11; done))
       refine G_val rfl rfl rfl rfl (V_move rfl rfl) ?_
       refine G_val rfl rfl rfl rfl (V_fieldAddr (fo := 1) rfl Tryz.underlying36 rfl infLawJournalFalls_34 rfl rfl rfl) ?_
       refine G_val rfl rfl rfl rfl (V_load1 rfl rfl (List.mem_append_right _ (mem_at 9 rfl)) rfl Tryz.underlying34 rfl) ?_
       refine G_callM (L2 := [_, _, _, _, _, _, _, _, _, _, _]) rfl rfl rfl rfl rfl rfl Tryz.call20 ((ref_texts u3.ob 0 u3.cap u3.cs 9 u3.fz u.ob 0 u.cap u.cs 9 u.fz rc rc hu3.sees hu.sees).weaken (fun v post h => by rewrite [decide_eq_true rfl] at h; exact h)) [] rfl (subA_cons (List.mem_append_right _ (mem_at 5 rfl)) (subA_cons (List.mem_append_right _ (mem_at 10 rfl)) subA_nil)) ?_
       rintro v post ⟨rfl, rfl⟩
       show G _ _ _ [_, _, _, _, _, _, _, _, _, _, _] _
       refine G_val rfl rfl rfl rfl (V_not rfl rfl) ?_
       refine G_val rfl rfl rfl rfl (V_pickF rfl rfl rfl) ?_
       refine G_done ?_
       refine G_else rfl ?_
       refine G_skip ?_
       refine G_region (l := [0, 1]) rfl ?_
       refine G_val rfl rfl rfl rfl (V_move rfl rfl) ?_
       refine G_val rfl rfl rfl rfl (V_assign rfl rfl) ?_
       refine G_done ?_
       refine G_inBlock ?_
       refine G_region (l := [0, 1, 2]) rfl ?_
       refine G_val rfl rfl rfl rfl (V_move rfl rfl) ?_
       refine G_val rfl rfl rfl rfl ((V_add rfl rfl rfl).int (wrap_i64 (by omega))) ?_
       refine G_val rfl rfl rfl rfl (V_assign rfl rfl) ?_
       refine G_done ?_
       refine G_sub ?_ [0, 0, 0, 6, 0, 0, 4] ?_ (ih (i + 1, k3, lc3, uw3, nextS sp1, tx, rc, a, j3, g3, u, e) ?_ ?_)
       · (refine (And.intro ?_ (And.intro ?_ (And.intro ?_ (And.intro ?_ (And.intro ?_ trivial))))) <;> first | rfl | exact slot_int (by omega) | exact slot_int (by simp))
       · exact ⟨_, rfl⟩
       · exact ⟨by omega, h3, hl3, hj3, (by show sp1.seq + 1 ≤ 2 + 2 * (i + 1); omega), hu, (by show (0 : Int) ≤ e; omega), (by show e ≤ 2 + ((i + 1 : Nat) : Int); omega)⟩
       · (first | omega | (dsimp only; omega))
      ·
       refine G_region (l := [0, 1, 2, 3, 4, 5, 6, 7, 8, 9]) rfl ?_
       refine G_val rfl rfl rfl rfl (V_move rfl rfl) ?_
       refine G_val rfl rfl rfl rfl (V_loadW (s := 6) rfl rfl (List.mem_append_right _ (mem_at 6 rfl)) Tryz.underlying36 rfl infLawJournalFalls_36 rfl (by rfl)) ?_
       refine G_callM (L2 := [_, _, _, _, _, _, _, _]) rfl rfl rfl rfl rfl rfl Tryz.call21 (jl_has d 30 lb lcap lc2 slNil (kc) h2 4 sp1 tx2 rc2 hJ1 tx rc u hu _ _ _) [] rfl (subA_cons (List.mem_append_right _ (mem_at 0 rfl)) (subA_cons (List.mem_append_right _ (mem_at 1 rfl)) (subA_cons (List.mem_append_right _ (mem_at 2 rfl)) (subA_cons (List.mem_append_right _ (mem_at 7 rfl)) subA_nil)))) ?_
       rintro v post ⟨rfl, rfl⟩
       show G _ _ _ [_, _, _, _, _, _, _, _] _
       refine G_val rfl rfl rfl rfl (V_notD rfl rfl) ?_
       refine G_val rfl rfl rfl rfl (V_move rfl rfl) ?_
       refine G_splitD 92 rfl (fun hc9 => ?_) (fun hc9 => ?_)
       ·
        refine G_val rfl rfl rfl rfl (V_move rfl rfl) ?_
        refine G_val rfl rfl rfl rfl (V_loadW (s := 6) rfl rfl (List.mem_append_right _ (mem_at 3 rfl)) Tryz.underlying36 rfl infLawJournalFalls_36 rfl (by rfl)) ?_
        refine G_callM (L2 := [_, _, _, _, _, _, _, _]) rfl rfl rfl rfl rfl rfl Tryz.call21 ((jl_has d 30 lb lcap lc2 slNil (kc) h2 4 sp1 tx2 rc2 hJ1 tx2 rc2 u2 hu2 _ _ _).weaken (fun v post h => by rewrite [decide_eq_true ⟨rfl, rfl⟩] at h; exact h)) [] rfl (subA_cons (List.mem_append_right _ (mem_at 0 rfl)) (subA_cons (List.mem_append_right _ (mem_at 1 rfl)) (subA_cons (List.mem_append_right _ (mem_at 2 rfl)) (subA_cons (List.mem_append_right _ (mem_at 4 rfl)) subA_nil)))) ?_
        rintro v post ⟨rfl, rfl⟩
        show G _ _ _ [_, _, _, _, _, _, _, _] _
        refine G_val rfl rfl rfl rfl (V_not rfl rfl) ?_
        refine G_val rfl rfl rfl rfl (V_pickT rfl rfl rfl) ?_
        refine G_done ?_
        refine G_else rfl ?_
        refine G_skip ?_
        refine G_seq ?_
        refine G_seq ?_
        refine G_region (l := [0, 1, 2]) rfl ?_
        refine G_val rfl rfl rfl rfl (V_move rfl rfl) ?_
        refine G_val rfl rfl rfl rfl (V_loadW (s := 6) rfl rfl (List.mem_append_right _ (mem_at 3 rfl)) Tryz.underlying36 rfl infLawJournalFalls_36 rfl (by rfl)) ?_
        refine G_callM (L2 := [_, _, _, _, _, _, _, _]) rfl rfl rfl rfl rfl rfl Tryz.call21 ((jl_has d 30 lb lcap lc2 slNil (kc) h2 4 sp1 tx2 rc2 hJ1 tx2 rc2 u2 hu2 _ _ _).weaken (fun v post h => by rewrite [decide_eq_true ⟨rfl, rfl⟩] at h; exact h)) [] rfl (subA_cons (List.mem_append_right _ (mem_at 0 rfl)) (subA_cons (List.mem_append_right _ (mem_at 1 rfl)) (subA_cons (List.mem_append_right _ (mem_at 2 rfl)) (subA_cons (List.mem_append_right _ (mem_at 4 rfl)) subA_nil)))) ?_
        rintro v post ⟨rfl, rfl⟩
        show G _ _ _ [_, _, _, _, _, _, _, _] _
        refine G_done ?_
        refine G_then rfl ?_
        rcases True.intro with ⟨⟩
        ·
         refine G_region (l := [0, 1]) rfl ?_
         refine G_val rfl rfl rfl rfl (V_loadW (s := 6) rfl rfl (List.mem_append_right _ (mem_at 3 rfl)) Tryz.underlying36 rfl infLawJournalFalls_36 rfl (by rfl)) ?_
         refine G_put (l1 := [_, _, _, _, _, _]) (L' := [_, _, _, _, _, _, _, _]) rfl rfl rfl rfl (P_storeA (s := 6) rfl rfl rfl (mem_at 6 rfl) (by rfl) infLawJournalFalls_36 rfl (by rfl) (by simp [Value.oneCell', spCells, pCells, wCells, kCells, rgC, lgC, rdC, Sl.v, zeroF, foundC, jC, wC, acC, sv, jfC])) rfl ?_
         refine G_done ?_
         refine G_seq ?_
         refine G_region (l := [0, 1, 2, 3, 4, 5, 6, 7, 8, 9, 10]) rfl ?_
         refine G_val rfl rfl rfl rfl (V_move rfl rfl) ?_
         refine G_callM (L2 := [_, _, _, _, _]) rfl rfl rfl rfl rfl rfl Tryz.call14 (jl_open d 30 lb lcap lc2 slNil (kc) h2 4 sp1 tx2 rc2 hJ1 hlv (by omega)) [0, 0, 0] rfl subA_nil ?_
         rintro v post ⟨k3, lc3, uw3, j3, g3, u3, h3, hl3, hj3, hu3, rfl, rfl⟩
         show G _ _ _ [_, _, _, _, _, _, _, _, _, _, _] _
         refine G_val rfl rfl rfl rfl (V_move rfl rfl) ?_
         refine G_val rfl rfl rfl rfl (V_extract rfl rfl rfl) ?_
         refine G_val rfl rfl rfl rfl (V_extract rfl rfl rfl) ?_
         refine G_val rfl rfl rfl rfl (V_extract rfl rfl rfl) ?_
         refine G_val rfl rfl rfl rfl (V_extract rfl rfl rfl) ?_
         refine G_val rfl rfl rfl rfl (V_assign rfl rfl) ?_
         refine G_val rfl rfl rfl rfl (V_assign rfl rfl) ?_
         refine G_val rfl rfl rfl rfl (V_assign rfl rfl) ?_
         refine G_val rfl rfl rfl rfl (V_assign rfl rfl) ?_
         refine G_done ?_
         refine G_seq ?_
         refine G_seq ?_
         refine G_region (l := [0, 1, 2, 3, 4, 5, 6, 7, 8, 9, 10, 11, 12, 13, 14, 15]) rfl ?_
         refine G_val rfl rfl rfl rfl (V_move rfl rfl) ?_
         refine G_callM (L2 := [_, _, _, _, _, _, _, _, _, _, _]) rfl rfl rfl rfl rfl rfl Tryz.call9 (jl_num _) [] rfl subA_nil ?_
         rintro v post ⟨rfl, rfl⟩
         show G _ _ _ [_, _, _, _, _, _, _, _, _, _, _] _
         refine G_val rfl rfl rfl rfl (V_neq rfl rfl rfl) ?_
         refine G_val rfl rfl rfl rfl (V_move rfl rfl) ?_
         refine G_splitD 118 rfl (fun hc10 => ?_) (fun hc10 => ?_)
         · (first | (exact absurd rfl hc10) | (exact absurd hc10 (by decide)) | (exact absurd (by decide) hc10) | (exfalso; omega) | (exfalso; simp at hc10; done))
         refine G_val rfl rfl rfl rfl (V_move rfl rfl) ?_
         refine G_val rfl rfl rfl rfl (V_fieldAddr (fo := 0) rfl Tryz.underlying36 rfl infLawJournalFalls_9 rfl rfl rfl) ?_
         refine G_val rfl rfl rfl rfl (V_load1 rfl rfl (List.mem_append_right _ (mem_at 9 rfl)) rfl Tryz.underlying9 rfl) ?_
         refine G_val rfl rfl rfl rfl (V_sneq rfl rfl rfl) ?_
         refine G_val rfl rfl rfl rfl (V_pickF rfl rfl rfl) ?_
         refine G_val rfl rfl rfl rfl (V_move rfl rfl) ?_
         refine G_splitD 124 rfl (fun hc11 => ?_) (fun hc11 => ?_)
         · (first | (exact absurd rfl hc11) | (exact absurd hc11 (by decide)) | (exact absurd (by decide) hc11) | (exfalso; omega) | (exfalso; simp at hc11; done))
         refine G_val rfl rfl rfl rfl (V_move rfl rfl) ?_
         refine G_val rfl rfl rfl rfl (V_fieldAddr (fo := 1) rfl Tryz.underlying36 rfl infLawJournalFalls_34 rfl rfl rfl) ?_
         refine G_val rfl rfl rfl rfl (V_load1 rfl rfl (List.mem_append_right _ (mem_at 9 rfl)) rfl Tryz.underlying34 rfl) ?_
         refine G_callM (L2 := [_, _, _, _, _, _, _, _, _, _, _]) rfl rfl rfl rfl rfl rfl Tryz.call20 ((ref_texts u3.ob 0 u3.cap u3.cs 9 u3.fz u2.ob 0 u2.cap u2.cs 9 u2.fz rc2 rc2 hu3.sees hu2.sees).weaken (fun v post h => by rewrite [decide_eq_true rfl] at h; exact h)) [] rfl (subA_cons (List.mem_append_right _ (mem_at 5 rfl)) (subA_cons (List.mem_append_right _ (mem_at 7 rfl)) subA_nil)) ?_
         rintro v post ⟨rfl, rfl⟩
         show G _ _ _ [_, _, _, _, _, _, _, _, _, _, _] _
         refine G_val rfl rfl rfl rfl (V_not rfl rfl) ?_
         refine G_val rfl rfl rfl rfl (V_pickF rfl rfl rfl) ?_
         refine G_done ?_
         refine G_else rfl ?_
         refine G_skip ?_
         refine G_region (l := [0, 1]) rfl ?_
         refine G_val rfl rfl rfl rfl (V_move rfl rfl) ?_
         refine G_val rfl rfl rfl rfl (V_assign rfl rfl) ?_
         refine G_done ?_
         refine G_inBlock ?_
         refine G_region (l := [0, 1, 2]) rfl ?_
         refine G_val rfl rfl rfl rfl (V_move rfl rfl) ?_
         refine G_val rfl rfl rfl rfl ((V_add rfl rfl rfl).int (wrap_i64 (by omega))) ?_
         refine G_val rfl rfl rfl rfl (V_assign rfl rfl) ?_
         refine G_done ?_
         refine G_sub ?_ [0, 0, 0, 6, 0, 0, 2] ?_ (ih (i + 1, k3, lc3, uw3, nextS sp1, tx2, rc2, (pcs rc2).length, j3, g3, u2, e2) ?_ ?_)
         · (refine (And.intro ?_ (And.intro ?_ (And.intro ?_ (And.intro ?_ (And.intro ?_ trivial))))) <;> first | rfl | exact slot_int (by omega) | exact slot_int (by simp))
         · exact ⟨_, rfl⟩
         · exact ⟨by omega, h3, hl3, hj3, (by show sp1.seq + 1 ≤ 2 + 2 * (i + 1); omega), hu2, (by show (0 : Int) ≤ e2; omega), (by show e2 ≤ 2 + ((i + 1 : Nat) : Int); omega)⟩
         · (first | omega | (dsimp only; omega))
       refine G_off rfl rfl rfl rfl ?_
       refine G_off rfl rfl rfl rfl ?_
       refine G_off rfl rfl rfl rfl ?_
       refine G_off rfl rfl rfl rfl ?_
       refine G_val rfl rfl rfl rfl (V_pickF rfl rfl rfl) ?_
       refine G_done ?_
       refine G_else rfl ?_
       refine G_skip ?_
       refine G_seq ?_
       refine G_seq ?_
       refine G_region (l := [0, 1, 2]) rfl ?_
       refine G_val rfl rfl rfl rfl (V_move rfl rfl) ?_
       refine G_val rfl rfl rfl rfl (V_loadW (s := 6) rfl rfl (List.mem_append_right _ (mem_at 3 rfl)) Tryz.underlying36 rfl infLawJournalFalls_36 rfl (by rfl)) ?_
       refine G_callM (L2 := [_, _, _, _, _, _, _, _]) rfl rfl rfl rfl rfl rfl Tryz.call21 ((jl_has d 30 lb lcap lc2 slNil (kc) h2 4 sp1 tx2 rc2 hJ1 tx2 rc2 u2 hu2 _ _ _).weaken (fun v post h => by rewrite [decide_eq_true ⟨rfl, rfl⟩] at h; exact h)) [] rfl (subA_cons (List.mem_append_right _ (mem_at 0 rfl)) (subA_cons (List.mem_append_right _ (mem_at 1 rfl)) (subA_cons (List.mem_append_right _ (mem_at 2 rfl)) (subA_cons (List.mem_append_right _ (mem_at 4 rfl)) subA_nil)))) ?_
       rintro v post ⟨rfl, rfl⟩
       show G _ _ _ [_, _, _, _, _, _, _, _] _
       refine G_done ?_
       refine G_then rfl ?_
       rcases True.intro with ⟨⟩
       ·
        refine G_region (l := [0, 1]) rfl ?_
        refine G_val rfl rfl rfl rfl (V_loadW (s := 6) rfl rfl (List.mem_append_right _ (mem_at 3 rfl)) Tryz.underlying36 rfl infLawJournalFalls_36 rfl (by rfl)) ?_
        refine G_put (l1 := [_, _, _, _, _, _]) (L' := [_, _, _, _, _, _, _, _]) rfl rfl rfl rfl (P_storeA (s := 6) rfl rfl rfl (mem_at 6 rfl) (by rfl) infLawJournalFalls_36 rfl (by rfl) (by simp [Value.oneCell', spCells, pCells, wCells, kCells, rgC, lgC, rdC, Sl.v, zeroF, foundC, jC, wC, acC, sv, jfC])) rfl ?_
        refine G_done ?_
        refine G_seq ?_
        refine G_region (l := [0, 1, 2, 3, 4, 5, 6, 7, 8, 9, 10]) rfl ?_
        refine G_val rfl rfl rfl rfl (V_move rfl rfl) ?_
        refine G_callM (L2 := [_, _, _, _, _]) rfl rfl rfl rfl rfl rfl Tryz.call14 (jl_open d 30 lb lcap lc2 slNil (kc) h2 4 sp1 tx2 rc2 hJ1 hlv (by omega)) [0, 0, 0] rfl subA_nil ?_
        rintro v post ⟨k3, lc3, uw3, j3, g3, u3, h3, hl3, hj3, hu3, rfl, rfl⟩
        show G _ _ _ [_, _, _, _, _, _, _, _, _, _, _] _
        refine G_val rfl rfl rfl rfl (V_move rfl rfl) ?_
        refine G_val rfl rfl rfl rfl (V_extract rfl rfl rfl) ?_
        refine G_val rfl rfl rfl rfl (V_extract rfl rfl rfl) ?_
        refine G_val rfl rfl rfl rfl (V_extract rfl rfl rfl) ?_
        refine G_val rfl rfl rfl rfl (V_extract rfl rfl rfl) ?_
        refine G_val rfl rfl rfl rfl (V_assign rfl rfl) ?_
        refine G_val rfl rfl rfl rfl (V_assign rfl rfl) ?_
        refine G_val rfl rfl rfl rfl (V_assign rfl rfl) ?_
        refine G_val rfl rfl rfl rfl (V_assign rfl rfl) ?_
        refine G_done ?_
        refine G_seq ?_
        refine G_seq ?_
        refine G_region (l := [0, 1, 2, 3, 4, 5, 6, 7, 8, 9, 10, 11, 12, 13, 14, 15]) rfl ?_
        refine G_val rfl rfl rfl rfl (V_move rfl rfl) ?_
        refine G_callM (L2 := [_, _, _, _, _, _, _, _, _, _, _]) rfl rfl rfl rfl rfl rfl Tryz.call9 (jl_num _) [] rfl subA_nil ?_
        rintro v post ⟨rfl, rfl⟩
        show G _ _ _ [_, _, _, _, _, _, _, _, _, _, _] _
        refine G_val rfl rfl rfl rfl (V_neq rfl rfl rfl) ?_
        refine G_val rfl rfl rfl rfl (V_move rfl rfl) ?_
        refine G_splitD 118 rfl (fun hc10 => ?_) (fun hc10 => ?_)
        · (first | (exact absurd rfl hc10) | (exact absurd hc10 (by decide)) | (exact absurd (by decide) hc10) | (exfalso; omega) | (exfalso; simp at hc10; done))
        refine G_val rfl rfl rfl rfl (V_move rfl rfl) ?_
        refine G_val rfl rfl rfl rfl (V_fieldAddr (fo := 0) rfl Tryz.underlying36 rfl infLawJournalFalls_9 rfl rfl rfl) ?_
        refine G_val rfl rfl rfl rfl (V_load1 rfl rfl (List.mem_append_right _ (mem_at 9 rfl)) rfl Tryz.underlying9 rfl) ?_
        refine G_val rfl rfl rfl rfl (V_sneq rfl rfl rfl) ?_
        refine G_val rfl rfl rfl rfl (V_pickF rfl rfl rfl) ?_
        refine G_val rfl rfl rfl rfl (V_move rfl rfl) ?_
        refine G_splitD 124 rfl (fun hc11 => ?_) (fun hc11 => ?_)
        · (first | (exact absurd rfl hc11) | (exact absurd hc11 (by decide)) | (exact absurd (by decide) hc11) | (exfalso; omega) | (exfalso; simp at hc11; done))
        refine G_val rfl rfl rfl rfl (V_move rfl rfl) ?_
        refine G_val rfl rfl rfl rfl (V_fieldAddr (fo := 1) rfl Tryz.underlying36 rfl infLawJournalFalls_34 rfl rfl rfl) ?_
        refine G_val rfl rfl rfl rfl (V_load1 rfl rfl (List.mem_append_right _ (mem_at 9 rfl)) rfl Tryz.underlying34 rfl) ?_
        refine G_callM (L2 := [_, _, _, _, _, _, _, _, _, _, _]) rfl rfl rfl rfl rfl rfl Tryz.call20 ((ref_texts u3.ob 0 u3.cap u3.cs 9 u3.fz u2.ob 0 u2.cap u2.cs 9 u2.fz rc2 rc2 hu3.sees hu2.sees).weaken (fun v post h => by rewrite [decide_eq_true rfl] at h; exact h)) [] rfl (subA_cons (List.mem_append_right _ (mem_at 5 rfl)) (subA_cons (List.mem_append_right _ (mem_at 7 rfl)) subA_nil)) ?_
        rintro v post ⟨rfl, rfl⟩
        show G _ _ _ [_, _, _, _, _, _, _, _, _, _, _] _
        refine G_val rfl rfl rfl rfl (V_not rfl rfl) ?_
        refine G_val rfl rfl rfl rfl (V_pickF rfl rfl rfl) ?_
        refine G_done ?_
        refine G_else rfl ?_
        refine G_skip ?_
        refine G_region (l := [0, 1]) rfl ?_
        refine G_val rfl rfl rfl rfl (V_move rfl rfl) ?_
        refine G_val rfl rfl rfl rfl (V_assign rfl rfl) ?_
        refine G_done ?_
        refine G_inBlock ?_
        refine G_region (l := [0, 1, 2]) rfl ?_
        refine G_val rfl rfl rfl rfl (V_move rfl rfl) ?_
        refine G_val rfl rfl rfl rfl ((V_add rfl rfl rfl).int (wrap_i64 (by omega))) ?_
        refine G_val rfl rfl rfl rfl (V_assign rfl rfl) ?_
        refine G_done ?_
        refine G_sub ?_ [0, 0, 0, 6, 0, 0, 2] ?_ (ih (i + 1, k3, lc3, uw3, nextS sp1, tx2, rc2, (pcs rc2).length, j3, g3, u2, e2) ?_ ?_)
        · (refine (And.intro ?_ (And.intro ?_ (And.intro ?_ (And.intro ?_ (And.intro ?_ trivial))))) <;> first | rfl | exact slot_int (by omega) | exact slot_int (by simp))
        · exact ⟨_, rfl⟩
        · exact ⟨by omega, h3, hl3, hj3, (by show sp1.seq + 1 ≤ 2 + 2 * (i + 1); omega), hu2, (by show (0 : Int) ≤ e2; omega), (by show e2 ≤ 2 + ((i + 1 : Nat) : Int); omega)⟩
        · (first | omega | (dsimp only; omega))
    refine G_seq ?_
    obtain ⟨_, sp1, hsq1, hJ1⟩ := hO.resolve_right (fun q => (by assumption : ¬ g1 = 21) q.1)
    refine G_region (l := [0, 1]) rfl ?_
    refine G_val rfl rfl rfl rfl (V_move rfl rfl) ?_
    refine G_callM (L2 := [_, _, _, _, _, _, _]) rfl rfl rfl rfl rfl rfl Tryz.call24 (jl_fuse1 d 30 lb lcap lcs1 uw1 k1 h1 4 sp1 tx2 rc2 hJ1) [1] rfl subA_nil ?_
    rintro v post ⟨rfl, kc, h2, hlv, hJ2, rfl⟩
    show G _ _ _ [_, _, _, _, _, _, _, _] _
    refine G_done ?_
    refine G_seq ?_
    refine G_region (l := [0, 1, 2, 3]) rfl ?_
    refine G_val rfl rfl rfl rfl (V_move rfl rfl) ?_
    refine G_val rfl rfl rfl rfl (V_loadW (s := 6) rfl rfl (List.mem_append_right _ (mem_at 1 rfl)) Tryz.underlying36 rfl infLawJournalFalls_36 rfl (by rfl)) ?_
    refine G_callM (L2 := [_, _, _, _, _, _, _, _]) rfl rfl rfl rfl rfl rfl Tryz.call21 ((jl_has d 30 lb lcap lcs1 uw1 (kc) h2 4 sp1 tx2 rc2 hJ2 tx2 rc2 u2 hu2 _ _ _).weaken (fun v post h => by rewrite [decide_eq_true ⟨rfl, rfl⟩] at h; exact h)) [] rfl (subA_cons (List.mem_append_right _ (mem_at 0 rfl)) (subA_cons (List.mem_append_right _ (mem_at 2 rfl)) (subA_cons (List.mem_append_right _ (mem_at 3 rfl)) (subA_cons (List.mem_append_right _ (mem_at 4 rfl)) subA_nil)))) ?_
    rintro v post ⟨rfl, rfl⟩
    show G _ _ _ [_, _, _, _, _, _, _, _] _
    refine G_val rfl rfl rfl rfl (V_not rfl rfl) ?_
    refine G_done ?_
    refine G_else rfl ?_
    refine G_skip ?_
    refine G_seq ?_
    refine G_seq ?_
    refine G_region (l := [0, 1, 2]) rfl ?_
    refine G_val rfl rfl rfl rfl (V_move rfl rfl) ?_
    refine G_val rfl rfl rfl rfl (V_loadW (s := 6) rfl rfl (List.mem_append_right _ (mem_at 1 rfl)) Tryz.underlying36 rfl infLawJournalFalls_36 rfl (by rfl)) ?_
    refine G_callM (L2 := [_, _, _, _, _, _, _, _]) rfl rfl rfl rfl rfl rfl Tryz.call21 ((jl_has d 30 lb lcap lcs1 uw1 (kc) h2 4 sp1 tx2 rc2 hJ2 tx2 rc2 u2 hu2 _ _ _).weaken (fun v post h => by rewrite [decide_eq_true ⟨rfl, rfl⟩] at h; exact h)) [] rfl (subA_cons (List.mem_append_right _ (mem_at 0 rfl)) (subA_cons (List.mem_append_right _ (mem_at 2 rfl)) (subA_cons (List.mem_append_right _ (mem_at 3 rfl)) (subA_cons (List.mem_append_right _ (mem_at 4 rfl)) subA_nil)))) ?_
    rintro v post ⟨rfl, rfl⟩
    show G _ _ _ [_, _, _, _, _, _, _, _] _
    refine G_done ?_
    refine G_then rfl ?_
    rcases True.intro with ⟨⟩
    ·
     refine G_region (l := [0, 1]) rfl ?_
     refine G_val rfl rfl rfl rfl (V_loadW (s := 6) rfl rfl (List.mem_append_right _ (mem_at 1 rfl)) Tryz.underlying36 rfl infLawJournalFalls_36 rfl (by rfl)) ?_
     refine G_put (l1 := [_, _, _, _, _, _]) (L' := [_, _, _, _, _, _, _, _]) rfl rfl rfl rfl (P_storeA (s := 6) rfl rfl rfl (mem_at 6 rfl) (by rfl) infLawJournalFalls_36 rfl (by rfl) (by simp [Value.oneCell', spCells, pCells, wCells, kCells, rgC, lgC, rdC, Sl.v, zeroF, foundC, jC, wC, acC, sv, jfC])) rfl ?_
     refine G_done ?_
     refine G_seq ?_
     refine G_region (l := [0, 1, 2, 3, 4, 5, 6, 7, 8, 9, 10]) rfl ?_
     refine G_val rfl rfl rfl rfl (V_move rfl rfl) ?_
     refine G_callM (L2 := [_, _, _, _, _]) rfl rfl rfl rfl rfl rfl Tryz.call14 (jl_open d 30 lb lcap lcs1 uw1 (kc) h2 4 sp1 tx2 rc2 hJ2 hlv (by omega)) [0, 1, 1] rfl subA_nil ?_
     rintro v post ⟨k3, lc3, uw3, j3, g3, u3, h3, hl3, hj3, hu3, rfl, rfl⟩
     show G _ _ _ [_, _, _, _, _, _, _, _, _, _, _] _
     refine G_val rfl rfl rfl rfl (V_move rfl rfl) ?_
     refine G_val rfl rfl rfl rfl (V_extract rfl rfl rfl) ?_
     refine G_val rfl rfl rfl rfl (V_extract rfl rfl rfl) ?_
     refine G_val rfl rfl rfl rfl (V_extract rfl rfl rfl) ?_
     refine G_val rfl rfl rfl rfl (V_extract rfl rfl rfl) ?_
     refine G_val rfl rfl rfl rfl (V_assign rfl rfl) ?_
     refine G_val rfl rfl rfl rfl (V_assign rfl rfl) ?_
     refine G_val rfl rfl rfl rfl (V_assign rfl rfl) ?_
     refine G_val rfl rfl rfl rfl (V_assign rfl rfl) ?_
     refine G_done ?_
     refine G_seq ?_
     refine G_seq ?_
     refine G_region (l := [0, 1, 2, 3, 4, 5, 6, 7, 8, 9, 10, 11, 12, 13, 14, 15]) rfl ?_
     refine G_val rfl rfl rfl rfl (V_move rfl rfl) ?_
     refine G_callM (L2 := [_, _, _, _, _, _, _, _, _, _, _]) rfl rfl rfl rfl rfl rfl Tryz.call9 (jl_num _) [] rfl subA_nil ?_
     rintro v post ⟨rfl, rfl⟩
     show G _ _ _ [_, _, _, _, _, _, _, _, _, _, _] _
     refine G_val rfl rfl rfl rfl (V_neq rfl rfl rfl) ?_
     refine G_val rfl rfl rfl rfl (V_move rfl rfl) ?_
     refine G_splitD 118 rfl (fun hc8 => ?_) (fun hc8 => ?_)
     · (first | (exact absurd rfl hc8) | (exact absurd hc8 (by decide)) | (exact absurd (by decide) hc8) | (exfalso; omega) | (exfalso; simp at hc8; done))
     refine G_val rfl rfl rfl rfl (V_move rfl rfl) ?_
     refine G_val rfl rfl rfl rfl (V_fieldAddr (fo := 0) rfl Tryz.underlying36 rfl infLawJournalFalls_9 rfl rfl rfl) ?_
     refine G_val rfl rfl rfl rfl (V_load1 rfl rfl (List.mem_append_right _ (mem_at 9 rfl)) rfl Tryz.underlying9 rfl) ?_
     refine G_val rfl rfl rfl rfl (V_sneq rfl rfl rfl) ?_
     refine G_val rfl rfl rfl rfl (V_pickF rfl rfl rfl) ?_
     refine G_val rfl rfl rfl rfl (V_move rfl rfl) ?_
     refine G_splitD 124 rfl (fun hc9 => ?_) (fun hc9 => ?_)
     · (first | (exact absurd rfl hc9) | (exact absurd hc9 (by decide)) | (exact absurd (by decide) hc9) | (exfalso; omega) | (exfalso; simp at hc9; done))
     refine G_val rfl rfl rfl rfl (V_move rfl rfl) ?_
     refine G_val rfl rfl rfl rfl (V_fieldAddr (fo := 1) rfl Tryz.underlying36 rfl infLawJournalFalls_34 rfl rfl rfl) ?_
     refine G_val rfl rfl rfl rfl (V_load1 rfl rfl (List.mem_append_right _ (mem_at 9 rfl)) rfl Tryz.underlying34 rfl) ?_
     refine G_callM (L2 := [_, _, _, _, _, _, _, _, _, _, _]) rfl rfl rfl rfl rfl rfl Tryz.call20 ((ref_texts u3.ob 0 u3.cap u3.cs 9 u3.fz u2.ob 0 u2.cap u2.cs 9 u2.fz rc2 rc2 hu3.sees hu2.sees).weaken (fun v post h => by rewrite [decide_eq_true rfl] at h; exact h)) [] rfl (subA_cons (List.mem_append_right _ (mem_at 5 rfl)) (subA_cons (List.mem_append_right _ (mem_at 7 rfl)) subA_nil)) ?_
     rintro v post ⟨rfl, rfl⟩
     show G _ _ _ [_, _, _, _, _, _, _, _, _, _, _] _
     refine G_val rfl rfl rfl rfl (V_not rfl rfl) ?_
     refine G_val rfl rfl rfl rfl (V_pickF rfl rfl rfl) ?_
     refine G_done ?_
     refine G_else rfl ?_
     refine G_skip ?_
     refine G_region (l := [0, 1]) rfl ?_
     refine G_val rfl rfl rfl rfl (V_move rfl rfl) ?_
     refine G_val rfl rfl rfl rfl (V_assign rfl rfl) ?_
     refine G_done ?_
     refine G_inBlock ?_
     refine G_region (l := [0, 1, 2]) rfl ?_
     refine G_val rfl rfl rfl rfl (V_move rfl rfl) ?_
     refine G_val rfl rfl rfl rfl ((V_add rfl rfl rfl).int (wrap_i64 (by omega))) ?_
     refine G_val rfl rfl rfl rfl (V_assign rfl rfl) ?_
     refine G_done ?_
     refine G_sub ?_ [0, 0, 0, 6, 0, 0, 2] ?_ (ih (i + 1, k3, lc3, uw3, nextS sp1, tx2, rc2, (pcs rc2).length, j3, g3, u2, e2) ?_ ?_)
     · (refine (And.intro ?_ (And.intro ?_ (And.intro ?_ (And.intro ?_ (And.intro ?_ trivial))))) <;> first | rfl | exact slot_int (by omega) | exact slot_int (by simp))
     · exact ⟨_, rfl⟩
     · exact ⟨by omega, h3, hl3, hj3, (by show sp1.seq + 1 ≤ 2 + 2 * (i + 1); omega), hu2, (by show (0 : Int) ≤ e2; omega), (by show e2 ≤ 2 + ((i + 1 : Nat) : Int); omega)⟩
     · (first | omega | (dsimp only; omega))
  refine G_exit rfl ?_
  refine G_seq ?_
  refine G_region (l := [0, 1]) rfl ?_
  refine G_callM (L2 := [_, _, _, _, _, _, _]) rfl rfl rfl rfl rfl rfl Tryz.call7 (jl_live) [] rfl subA_nil ?_
  rintro v post ⟨rfl, rfl⟩
  show G _ _ _ [_, _, _, _, _, _, _] _
  refine G_val rfl rfl rfl rfl (V_assign rfl rfl) ?_
  refine G_done ?_
  refine G_ret (post := []) Tryz.func4 rfl (RVs_cons (RV_tmp rfl) RVs_nil) [] rfl ?_
  dsimp only [packed]
  exact ⟨rfl, rfl⟩


instance : Inhabited (Int × Int) := ⟨(0, 0)⟩
theorem keep_of {W : World} {es : List Value} (hl : es.length = 2) (h : Reads Tryz.prog W 88 es) : ∃ x : Int × Int, es = kCells x ∧ True := by
  match es, hl with
  | [v0, v1], _ =>
    obtain ⟨n0, e0, _⟩ := reads_int (reads_field (s := 1) (vs := [v0]) h Tryz.underlying88 0 _ rfl (by kernel_rfl) rfl) Tryz.underlying3
    obtain ⟨n1, e1, _⟩ := reads_int (reads_field (s := 1) (vs := [v1]) h Tryz.underlying88 1 _ rfl (by kernel_rfl) rfl) Tryz.underlying3
    simp only [List.cons.injEq, and_true] at e0 e1
    subst e0 e1
    exact ⟨(n0, n1), rfl, trivial⟩
set_option maxRecDepth 100000 in
theorem jf_of {W : World} {es : List Value} (hl : es.length = 4) (h : Reads Tryz.prog W 56 es) : ∃ x : Jf, es = jfC x ∧ JfOk x ∧ ∀ b, x.ob = some b → W.heap[b]? = some (.cells x.cs x.T x.fr) := by
  match es, hl with
  | [v0, v1, v2, v3], _ =>
    have hA := reads_field (s := 2) (vs := [v0, v1]) h Tryz.underlying56 0 _ rfl (by kernel_rfl) rfl
    obtain ⟨n0, e0, _⟩ := reads_int (reads_field (s := 1) (vs := [v0]) hA Tryz.underlying42 0 _ rfl (by kernel_rfl) rfl) Tryz.underlying3
    obtain ⟨t, e1, pt⟩ := reads_str (reads_field (s := 1) (vs := [v1]) hA Tryz.underlying42 1 _ rfl (by kernel_rfl) rfl) Tryz.underlying9
    obtain ⟨n2, e2, x2, y2⟩ := reads_int (reads_field (s := 1) (vs := [v2]) h Tryz.underlying56 1 _ rfl (by kernel_rfl) rfl) Tryz.underlying3
    obtain ⟨p, ob, off, cap, c, T, fr, ks, e3, hle, hmax, hs, _, hb⟩ := reads_slice2 (sz := 2) (reads_field (s := 1) (vs := [v3]) h Tryz.underlying56 2 _ rfl (by kernel_rfl) rfl) Tryz.underlying54 (by kernel_rfl) (by omega) kCells k_len (fun _ => True) (fun es hl h => keep_of hl h)
    simp only [List.cons.injEq, and_true] at e0 e1 e2 e3
    subst e0 e1 e2 e3
    exact ⟨⟨n0, t, n2, p, ob, off, cap, c, T, fr, ks⟩, rfl, ⟨pt, y2, hle, hmax, hs⟩, hb⟩
set_option maxRecDepth 100000 in
theorem journalFalls_walk : LawWalk 4 Tryz.f4 := lawwalk_reads (fun W base args hs hval => by
  rw [Tryz.params4] at hs hval
  obtain ⟨l⟩ := args
  match l, hs with
  | [a], _ =>
    obtain ⟨h0, hr⟩ := hval 0 53 a rfl rfl
    obtain ⟨p, i, j, rfl, hv⟩ := okv_slice h0 Tryz.underlying53
    obtain ⟨o1, p1, q1, c1, T1, f1, l, e1, hk, hg, hb⟩ := reads_slice (sz := 4) hr Tryz.underlying53 (by kernel_rfl) rfl hv jfC jf_len (fun x => JfOk x ∧ ∀ b, x.ob = some b → W.heap[b]? = some (.cells x.cs x.T x.fr)) (fun es hl h => jf_of hl h)
    rw [e1]
    exact ⟨_, has_cons (has_mapK jfK l (fun x hx => (hg x hx).2)) hb, journalFalls_all o1 p1 q1 c1 T1 f1 l hk (fun x hx => (hg x hx).1)⟩)


set_option maxRecDepth 100000 in
theorem journalFalls_lifted (os : Os) (started : os.Started) (H : Type) (enc : TypeId × Value → H) :
    ReturnsInHanded {} Tryz.checked os 4 .any (fun w args => (Rows.journalFallsSpec.pre enc Tryz.prog Tryz.f4 [] false w args ∧ laidMetH Tryz.prog Rows.journalFallsRow.laid w) ∧ sizedMet enc Tryz.prog Tryz.f4 (OpenSpec.ofChange Rows.journalFallsSpec) false w args)
      (Rows.journalFallsSpec.post enc Tryz.prog Tryz.f4 false true false false) := by
  refine returnsInHanded_of_change_and (C := Tryz.checked) (X := fun w _ => laidMetH Tryz.prog Rows.journalFallsRow.laid w) (fun _ _ _ hh h => h.of_heap hh) Tryz.ownK started (by kernel_rfl) Tryz.func4
    (ChangeSpec.witness_shaped (enc := enc) (C := Tryz.checked) (os := os) (X := fun w _ => laidMetH Tryz.prog Rows.journalFallsRow.laid w) false (World.laidAll Tryz.prog os Rows.journalFallsRow.laid) #[.slice none 0 0] 8 (World.laidAll_os _ _ _)
      (World.shaped_of_ZipB (by kernel_rfl) (by kernel_rfl)) (by kernel_rfl) (by kernel_rfl) (by kernel_rfl)
      (by rw [MakeChecks.laidMetH_plain _ _ _ (by kernel_rfl)]; exact laidMet_laidAll _ (by kernel_rfl) (by kernel_rfl))) ?_
  intro W base args ds gs before hval hW _ _ _ _
  exact law_end (s := Rows.journalFallsSpec) rfl (by kernel_rfl) (by kernel_rfl) (by decide +kernel) (fun ds h => by match ds, h with | [_], _ => rfl) journalFalls_walk W base args ds gs before hval hW
theorem journalFalls_said : Rows.JournalFallsSaid :=
  OpenClaim.holds_of_wide 4 Tryz.f4 rfl rfl rfl rfl rfl rfl rfl ⟨rfl, rfl, rfl, rfl, rfl⟩ rfl rfl rfl rfl rfl (by kernel_rfl) Tryz.func4 (by kernel_rfl)
    (of_decide_eq_true (by kernel_rfl)) (by unfold Func.isWrapper; first | (rw [if_pos (by decide +kernel)]; kernel_rfl) | (rw [if_neg (by decide +kernel)]; exact ⟨rfl, rfl⟩))
    (fun os started H enc _ => journalFalls_lifted os started H enc)
theorem journalFalls_holds : Rows.JournalFallsCardSaid :=
  Claim7.holds_tied_plain_at .later [] _ _ _ _ journalFalls_said (fun _ h => by cases h) (by kernel_rfl) (fun _ h => by cases h) journalFalls_row_tie rfl ⟨rfl, rfl⟩ (by kernel_rfl) rfl
    (fun f fn hf hfn => by
      obtain rfl : f = 4 := Option.some.inj ((show Tryz.prog.funcNamed "billet/billetlaw28.JournalFalls" = some 4 by kernel_rfl).symm.trans hf) |>.symm
      obtain rfl : fn = Tryz.f4 := (Option.some.inj (Tryz.func4.symm.trans hfn)).symm
      exact ⟨by kernel_rfl, fun j t ht => by
        rw [Tryz.params4] at ht
        have hm : t ∈ [53] := by simpa using Array.mem_of_getElem? ht
        have hall : ([53].all fun u => !Tryz.prog.wantsStandIn u) = true := by kernel_rfl
        exact (show Tryz.prog.wantsStandIn t = false by simpa using List.all_eq_true.1 hall t hm)⟩)
    (by kernel_rfl)
#print axioms journalFalls_holds

end
end Go.Proofs.YtbblkgdejgoncaaGreatDoor
