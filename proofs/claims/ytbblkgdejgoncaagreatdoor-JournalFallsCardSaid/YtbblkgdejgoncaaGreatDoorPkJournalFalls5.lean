/- What the law JournalFalls needs, part 5. -/
import Derived.Test.YtbblkgdejgoncaaGreatDoorPkJournalFalls1
import Derived.Test.YtbblkgdejgoncaaGreatDoorPkJournalFalls2
import Derived.Test.YtbblkgdejgoncaaGreatDoorPkJournalFalls3
import Derived.Test.YtbblkgdejgoncaaGreatDoorPkJournalFalls4
import Derived.RangeFuncRecord

/- A journal that is open, in plain lists; what is read of it. -/
set_option linter.unusedSimpArgs false
set_option linter.unusedVariables false
namespace Go.Proofs.YtbblkgdejgoncaaGreatDoor
open Go Go.RowKit

section



theorem jd_load {N R : Nat} {k : Dk} {sp : Sp} {text : List UInt8} (h : JH N R k sp text) (ho : DkOk k) : loadE k = 0 ∧ loadS k = sp := by
  have hlen := h.len
  have hrN := h.rN
  obtain ⟨a0, b0⟩ := read_view ho h.alive (i := 0) (by omega)
  obtain ⟨a1, b1⟩ := read_view ho h.alive (i := 1) (by omega)
  rw [view_nil h.w0] at a0 a1
  have a0 : k.readS 0 = k.L.getD 0 [] := a0
  have a1 : k.readS 1 = k.L.getD 1 [] := a1
  have b0 : k.readE 0 = 0 := b0
  have b1 : k.readE 1 = 0 := b1
  obtain ⟨r, hr1, hr2⟩ := h.oth
  have hX : isS (k.L.getD (1 - sp.seq % 2) []) → (decSu (k.L.getD (1 - sp.seq % 2) [])).seq < sp.seq := fun hi => by rw [supl_seq hr1 hi]; exact hr2
  obtain ⟨p0, p1⟩ := pick_head h.ok h.may hX
  have hsup := h.sup
  have hp : pickS (k.readS 0) (k.readS 1) = sp := by
    rw [a0, a1]
    rcases (by omega : sp.seq % 2 = 0 ∨ sp.seq % 2 = 1) with hm | hm
    · have := p0 hm
      rw [hm] at hsup this
      rw [hsup]; exact this
    · have := p1 hm
      rw [hm] at hsup this
      rw [hsup]; exact this
  have h1 := h.may.1
  unfold loadE loadS
  rw [b0, b1, hp]
  simp; omega
theorem jq_got {k : Dk} {f : Nat} {b : Int} {e : Nat} {s : List UInt8} (h : DkOk k) (hd : k.dead = false) (he : e < 4294967296) (hr : regE k.L.length (f : Int) b e = 0) (hm : (manyS s.length : Int) ≤ b) (hv : ∀ i, i < manyS s.length → (view k).getD (f + i) [] = blkS e s i) :
    gotT k (f : Int) b e (s.length : Int) = s ∧ gotE k (f : Int) b e (s.length : Int) = 0 := by
  obtain ⟨e1, e2⟩ := got_yes (z := (s.length : Int)) hr
  rw [e1, e2]
  have hr' := hr
  rw [regE_ok] at hr'
  have h4 := h.n4
  refine get_text hr'.2.2.2 he (by omega) (by rw [rdB_len]; omega) (fun i hi => ?_)
  have hrd : (rdB k (f : Int) b.toNat).getD i [] = blkS e s i := by
    rw [rdB_get (by omega), show (f : Int) + (i : Int) = ((f + i : Nat) : Int) by omega, (read_view h hd (by omega)).1, hv i hi]
  rw [hrd]
  exact blk_open hr'.2.2.2 he hi (by omega)
def slotF (R : Nat) (sp : Sp) : Nat := 2 + sp.slot.toNat * R
theorem slot_f {R : Nat} {sp : Sp} (h : MayS sp) : (slotF R sp = 2 ∨ slotF R sp = 2 + R) ∧ (2 : Int) + sp.slot * (R : Int) = ((slotF R sp : Nat) : Int) := by
  unfold slotF
  rcases h.2.2.2.1 with h | h <;> rw [h] <;> simp
theorem jd_got {N R : Nat} {k : Dk} {sp : Sp} {text : List UInt8} (h : JH N R k sp text) (ho : DkOk k) : gotT k (slotF R sp : Nat) R sp.base sp.size = text ∧ gotE k (slotF R sp : Nat) R sp.base sp.size = 0 := by
  have hlen := h.len
  have hrN := h.rN
  have hr1 := h.r1
  have hs := (slot_f (R := R) h.may).1
  have hm := h.many
  rw [h.size]
  refine jq_got ho h.alive h.ok.b1 (regE_ok.2 ⟨by omega, by omega, by omega, by have := h.may.2.1; omega⟩) (by omega) (fun i hi => ?_)
  rw [view_nil h.w0]; exact h.snap i hi
theorem jd_rep {N R : Nat} {k : Dk} {sp : Sp} {text : List UInt8} {recs : List (List UInt8)} (h : JD N R k sp text recs) (ho : DkOk k) : rp (rdB k ((2 + 2 * R : Nat) : Int) (N - (2 + 2 * R))) sp.epoch sp.base 0 = (recs, (pcs recs).length) := by
  have hrN := h.h.rN
  rw [rdB_reg ho h.h.alive h.h.w0 (by rw [h.h.len]; omega)]; exact h.rpl
/-- A journal that is open: its log stands behind the last record. -/
structure JJ (N R : Nat) (k : Dk) (sp : Sp) (text : List UInt8) (recs : List (List UInt8)) (a : Nat) : Prop where
  h : JH N R k sp text
  fl : ∃ rb base a0 done, Fl (2 + 2 * R) (N - (2 + 2 * R)) sp.base N sp.epoch k a rb base a0 done [] done.length ∧ recs = base ++ done ∧ a0 = (pcs base).length
theorem JJ.a {N R a : Nat} {k : Dk} {sp : Sp} {text : List UInt8} {recs : List (List UInt8)} (h : JJ N R k sp text recs a) : a = (pcs recs).length ∧ a ≤ N - (2 + 2 * R) := by
  obtain ⟨rb, base, a0, done, f, rfl, rfl⟩ := h.fl
  refine ⟨?_, f.atn⟩
  rw [f.at_, pcs_app, List.length_append]
theorem JJ.jd {N R a : Nat} {k : Dk} {sp : Sp} {text : List UInt8} {recs : List (List UInt8)} (h : JJ N R k sp text recs a) : JD N R k sp text recs := by
  obtain ⟨rb, base, a0, done, f, rfl, rfl⟩ := h.fl
  obtain ⟨x1, x2, j, x3, x4, x5⟩ := fl_crashA f []
  rw [List.append_nil] at x4 x5
  have hj : done.take j = done := List.take_of_length_le x3
  rw [hj] at x5
  refine ⟨h.h, x2, ?_⟩
  rw [pcs_app, List.length_append]; exact x5
theorem JJ.fuse {N R a : Nat} {k : Dk} {sp : Sp} {text : List UInt8} {recs : List (List UInt8)} (h : JJ N R k sp text recs a) (z : Int) : JJ N R (k.setFuse z) sp text recs a := by
  obtain ⟨rb, base, a0, done, f, e1, e2⟩ := h.fl
  exact ⟨⟨h.h.len, h.h.w0, h.h.alive, h.h.r1, h.h.rN, h.h.n60, h.h.ok, h.h.may, h.h.q, h.h.eq, h.h.sup, h.h.oth, h.h.size, h.h.many, h.h.snap⟩, rb, base, a0, done, fl_fuse f z, e1, e2⟩
theorem JD.fuse {N R : Nat} {k : Dk} {sp : Sp} {text : List UInt8} {recs : List (List UInt8)} (h : JD N R k sp text recs) (z : Int) : JD N R (k.setFuse z) sp text recs :=
  ⟨⟨h.h.len, h.h.w0, h.h.alive, h.h.r1, h.h.rN, h.h.n60, h.h.ok, h.h.may, h.h.q, h.h.eq, h.h.sup, h.h.oth, h.h.size, h.h.many, h.h.snap⟩, h.low, h.rpl⟩
/-- Behind an Open. -/
theorem jopen_jj {N R : Nat} {k k' : Dk} {sp : Sp} {text : List UInt8} {recs : List (List UInt8)} (h : JD N R k sp text recs) (h' : JD N R k' (nextS sp) text recs) (hr : reg (2 + 2 * R) (N - (2 + 2 * R)) k'.L = reg (2 + 2 * R) (N - (2 + 2 * R)) k.L) : JJ N R k' (nextS sp) text recs (pcs recs).length := by
  have hrN := h.h.rN
  have hn := h.h.n60
  have hq := h'.h.q
  have he : (nextS sp).epoch = sp.epoch + 1 := rfl
  have hee := h.h.eq
  have hq' : sp.seq + 1 < 250 := hq
  have hb := h.h.may.2.2.1
  refine ⟨h'.h, _, recs, (pcs recs).length, [], fl_start h'.h.len (by omega) (by omega) (by omega) (by omega) (by show sp.base ≤ sp.epoch + 1; omega) h'.h.w0 (fun i hi => by rw [hr]; exact h.low i hi) (by rw [hr]; exact h.rpl), by simp, rfl⟩
/-- Behind an Anew. -/
theorem janew_jj {N R : Nat} {k k' : Dk} {sp : Sp} {text s : List UInt8} {recs : List (List UInt8)} (h : JD N R k sp text recs) (h' : JD N R k' (anewS sp s.length) s []) (hr : reg (2 + 2 * R) (N - (2 + 2 * R)) k'.L = reg (2 + 2 * R) (N - (2 + 2 * R)) k.L) : JJ N R k' (anewS sp s.length) s [] 0 := by
  have hrN := h.h.rN
  have hn := h.h.n60
  have hq := h'.h.q
  have he : (anewS sp s.length).epoch = sp.epoch + 1 := rfl
  have hee := h.h.eq
  have hq' : sp.seq + 1 < 250 := hq
  refine ⟨h'.h, _, [], 0, [], fl_start h'.h.len (by omega) (by omega) (by omega) (by omega) (Nat.le_refl _) h'.h.w0 (fun i hi => by rw [hr]; exact h.low i hi) ?_, by simp, rfl⟩
  refine rp_no (fun x => ?_)
  have h2 := x.2.1
  have h3 := x.2.2.1
  have : (anewS sp s.length).base = sp.epoch + 1 := rfl
  omega
/-- A record is appended, and synced. -/
def addK (k : Dk) (f b : Int) (e a : Nat) (s : List UInt8) : Dk := if appE k f b e a s ≠ 0 then appK k f b e a s else (appK k f b e a s).sync
def addE (k : Dk) (f b : Int) (e a : Nat) (s : List UInt8) : Int := if appE k f b e a s ≠ 0 then appE k f b e a s else (appK k f b e a s).syncE
theorem add_1 {k : Dk} {f b : Int} {e a : Nat} {s : List UInt8} (h : ¬ appE k f b e a s = 0) : addK k f b e a s = appK k f b e a s ∧ addE k f b e a s = appE k f b e a s := by unfold addK addE; simp [h]
theorem add_2 {k : Dk} {f b : Int} {e a : Nat} {s : List UInt8} (h : appE k f b e a s = 0) : addK k f b e a s = (appK k f b e a s).sync ∧ addE k f b e a s = (appK k f b e a s).syncE := by unfold addK addE; simp [h]
theorem add_no {k : Dk} {f b : Int} {e a : Nat} {s : List UInt8} (h : ¬ lgE (b - a) s = 0) : addK k f b e a s = k ∧ addE k f b e a s = lgE (b - a) s ∧ appA k f b e a s = a := by
  obtain ⟨e1, e2, e3⟩ := app_no (k := k) (f := f) (e := e) h
  obtain ⟨g1, g2⟩ := add_1 (k := k) (f := f) (b := b) (e := e) (a := a) (s := s) (by rw [e2]; exact h)
  rw [g1, g2, e1, e2, e3]; exact ⟨rfl, rfl, rfl⟩
theorem jadd_fall {N R a : Nat} {k : Dk} {sp : Sp} {text : List UInt8} {recs : List (List UInt8)} (h : JJ N R k sp text recs a) {s : List UInt8} (hs : s.length ≤ 1000) (hfit : fitsL (((N - (2 + 2 * R) : Nat) : Int) - (a : Int)) s) :
    (addE k ((2 + 2 * R : Nat) : Int) ((N - (2 + 2 * R) : Nat) : Int) sp.epoch a s = 0 ∧ appA k ((2 + 2 * R : Nat) : Int) ((N - (2 + 2 * R) : Nat) : Int) sp.epoch a s = a + manyN s.length ∧ JJ N R (addK k ((2 + 2 * R : Nat) : Int) ((N - (2 + 2 * R) : Nat) : Int) sp.epoch a s) sp text (recs ++ [s]) (a + manyN s.length)) ∨
    (addE k ((2 + 2 * R : Nat) : Int) ((N - (2 + 2 * R) : Nat) : Int) sp.epoch a s = 21 ∧ ∀ ks, JD N R ((addK k ((2 + 2 * R : Nat) : Int) ((N - (2 + 2 * R) : Nat) : Int) sp.epoch a s).crash ks) sp text recs ∨ JD N R ((addK k ((2 + 2 * R : Nat) : Int) ((N - (2 + 2 * R) : Nat) : Int) sp.epoch a s).crash ks) sp text (recs ++ [s])) := by
  have hrN := h.h.rN
  have hlen := h.h.len
  obtain ⟨rb, base, a0, done, f, e1, e2⟩ := h.fl
  -- blocks ahead of the log are not touched
  have below : ∀ {kk : Dk} {done' rest' : List (List UInt8)} {a' m' : Nat}, Fl (2 + 2 * R) (N - (2 + 2 * R)) sp.base N sp.epoch kk a' rb base a0 done' rest' m' → (∀ i, i < 2 + 2 * R → kk.L.getD i [] = k.L.getD i []) → ∀ ks, ∀ i, i < 2 + 2 * R → (kk.crash ks).L.getD i [] = k.L.getD i [] := fun {kk done' rest' a' m'} ff hb ks i hi => by
    have hl := ff.len
    have hw := ff.wat
    have := keeps_inv (W := kk.W) (fun i b => i < 2 + 2 * R → b = k.L.getD i []) (fun x hx b c _ _ => by
      obtain ⟨t, p, _, _, q3⟩ := hw x hx
      intro hlt; rw [q3] at hlt; simp only at hlt; omega) ks kk.L (fun x hx => by
      obtain ⟨t, p, q1, q2, q3⟩ := hw x hx
      rw [q3]; simp only; omega) (fun i _ hlt => hb i hlt) i (by omega) hi
    exact this
  have done_ : ∀ {kk : Dk} {done' rest' : List (List UInt8)} {a' m' : Nat}, Fl (2 + 2 * R) (N - (2 + 2 * R)) sp.base N sp.epoch kk a' rb base a0 done' rest' m' → (∀ i, i < 2 + 2 * R → kk.L.getD i [] = k.L.getD i []) → done' ++ rest' = done ++ [s] → done.length ≤ m' → ∀ ks, JD N R (kk.crash ks) sp text recs ∨ JD N R (kk.crash ks) sp text (recs ++ [s]) := fun {kk done' rest' a' m'} ff hb hdr hm ks => by
    obtain ⟨x1, x2, j, x3, x4, x5⟩ := fl_crashA ff ks
    have hH : JH N R (kk.crash ks) sp text := h.h.keep x1 rfl rfl (fun i hi _ => below ff hb ks i hi)
    rw [hdr] at x4 x5
    rw [List.length_append, List.length_singleton] at x4
    rcases (by omega : j = done.length ∨ j = done.length + 1) with rfl | rfl
    · left
      rw [List.take_left' rfl] at x5
      exact ⟨hH, x2, by rw [e1, x5, e2, pcs_app, List.length_append]⟩
    · right
      rw [List.take_of_length_le (by rw [List.length_append]; simp)] at x5
      exact ⟨hH, x2, by rw [e1, x5, e2, List.append_assoc, pcs_app base, List.length_append]⟩
  have hLk : ∀ i, i < 2 + 2 * R → (appK k ((2 + 2 * R : Nat) : Int) ((N - (2 + 2 * R) : Nat) : Int) sp.epoch a s).L.getD i [] = k.L.getD i [] := fun i hi => by
    have hd := f.live
    obtain ⟨y1, _⟩ := app_yes (k := k) (f := ((2 + 2 * R : Nat) : Int)) (e := sp.epoch) (lgE_0.2 hfit)
    have he : 0 < sp.epoch := f.e1
    have hbl : (lblks sp.epoch a (piecesF s)).length = manyN s.length := by rw [lblks_len, piecesF_len]
    have hf2 := hfit.2
    have hatn := f.atn
    obtain ⟨j, _, g2, _⟩ := wrs_all (lblks sp.epoch a (piecesF s)) k (((2 + 2 * R : Nat) : Int) + (a : Int)) (lblks_64 he (piecesF_48 s) a) (by omega) (by rw [hbl]; omega)
    rw [y1, g2]
  rcases fl_append f hs hfit with ⟨x1, x2, _, x4⟩ | ⟨x1, x2, x3⟩
  · obtain ⟨g1, g2⟩ := add_2 (k := k) (f := ((2 + 2 * R : Nat) : Int)) (b := ((N - (2 + 2 * R) : Nat) : Int)) (e := sp.epoch) (a := a) (s := s) x1
    rw [g1, g2]
    rcases fl_sync x4 with ⟨y1, _, y3⟩ | ⟨y1, y2⟩
    · refine .inl ⟨y1, x2, ?_, rb, base, a0, done ++ [s], y3, by rw [e1, List.append_assoc], e2⟩
      have hW : (appK k ((2 + 2 * R : Nat) : Int) ((N - (2 + 2 * R) : Nat) : Int) sp.epoch a s).sync.W = [] := by
        rcases hW : (appK k ((2 + 2 * R : Nat) : Int) ((N - (2 + 2 * R) : Nat) : Int) sp.epoch a s).sync.W with _ | ⟨w, ws⟩
        · rfl
        · exfalso
          cases hs2 : spD (appK k ((2 + 2 * R : Nat) : Int) ((N - (2 + 2 * R) : Nat) : Int) sp.epoch a s).fuse (appK k ((2 + 2 * R : Nat) : Int) ((N - (2 + 2 * R) : Nat) : Int) sp.epoch a s).dead with
          | true => rw [(sync_dead hs2).2] at y1; exact absurd y1 (by decide)
          | false => rw [(sync_live hs2).1] at hW; cases hW
      have hdd : (appK k ((2 + 2 * R : Nat) : Int) ((N - (2 + 2 * R) : Nat) : Int) sp.epoch a s).sync.dead = false := by
        cases hs2 : spD (appK k ((2 + 2 * R : Nat) : Int) ((N - (2 + 2 * R) : Nat) : Int) sp.epoch a s).fuse (appK k ((2 + 2 * R : Nat) : Int) ((N - (2 + 2 * R) : Nat) : Int) sp.epoch a s).dead with
        | true => rw [(sync_dead hs2).2] at y1; exact absurd y1 (by decide)
        | false => rw [(sync_live hs2).1]; exact hs2
      refine h.h.keep y3.len hW hdd (fun i hi _ => ?_)
      cases hs2 : spD (appK k ((2 + 2 * R : Nat) : Int) ((N - (2 + 2 * R) : Nat) : Int) sp.epoch a s).fuse (appK k ((2 + 2 * R : Nat) : Int) ((N - (2 + 2 * R) : Nat) : Int) sp.epoch a s).dead with
      | true => rw [(sync_dead hs2).2] at y1; exact absurd y1 (by decide)
      | false =>
        rw [(sync_live hs2).1]
        show (applyW (appK k ((2 + 2 * R : Nat) : Int) ((N - (2 + 2 * R) : Nat) : Int) sp.epoch a s).L (appK k ((2 + 2 * R : Nat) : Int) ((N - (2 + 2 * R) : Nat) : Int) sp.epoch a s).W).getD i [] = _
        rw [applyW_other _ _ (fun x hx => by
          obtain ⟨t, p, _, _, q3⟩ := x4.wat x hx
          rw [q3]; simp only; omega)]
        exact hLk i hi
    · refine .inr ⟨y1, fun ks => ?_⟩
      have hL2 : ∀ i, i < 2 + 2 * R → (appK k ((2 + 2 * R : Nat) : Int) ((N - (2 + 2 * R) : Nat) : Int) sp.epoch a s).sync.L.getD i [] = k.L.getD i [] := fun i hi => by
        cases hs2 : spD (appK k ((2 + 2 * R : Nat) : Int) ((N - (2 + 2 * R) : Nat) : Int) sp.epoch a s).fuse (appK k ((2 + 2 * R : Nat) : Int) ((N - (2 + 2 * R) : Nat) : Int) sp.epoch a s).dead with
        | true => rw [(sync_dead hs2).1]; exact hLk i hi
        | false => rw [(sync_live hs2).2] at y1; exact absurd y1 (by decide)
      exact done_ y2 hL2 (by simp) (Nat.le_refl _) ks
  · obtain ⟨g1, g2⟩ := add_1 (k := k) (f := ((2 + 2 * R : Nat) : Int)) (b := ((N - (2 + 2 * R) : Nat) : Int)) (e := sp.epoch) (a := a) (s := s) (by rw [x1]; decide)
    rw [g1, g2]
    exact .inr ⟨x1, fun ks => done_ x3 hLk (by simp) (Nat.le_refl _) ks⟩
-- a disk whose power stays
theorem store_lively {k : Dk} {t : Sp} (h : Lively k) (hm : MayS t) (hl : 2 ≤ k.L.length) : storeE k t = 0 ∧ Lively (storeK k t) := by
  obtain ⟨w1, w2, w3, w4⟩ := write_lively h (a := (t.seq : Int) % 2) (s := encS t) (by omega) (encS_len hm)
  obtain ⟨s1, s2, s3, s4⟩ := sync_lively w4
  obtain ⟨g1, g2⟩ := store_y (k := k) hm w1
  rw [g1, g2]; exact ⟨s1, s4⟩
theorem jput_lively {k : Dk} {t : Sp} {f R : Nat} {s : List UInt8} (h : Lively k) (hm : MayS t) (hR : manyS s.length ≤ R) (h1 : 1 ≤ R) (hf : f + R ≤ k.L.length) (h2 : 2 ≤ k.L.length) : jputE k (f : Int) R t s = 0 ∧ Lively (jputK k (f : Int) R t s) := by
  have hb := hm.2.1
  have hr : regE k.L.length (f : Int) (R : Int) t.base = 0 := regE_ok.2 (by omega)
  obtain ⟨e1, e2⟩ := put_yes (k := k) (s := s) hr (by omega)
  have hbl := blksS_len t.base s
  obtain ⟨g1, g2, g3, g4⟩ := wrs_lively (blksS t.base s) k (f : Int) h (blksS_64 s (by omega)) (by omega) (by rw [hbl]; omega)
  rw [← e1] at g2 g3 g4
  rw [← e2] at g1
  obtain ⟨s1, s2, s3, s4⟩ := sync_lively g4
  obtain ⟨j1, j2⟩ := jput_3 (k := k) (f := (f : Int)) (b := (R : Int)) (t := t) (s := s) g1 s1
  rw [j1, j2]
  exact store_lively s4 hm (by rw [sync_len, g2]; exact h2)
theorem add_lively {k : Dk} {f b : Int} {e a : Nat} {s : List UInt8} (h : Lively k) (he : 0 < e) (hf0 : 0 ≤ f) (hfit : fitsL (b - (a : Int)) s) (hn : f + b ≤ (k.L.length : Int)) : addE k f b e a s = 0 ∧ Lively (addK k f b e a s) := by
  obtain ⟨e1, e2⟩ := app_yes (k := k) (f := f) (e := e) (lgE_0.2 hfit)
  have hbl : (lblks e a (piecesF s)).length = manyN s.length := by rw [lblks_len, piecesF_len]
  have hf2 := hfit.2
  obtain ⟨g1, g2, g3, g4⟩ := wrs_lively (lblks e a (piecesF s)) k (f + (a : Int)) h (lblks_64 he (piecesF_48 s) a) (by omega) (by rw [hbl]; omega)
  rw [← e1] at g2 g3 g4
  rw [← e2] at g1
  obtain ⟨s1, s2, s3, s4⟩ := sync_lively g4
  obtain ⟨j1, j2⟩ := add_2 (k := k) (f := f) (b := b) (e := e) (a := a) (s := s) g1
  rw [j1, j2]; exact ⟨s1, s4⟩
theorem fuse_lively {k : Dk} (h : k.dead = false) : Lively (k.setFuse (-1)) := ⟨h, by show (if k.dead then _ else _) = _; rw [h]; rfl⟩
def firstS (n : Nat) : Sp := ⟨1, 1, 1, 0, (n : Int)⟩
theorem first_may {n : Nat} (hn : n ≤ 1000000) : MayS (firstS n) := ⟨Nat.le_refl 1, Nat.le_refl 1, Nat.le_refl 1, .inl rfl, by show (0 : Int) ≤ (n : Int); omega, by show (n : Int) ≤ _; omega⟩
theorem first_ok {n : Nat} (hn : n ≤ 1000000) : SpOk (firstS n) := ⟨by show 1 < _; omega, by show 1 < _; omega, by show 1 < _; omega, by show _ ≤ (0 : Int); omega, by show (0 : Int) ≤ _; omega, by show _ ≤ (n : Int); omega, by show (n : Int) ≤ _; omega⟩
theorem new_get {n i : Nat} (hi : i < n) : (newD n).L.getD i [] = List.replicate 64 0 := by
  show (List.replicate n (List.replicate 64 (0 : UInt8))).getD i [] = _
  rw [List.getD_eq_getElem?_getD, List.getElem?_replicate, if_pos hi]; rfl
/-- Behind a Format. -/
theorem jformat {N R : Nat} {s : List UInt8} (h1 : 1 ≤ R) (hN : 2 + 2 * R < N) (h60 : N ≤ 60) (hs : s.length ≤ 1000000) (hm : manyS s.length ≤ R) :
    jputE (newD N) 2 R (firstS s.length) s = 0 ∧ Lively (jputK (newD N) 2 R (firstS s.length) s) ∧ JD N R (jputK (newD N) 2 R (firstS s.length) s) (firstS s.length) s [] := by
  have hn : (newD N).L.length = N := by simp [newD]
  obtain ⟨j1, j2⟩ := jput_lively (k := newD N) (t := firstS s.length) (f := 2) (R := R) (s := s) (newD_lively N) (first_may hs) hm h1 (by rw [hn]; omega) (by rw [hn]; omega)
  have j1 : jputE (newD N) 2 R (firstS s.length) s = 0 := j1
  refine ⟨j1, j2, ?_⟩
  have hp := puts_fall (k := newD N) (f := 2) (e := 1) (R := R) (s := s) rfl rfl (by omega) hm h1 (by rw [hn]; omega)
  have hz : ((2 : Nat) : Int) = 2 := rfl
  rw [hz] at hp
  rcases hp with ⟨p1, ⟨q1, q2, q3, q4, q5, q6⟩ | ⟨q1, q2⟩⟩ | ⟨p1, p2⟩
  · obtain ⟨g1, g2⟩ := jput_3 (k := newD N) (f := 2) (b := (R : Int)) (t := firstS s.length) (s := s) p1 q1
    rw [show (firstS s.length).base = 1 from rfl] at g1 g2
    rw [hn] at q4 q5
    have hb : SupL ((putK (newD N) 2 R 1 s).sync.L.getD ((firstS s.length).seq % 2) []) 0 := by
      rw [q5 _ (by show 1 % 2 < N; omega) (by show 1 % 2 < 2 ∨ _; omega), new_get (by show 1 % 2 < N; omega)]
      exact supl_zero
    rcases store_fall (k := (putK (newD N) 2 R 1 s).sync) (t := firstS s.length) q2 (first_may hs) (by show 1 < 256; omega) (by rw [q4]; omega) (r := 0) hb with ⟨e1, e2, e3, e4⟩ | ⟨e1, _⟩
    · rw [g1]
      have e2 : (storeK (putK (newD N) 2 R 1 s).sync (firstS s.length)).L = (putK (newD N) 2 R 1 s).sync.L.set 1 (encS (firstS s.length)) := e2
      have hget : ∀ i, i < N → i ≠ 1 → (storeK (putK (newD N) 2 R 1 s).sync (firstS s.length)).L.getD i [] = (putK (newD N) 2 R 1 s).sync.L.getD i [] := fun i hi h => by rw [e2, set_other (by rw [q4]; exact hi) h]
      have hrg : ∀ i, i < N - (2 + 2 * R) → (reg (2 + 2 * R) (N - (2 + 2 * R)) (storeK (putK (newD N) 2 R 1 s).sync (firstS s.length)).L).getD i [] = List.replicate 64 0 := fun i hi => by
        rw [reg_get _ hi, hget _ (by omega) (by omega), q5 _ (by omega) (by omega), new_get (by omega)]
      refine ⟨⟨by rw [e2, List.length_set]; exact q4, e3, e4, h1, hN, h60, first_ok hs, first_may hs, by show 1 < 250; omega, rfl, ?_, ⟨0, ?_, by show 0 < 1; omega⟩, rfl, hm, fun i hi => ?_⟩, fun i hi => ?_, ?_⟩
      · show (storeK _ _).L.getD 1 [] = _
        rw [e2, set_getD (by rw [q4]; omega), if_pos rfl]
      · show SupL ((storeK _ _).L.getD 0 []) 0
        rw [hget 0 (by omega) (by omega), q5 0 (by omega) (by omega), new_get (by omega)]
        exact supl_zero
      · show (storeK _ _).L.getD (2 + 0 * R + i) [] = _
        rw [Nat.zero_mul, Nat.add_zero, hget _ (by omega) (by omega)]
        exact q6 i hi
      · rw [hrg i hi]; exact low_zero _
      · refine rp_no (fun x => ?_)
        have hx := x.1
        have hlt := pOk_lt hx
        rw [reg_len (by rw [e2, List.length_set, q4]; omega)] at hlt
        have := (pOk_iff.1 hx).1
        rw [hrg 0 hlt] at this
        rw [zero_not] at this; cases this
    · rw [g2] at j1
      rw [j1] at e1; exact absurd e1 (by decide)
  · obtain ⟨g1, g2⟩ := jput_2 (k := newD N) (f := 2) (b := (R : Int)) (t := firstS s.length) (s := s) p1 (by show ¬ (putK (newD N) 2 R 1 s).syncE = 0; rw [q1]; decide)
    rw [g2] at j1
    have j1 : (putK (newD N) 2 R 1 s).syncE = 0 := j1
    rw [q1] at j1; exact absurd j1 (by decide)
  · obtain ⟨g1, g2⟩ := jput_1 (k := newD N) (f := 2) (b := (R : Int)) (t := firstS s.length) (s := s) (by show ¬ putE (newD N) 2 R 1 s = 0; rw [p1]; decide)
    rw [g2] at j1
    have j1 : putE (newD N) 2 R 1 s = 0 := j1
    rw [p1] at j1; exact absurd j1 (by decide)

end
end Go.Proofs.YtbblkgdejgoncaaGreatDoor

/- A range over a function: the loop's record, its rounds, the mark that it leaves. No program in sight. -/
set_option linter.unusedSimpArgs false
set_option linter.unusedVariables false
namespace Go.Proofs.YtbblkgdejgoncaaGreatDoor
open Go Go.RowKit

theorem Mem.putObj {w0 w : World} {A l1 l2 : List (Option Nat × Obj)} {S : List Nat} {r : Nat} {o : Obj} (h : Mem w0 A S (l1 ++ (some r, o) :: l2) w) (o' : Obj) : Mem w0 A S (l1 ++ (some r, o') :: l2) (w.putObj r o') :=
  h.put rfl rfl rfl rfl (by simp) (World.putObj_heap_same (h.has.lt (List.mem_append_right A (by simp : (some r, o) ∈ l1 ++ (some r, o) :: l2)))) (fun k hk => World.putObj_heap_other hk)

/-- A ROUND's CONTRACT: begun where these blocks lie, it hands a value back to whoever called yield. -/
def Rd (P : Program) (l : Nat) (f : FuncId) (tmps : Array Value) (assign body : Code) (A L : List (Option Nat × Obj)) (R : Value → List (Option Nat × Obj) → Prop) : Prop :=
  ∀ w0, Has w0 A L → ∀ (cl : Frame) cs, ∃ v post w', R v post ∧ Mem w0 [] (hkeys L) post w' ∧ Steps P (lone (Frame.round l f tmps assign body .normal) (cl :: cs) w0) (lone (cl.finish v) cs w')

def GoesR (c : Cx) (l : Nat) (todo : List Item) (a : Act) (w : World) : Prop :=
  ∀ (b : Frame), b.fn = c.f → b.kind = .normal → b.roundOf = some l → ∀ (cl : Frame) cs, ∃ v post w', c.R v post ∧ Mem c.w0 [] c.S post w' ∧ Steps c.P (lone (b.atR a todo) (cl :: cs) w) (lone (cl.finish v) cs w')
def GR (c : Cx) (l n : Nat) (env : List (Nat × Value)) (L : List (Option Nat × Obj)) (todo : List Item) : Prop :=
  ∀ a w, Knows c.ds n env a → Mem c.w0 c.A c.S L w → GoesR c l todo a w

section
variable {c : Cx} {l n : Nat} {env : List (Nat × Value)} {L : List (Option Nat × Obj)} {k : List Item}
theorem goesR_of {todo todo' : List Item} {a a' : Act} {w w' : World} (hs : ∀ (b : Frame) cs, step c.P (lone (b.atR a todo) cs w) = .next (lone (b.atR a' todo') cs w')) (h : GoesR c l todo' a' w') : GoesR c l todo a w :=
  fun b hb hk hr cl cs => let ⟨v, p, w2, hR, hm, hst⟩ := h b hb hk hr cl cs; ⟨v, p, w2, hR, hm, .head (hs b (cl :: cs)) hst⟩
theorem GR_skip (h : GR c l n env L k) : GR c l n env L (.code .skip :: k) := fun a w hk hm => goesR_of (fun _ _ => stepR_skip) (h a w hk hm)
theorem GR_label {t : Nat} (h : GR c l n env L k) : GR c l n env L (.code (.label t) :: k) := fun a w hk hm => goesR_of (fun _ _ => stepR_label) (h a w hk hm)
theorem GR_inBlock {id : Nat} (h : GR c l n env L k) : GR c l n env L (.inBlock id :: k) := fun a w hk hm => goesR_of (fun _ _ => stepR_inBlock) (h a w hk hm)
theorem GR_seq {x y : Code} (h : GR c l n env L (.code x :: .code y :: k)) : GR c l n env L (.code (.seq x y) :: k) := fun a w hk hm => goesR_of (fun _ _ => stepR_seq) (h a w hk hm)
theorem GR_block {id : Nat} {x : Code} (h : GR c l n env L (.code x :: .inBlock id :: k)) : GR c l n env L (.code (.block id x) :: k) := fun a w hk hm => goesR_of (fun _ _ => stepR_block) (h a w hk hm)
theorem GR_exit {id : Nat} {k' : List Item} (he : exitTo id k = some k') (h : GR c l n env L k') : GR c l n env L (.code (.exit id) :: k) := fun a w hk hm => goesR_of (fun _ _ => stepR_exit he) (h a w hk hm)
theorem GR_region {id : Nat} {ops : Array Oper} {r : List Nat} (hl : List.range ops.size = r) (h : GR c l n env L (.inRegion ops r :: k)) : GR c l n env L (.code (.region id ops false) :: k) :=
  fun a w hk hm => goesR_of (fun _ _ => stepR_region) (by rw [hl]; exact h a w hk hm)
theorem GR_done {ops : Array Oper} (h : GR c l n env L k) : GR c l n env L (.inRegion ops [] :: k) := fun a w hk hm => goesR_of (fun _ _ => stepR_region_end) (h a w hk hm)
theorem GR_begin {r : Loop} {l1 l2 L' : List (Option Nat × Obj)} (hL : L = l1 ++ (some l, .loop r) :: l2) (hr : r.state = .ready) (hL' : l1 ++ (some l, .loop { r with state := .busy }) :: l2 = L') (h : GR c l n env L' k) : GR c l n env L (.beginRound :: k) := by
  intro a w hk hm b hb hkind hro cl cs
  subst hL hL'
  have hl : w.heap[l]? = some (.loop r) := hm.lies (by simp)
  obtain ⟨v, p, w2, hR, hm2, hst⟩ := h a _ hk (hm.putObj (.loop { r with state := .busy })) b hb hkind hro cl cs
  exact ⟨v, p, w2, hR, hm2, .head (stepR_beginRound hro (run_beginRound hl hr)) hst⟩
/-- A round that falls off its end. -/
theorem GR_end {r : Loop} {l1 l2 L' post M : List (Option Nat × Obj)} (hL : L = l1 ++ (some l, .loop r) :: l2) (hL' : l1 ++ (some l, .loop { r with state := .ready, pending := none }) :: l2 = L') (is : List Nat) (ht : tk is L' = some (post, M)) (hR : c.R (.bool true) post) : GR c l n env L [] := by
  intro a w hk hm b hb hkind hro cl cs
  subst hL hL'
  have hl : w.heap[l]? = some (.loop r) := hm.lies (by simp)
  have h1 := hm.putObj (.loop { r with state := .ready, pending := none })
  exact ⟨.bool true, post, _, hR, (h1.sub (tk_perm ht)).dropA, .one (stepR_round_end hro hkind (run_endRound none hl))⟩

theorem goesR_op {ops : Array Oper} {i : Nat} {rest : List Nat} {o : Oper} {a : Act} {w : World} (ho : ops[i]? = some o) (hnd : ∀ x, o.op ≠ .defer x) (hw : Region.wanted o (yielded ops a.tmps) = true)
    (h : o.upon c.P a (fun a' w' => GoesR c l (.inRegion ops rest :: k) a' w') (fun _ _ _ => False) ((execOp a.eval o).run c.P w)) : GoesR c l (.inRegion ops (i :: rest) :: k) a w := by
  intro b hb hkind hro cl cs
  have hg := stepGR_op (P := c.P) (b := b) (k := k) (cs := cl :: cs) (w := w) (rest := rest) ho hw
  rw [Oper.semAt_eq _ _ _ hnd] at hg
  have hfin : ∀ v, (b.atR a (.inRegion ops (i :: rest) :: k)).finish v = b.atR (a.put o.dst v) (.inRegion ops rest :: k) := by
    intro v; rw [Frame.finish_atR, ho]; rfl
  unfold Oper.upon at h
  split at h
  · rename_i v w' hr
    obtain ⟨v', p, w2, hR, hm, hst⟩ := h b hb hkind hro cl cs
    refine ⟨v', p, w2, hR, hm, .head (step_lone_go ?_) hst⟩
    rw [hg, ← hfin]; simp [stepG.apply, hr]
  · rename_i w' hr
    obtain ⟨v', p, w2, hR, hm, hst⟩ := h b hb hkind hro cl cs
    refine ⟨v', p, w2, hR, hm, .head (step_lone_go ?_) hst⟩
    rw [hg, ← hfin]; simp [stepG.apply, hr]
  · rename_i d w' hr
    obtain ⟨v', p, w2, hR, hm, hst⟩ := h b hb hkind hro cl cs
    refine ⟨v', p, w2, hR, hm, .head (step_lone_go ?_) hst⟩
    have : ({ b.atR a (.inRegion ops (i :: rest) :: k) with defers := d :: a.defers } : Frame).finish undef =
        b.atR ({ a with defers := d :: a.defers }.put o.dst undef) (.inRegion ops rest :: k) := by
      have := Frame.finish_atR b { a with defers := d :: a.defers } ops i rest k undef
      rw [ho] at this; exact this
    rw [hg]; simp only [stepG.apply, Sem.runT_eq, hr, GStep.bare_after]
    exact congrArg (fun fr => GStep.go { frame := fr, callers := cl :: cs, status := .running, dying := none } w') this
  · rename_i f args w' hr
    obtain ⟨e, w'', fr, hR, hsteps, _, hleave⟩ := h (b.atR a (.inRegion ops (i :: rest) :: k) :: cl :: cs)
    have henter : step c.P (lone (b.atR a (.inRegion ops (i :: rest) :: k)) (cl :: cs) w) =
        .next (lone (Frame.enter c.P f args .normal) (b.atR a (.inRegion ops (i :: rest) :: k) :: cl :: cs) w') :=
      step_lone_go (by rw [hg]; simp [stepG.apply, hr, Frame.atR])
    cases e with
    | returned v =>
      obtain ⟨v', p, w2, hR', hm, hst⟩ := hR b hb hkind hro cl cs
      refine ⟨v', p, w2, hR', hm, .head henter (hsteps.trans (.head ?_ hst))⟩
      rw [← hfin]; exact step_leave_returned hleave
    | panicked chain => exact hR.elim
    | outgrown => obtain ⟨_, _, hR⟩ := hR; exact hR.elim
  · rename_i row args w' hr
    obtain ⟨v, w'', hR, hsteps⟩ := h (b.atR a (.inRegion ops (i :: rest) :: k)) (cl :: cs)
    have henter : step c.P (lone (b.atR a (.inRegion ops (i :: rest) :: k)) (cl :: cs) w) =
        .next (lone (Frame.ofRow c.P row args .normal) (b.atR a (.inRegion ops (i :: rest) :: k) :: cl :: cs) w') :=
      step_lone_go (by rw [hg]; simp [stepG.apply, hr, Frame.atR])
    obtain ⟨v', p, w2, hR', hm, hst⟩ := hR b hb hkind hro cl cs
    refine ⟨v', p, w2, hR', hm, .head henter (hsteps.trans ?_)⟩
    rw [hfin]; exact hst
  · exact h.elim
  · exact h.elim
theorem GR_val {ops : Array Oper} {i : Nat} {rest : List Nat} {o : Oper} {d : Nat} {v : Value} (ho : ops[i]? = some o) (hd : o.dst = some d) (hn : Nat.blt d n = true) (hg : fguard ops env o = some true) (hnd : ∀ x, o.op ≠ .defer x)
    (hv : Val c n env L o v) (h : GR c l n ((d, v) :: env) L (.inRegion ops rest :: k)) : GR c l n env L (.inRegion ops (i :: rest) :: k) := by
  intro a w hk hm
  refine goesR_op ho hnd (wanted_of hk hg) ?_
  rw [hv a w hk hm, Oper.upon_value, hd]
  exact h _ w (hk.put hn v) hm
theorem GR_new {ops : Array Oper} {i : Nat} {rest : List Nat} {o : Oper} {d : Nat} {mk : Nat → Value} {ob : Obj} (ho : ops[i]? = some o) (hd : o.dst = some d) (hn : Nat.blt d n = true) (hg : fguard ops env o = some true) (hnd : ∀ x, o.op ≠ .defer x)
    (hv : New c n env L o mk ob) (h : ∀ b, GR c l n ((d, mk b) :: env) ((some b, ob) :: L) (.inRegion ops rest :: k)) : GR c l n env L (.inRegion ops (i :: rest) :: k) := by
  intro a w hk hm
  refine goesR_op ho hnd (wanted_of hk hg) ?_
  rw [hv a w hk hm, Oper.upon_value, hd]
  exact h w.heap.size _ _ (hk.put hn _) (hm.alloc ob)
theorem GR_put {ops : Array Oper} {i : Nat} {rest : List Nat} {o : Oper} {b : Nat} {old ob : Obj} {l1 l2 L' : List (Option Nat × Obj)} (ho : ops[i]? = some o) (hd : o.dst = none) (hg : fguard ops env o = some true) (hnd : ∀ x, o.op ≠ .defer x)
    (hL : L = l1 ++ (some b, old) :: l2) (hv : Put c n env L o b ob) (hL' : l1 ++ (some b, ob) :: l2 = L') (h : GR c l n env L' (.inRegion ops rest :: k)) : GR c l n env L (.inRegion ops (i :: rest) :: k) := by
  intro a w hk hm
  obtain ⟨w', hr, h1, h2, h3, h4, h5, h6⟩ := hv a w hk hm
  refine goesR_op ho hnd (wanted_of hk hg) ?_
  rw [hr, Oper.upon_skip, hd]
  subst hL'
  exact h _ w' (hk.putNone undef) (hm.put hL h1 h2 h3 h4 h5 h6)
theorem GR_append {ops : Array Oper} {i : Nat} {rest : List Nat} {o : Oper} {d m nn sz bt : Nat} {x y : Operand} {t u e ty : TypeId} {ds : TypeDesc} {ps : String} {es : Array Edge} {gd : Option (Nat × Bool)} {ti : TypeInfo} {z xv : Value} {s : Sl} {xs news : List Value} {l1 l2 : List (Option Nat × Obj)}
    (ho : ops[i]? = some o) (hop : o = ⟨some d, .call ⟨.builtin .append, #[x, y], #[t, u]⟩, ty, ps, es, gd⟩) (hn : Nat.blt d n = true) (hg : fguard ops env o = some true)
    (ht : c.P.underlying t = some (.slice e)) (hu : c.P.underlying u = some ds) (hds : ds = .string ∨ ∃ e', ds = .slice e') (hi : c.P.info? e = some ti) (hz : ti.zero = some z) (hsz : ti.size = sz) (hzs : z.cells.size = sz) (hbt : ti.bytes = bt)
    (hx : fev env x = some (s.v nn)) (hy : fev env y = some xv) (hown : Own sz s xs nn) (hL : L = l1 ++ (s.ob, .cells s.cs e s.fz) :: l2) (hS : ∀ w, Has w c.A L → Src c.P w sz xv m news)
    (h63 : nn + m ≤ 9223372036854775807) (hbytes : (nn + m) * bt ≤ 140737488355328)
    (h : ∀ s' : Sl, Own sz s' (xs ++ news) (nn + m) → More s s' → GR c l n ((d, s'.v (nn + m)) :: env) (l1 ++ (s'.ob, .cells s'.cs e s'.fz) :: l2) (.inRegion ops rest :: k)) : GR c l n env L (.inRegion ops (i :: rest) :: k) := by
  intro a w hk hm
  subst hop
  refine goesR_op ho (fun _ h => by cases h) (wanted_of hk hg) ?_
  obtain ⟨s', w', hr, h1, h2, h3, h4, h5⟩ := run_append_any (P := c.P) w t u ty e ds ti z sz ht hu hds hi hz hsz hzs s xs nn hown (fun b hb => hm.lies (by rw [hL, ← hb]; simp)) xv m news (hS w hm.has) h63 (by rw [hbt]; exact hbytes)
  have hrun : (execOp a.eval ⟨some d, .call ⟨.builtin .append, #[x, y], #[t, u]⟩, ty, ps, es, gd⟩).run c.P w = .ok (.value (s'.v (nn + m))) w' := by
    unfold execOp
    simp only [resolve, invoke, builtin, Sem.run_bind, Sem.run_pure, Result.andThen_ok, List.map_toArray, List.map_cons, List.map_nil, hk.eval hx, hk.eval hy, hr]
  rw [hrun, Oper.upon_value]
  subst hL
  exact h s' h1 h5 _ w' (hk.put hn _) (hm.grown h2 h3 h4)
theorem zip_one (t : Tmp) (v : Value) (T : Array Value) : ((#[t] : Array Tmp).zip #[v]).foldl (fun tmps (t, a) => tmps.setIfInBounds t a) T = T.setIfInBounds t v := by simp
/-- A round's contract, out of its walk. -/
theorem rd_of {P : Program} {f : FuncId} {tmps : Array Value} {assign body : Code} {A L : List (Option Nat × Obj)} {R : Value → List (Option Nat × Obj) → Prop} (hk : Knows [] n env ⟨tmps, []⟩)
    (h : ∀ w0, GR ⟨P, f, w0, A, hkeys L, R, []⟩ l n env L [.code assign, .beginRound, .code body]) : Rd P l f tmps assign body A L R := by
  intro w0 hw cl cs
  let b : Frame := { (default : Frame) with fn := f, kind := .normal, roundOf := some l }
  have hb0 : Frame.round l f tmps assign body .normal = b.atR { tmps := tmps, defers := [] } [.code assign, .beginRound, .code body] := by
    simp [Frame.round, Frame.atR, b]
  obtain ⟨v, post, w', hR, hm, hst⟩ := h w0 ⟨tmps, []⟩ w0 hk ⟨hw, fun b o hm => .inl (mem_hkeys.2 ⟨o, hm⟩), Chg.refl _ _⟩ b rfl rfl rfl cl cs
  rw [hb0]
  exact ⟨v, post, w', hR, hm, hst⟩

/-- A call of yield. -/
theorem G_yield {ops : Array Oper} {i : Nat} {rest : List Nat} {o : Oper} {d : Nat} {x : Operand} {xs : Array Operand} {ts : Array TypeId} {args : List Value} {r : Loop} {A' L' L2 : List (Option Nat × Obj)} {R' : Value → List (Option Nat × Obj) → Prop}
    (ho : ops[i]? = some o) (hd : o.dst = some d) (hn : Nat.blt d n = true) (hg : fguard ops env o = some true) (hop : o.op = .call ⟨.value x, xs, ts⟩) (hxs : fevs env xs.toList = some args)
    (hfn : fev env x = some (.func (.yield l) #[] #[])) (hl : (some l, .loop r) ∈ c.A ++ L) (hps : args.toArray.size = r.params.size)
    (hrd : Rd c.P l r.fn ((r.params.zip args.toArray).foldl (fun tmps (t, a) => tmps.setIfInBounds t a) r.tmps) r.assign r.body A' L' R') (is js : List Nat) (hL : tk is L = some (L', L2)) (hA : pk js (c.A ++ L2) = some A')
    (K : ∀ v post, R' v post → G c n ((d, v) :: env) (post ++ L2) (.inRegion ops rest :: k)) : G c n env L (.inRegion ops (i :: rest) :: k) := by
  intro a w hk hm b hb hkind cs
  have hgs := stepG_op (P := c.P) (b := b) (k := k) (cs := cs) (w := w) (rest := rest) ho (wanted_of hk hg)
  have hfin : ∀ v, (b.at a (.inRegion ops (i :: rest) :: k)).finish v = b.at (a.put o.dst v) (.inRegion ops rest :: k) := by
    intro v; rw [Frame.finish_at, ho]; rfl
  have hx : xs.map a.eval = args.toArray := by
    apply Array.toList_inj.1
    simpa using hk.evals hxs
  have hy := run_yield (P := c.P) (hm.has.both hl) hps
  have hr : (execOp a.eval o).run c.P w = .ok (.round l r.fn ((r.params.zip args.toArray).foldl (fun tmps (t, a) => tmps.setIfInBounds t a) r.tmps) r.assign r.body) w := by
    unfold execOp
    have hf := hk.eval hfn
    simp [hop, resolve, hf, Deferred.ofValue, hx, invoke, hy]
  obtain ⟨v, post, w', hR, hp, hst⟩ := hrd w (hm.has_call hL hA) (b.at a (.inRegion ops (i :: rest) :: k)) cs
  have hstep : step c.P (lone (b.at a (.inRegion ops (i :: rest) :: k)) cs w) = .next (lone (Frame.round l r.fn ((r.params.zip args.toArray).foldl (fun tmps (t, a) => tmps.setIfInBounds t a) r.tmps) r.assign r.body .normal) (b.at a (.inRegion ops (i :: rest) :: k) :: cs) w) :=
    step_lone_go (by rw [hgs]; simp [stepG.apply, hr, Frame.at])
  rw [hfin, hd] at hst
  obtain ⟨v', p, w2, fr, hR', hm', hst', e⟩ := K v post hR _ w' (hk.put hn v) (hm.call hL hA hp) b hb hkind cs
  exact ⟨v', p, w2, fr, hR', hm', .head hstep (hst.trans hst'), e⟩

theorem Mem.callP {w0 w w' : World} {A L L' L2 post : List (Option Nat × Obj)} {S : List Nat} (h : Mem w0 A S L w) (p1 : L.Perm (L' ++ L2))
    (hp : Mem w [] (hkeys L') post w') : Mem w0 A S (post ++ L2) w' := by
  have h' : Mem w0 A S (L' ++ L2) w := ⟨h.has.perm p1, fun b o hm => h.own b o (p1.mem_iff.2 hm), h.chg⟩
  have ht : tk (List.replicate L'.length 0) (L' ++ L2) = some (L', L2) := by
    clear h h' p1 hp
    induction L' with
    | nil => rfl
    | cons x L' ih => simp [List.replicate_succ, tk, ih]
  exact h'.call ht (js := []) (A' := []) rfl hp
theorem Mem.has_callP {w0 w : World} {A L A' L' L2 : List (Option Nat × Obj)} {S : List Nat} (h : Mem w0 A S L w) (p1 : L.Perm (L' ++ L2)) (hmem : ∀ x ∈ A', x ∈ A ++ L2) : Has w A' L' := by
  have hb : Has w A (L' ++ L2) := h.has.perm p1
  have pw2 := List.pairwise_append.1 hb.apart
  refine ⟨fun b o hm => ?_, pw2.1, fun b o hm => hb.lies b o (List.mem_append_left _ hm), fun x hx y hy => ?_⟩
  · rcases List.mem_append.1 (hmem _ hm) with hm | hm
    · exact hb.liesA b o hm
    · exact hb.lies b o (List.mem_append_right _ hm)
  · rcases List.mem_append.1 (hmem _ hx) with hx | hx
    · exact hb.cross x hx y (List.mem_append_left _ hy)
    · exact (pw2.2.2 y hy x hx).symm

/-- The record of a loop that begins. -/
def loop0 (f : FuncId) (T : Array Value) (ps : Array Tmp) (assign body : Code) (D : Nat) : Loop := { state := .ready, pending := none, fn := f, tmps := T, params := ps, assign, body, defers := D }
def markD (D : Nat) : List Deferred := [{ target := .collected D, args := #[] }]
def Cx.marked (c : Cx) (D : Nat) : Cx := { c with ds := markD D }
/-- THE STATEMENT: the iterator's contract, at this loop's record; behind it the frame bears the mark. -/
theorem G_rangeFunc {g : Operand} {ps : Array Tmp} {assign body : Code} {gf : FuncId} {vs : List Value} {A' L' L2 : List (Option Nat × Obj)} {R' : Nat → Nat → Array Value → Value → List (Option Nat × Obj) → Prop}
    (hds : c.ds = []) (hfn : fev env g = some (.func (.func gf) #[] vs.toArray)) (hcf : ∀ (az : Array Value) w, (callFunc gf az).run c.P w = .ok (.enter gf az) w)
    (hct : ∀ l D T, Knows [] n env ⟨T, []⟩ → Ct c.P gf (.func (.yield l) #[] #[] :: vs) A' ((some l, .loop (loop0 c.f T ps assign body D)) :: L') (R' l D T)) (is js : List Nat) (hL : tk is L = some (L', L2)) (hA : pk js (c.A ++ L2) = some A')
    (K : ∀ l D T v post, R' l D T v post → ∃ r post', post = (some l, .loop r) :: post' ∧ r.state ≠ .busy ∧ r.pending = none ∧ G (c.marked D) n env ((some D, .deferred (some [])) :: (post' ++ L2)) k) : G c n env L (.code (.rangeFunc g ps assign body) :: k) := by
  intro a w hk hm b hb hkind cs
  have hdf : a.defers = [] := hk.defers.trans hds
  let b' : Frame := { b with roundOf := none }
  have hat : ∀ (a : Act) todo, b'.atR a todo = b.at a todo := fun _ _ => rfl
  have he := run_enterLoop_outer (P := c.P) (w := w) b'.fn a.tmps ps assign body
  have hev := hk.eval hfn
  let W1 := (w.alloc (.deferred (some []))).alloc (.loop { state := .ready, pending := none, fn := b'.fn, tmps := a.tmps, params := ps, assign, body, defers := w.heap.size })
  have hres : (resolve a.eval (rangeCall g (w.heap.size + 1)) 0).run c.P W1 = .ok { target := .fn (.func gf) vs.toArray, args := #[.func (.yield (w.heap.size + 1)) #[] #[]] } W1 := by
    simp only [resolve, hev]
    simp [go_sem]
  have hinv : (invoke (Target.fn (.func gf) vs.toArray) #[.func (.yield (w.heap.size + 1)) #[] #[]]).run c.P W1 = .ok (.enter gf (Value.func (.yield (w.heap.size + 1)) #[] #[] :: vs).toArray) W1 := by
    simp [invoke, go_sem, hcf]
  have s1 := stepR_rangeFunc (P := c.P) (b := b') (a := a) (k := k) (cs := cs) (w := w) he hres hinv
  have m0 := hm.alloc (.deferred (some []))
  have m1 := m0.alloc (.loop (loop0 c.f a.tmps ps assign body w.heap.size))
  have hfb : b'.fn = c.f := hb
  have hW1 : (w.alloc (.deferred (some []))).alloc (.loop (loop0 c.f a.tmps ps assign body w.heap.size)) = W1 := by show _ = (w.alloc _).alloc (.loop { state := .ready, pending := none, fn := b'.fn, tmps := a.tmps, params := ps, assign, body, defers := w.heap.size }); rw [hfb]; rfl
  rw [hW1, show (w.alloc (.deferred (some []))).heap.size = w.heap.size + 1 by simp] at m1
  have p1 := tk_perm hL
  have p2 : ((some (w.heap.size + 1), Obj.loop (loop0 c.f a.tmps ps assign body w.heap.size)) :: (some w.heap.size, Obj.deferred (some [])) :: L).Perm (((some (w.heap.size + 1), Obj.loop (loop0 c.f a.tmps ps assign body w.heap.size)) :: L') ++ ((some w.heap.size, Obj.deferred (some [])) :: L2)) := by
    rw [List.cons_append]
    refine List.Perm.cons _ ?_
    exact (List.Perm.cons _ p1).trans List.perm_middle.symm
  have hkT : Knows [] n env ⟨a.tmps, []⟩ := ⟨hk.size, rfl, hk.get⟩
  obtain ⟨e, w3, fr, ⟨v, post, rfl, hR, hp⟩, hsteps, hfn', hleave⟩ := hct (w.heap.size + 1) w.heap.size a.tmps hkT W1 (m1.has_callP p2 (fun x hx => by
    rcases List.mem_append.1 (pk_mem hA x hx) with h | h
    · exact List.mem_append_left _ h
    · exact List.mem_append_right _ (List.mem_cons_of_mem _ h))) (b'.atR { a with defers := [{ target := .collected w.heap.size, args := #[] }] ++ a.defers } (.inRangeFunc (w.heap.size + 1) :: k) :: cs)
  have m3 := m1.callP p2 hp
  obtain ⟨r, post', rfl, hbusy, hpend, hG⟩ := K _ _ _ v post hR
  have hl : w3.heap[w.heap.size + 1]? = some (.loop r) := m3.lies (by simp)
  have m4 : Mem c.w0 c.A c.S ([] ++ (some (w.heap.size + 1), Obj.loop { r with state := .exhausted }) :: (post' ++ ((some w.heap.size, Obj.deferred (some [])) :: L2))) (w3.putObj (w.heap.size + 1) (.loop { r with state := .exhausted })) := Mem.putObj (l1 := []) (o := .loop r) m3 _
  have m5 : Mem c.w0 c.A c.S ((some w.heap.size, Obj.deferred (some [])) :: (post' ++ L2)) (w3.putObj (w.heap.size + 1) (.loop { r with state := .exhausted })) := m4.sub (R := [(some (w.heap.size + 1), Obj.loop { r with state := .exhausted })]) (by
    rw [List.nil_append]
    exact (List.Perm.cons _ List.perm_middle).trans (List.perm_append_singleton _ _).symm)
  have hend : (Instr.endLoop (w.heap.size + 1)).run c.P w3 = .ok none (w3.putObj (w.heap.size + 1) (.loop { r with state := .exhausted })) := (run_endLoop (P := c.P) hl hbusy).trans (by rw [hpend])
  obtain ⟨v', p, w2, fr2, hR2, hm2, hst2, e2⟩ := hG { a with defers := [{ target := .collected w.heap.size, args := #[] }] ++ a.defers } _ ⟨hk.size, by rw [hdf]; rfl, hk.get⟩ m5 b hb hkind cs
  refine ⟨v', p, w2, fr2, hR2, hm2, ?_, e2⟩
  have s2 : Steps c.P (lone (b.at a (.code (.rangeFunc g ps assign body) :: k)) cs w) (lone (b.at { a with defers := [{ target := .collected w.heap.size, args := #[] }] ++ a.defers } k) cs (w3.putObj (w.heap.size + 1) (.loop { r with state := .exhausted }))) := by
    have s3 : step c.P (lone (b.at { a with defers := [{ target := .collected w.heap.size, args := #[] }] ++ a.defers } (.endRangeFunc (w.heap.size + 1) :: k)) cs w3) = .next (lone (b.at { a with defers := [{ target := .collected w.heap.size, args := #[] }] ++ a.defers } k) cs (w3.putObj (w.heap.size + 1) (.loop { r with state := .exhausted }))) := by
      have s4 := stepR_endRangeFunc (b := b') (a := { a with defers := [{ target := .collected w.heap.size, args := #[] }] ++ a.defers }) (k := k) (cs := cs) hend
      rw [hat, hat] at s4
      exact s4
    rw [hat, hat] at s1
    refine .head s1 (hsteps.trans (.head ?_ (.one s3)))
    have hf := finish_atR_inRangeFunc (b := b') (a := { a with defers := [{ target := .collected w.heap.size, args := #[] }] ++ a.defers }) (k := k) (w.heap.size + 1) v
    rw [hat, hat] at hf
    rw [← hf]; exact step_leave_returned hleave
  exact s2.trans hst2

/-- A return past the mark. -/
theorem G_retD {D : Nat} {fn : Func} {rs : List ResultVar} {vs : List Value} {l1 l2 L' post M : List (Option Nat × Obj)} (hds : c.ds = markD D) (hL : L = l1 ++ (some D, .deferred (some [])) :: l2) (hL' : l1 ++ (some D, .deferred none) :: l2 = L')
    (hf : c.P.funcs[c.f]? = some fn) (hr : fn.results = rs.toArray)
    (hv : RVs c n env L' rs vs) (is : List Nat) (hl : tk is L' = some (post, M)) (hR : c.R (packed vs) post) : G c n env L (.code .ret :: k) := by
  intro a w hk hm b hb hkind cs
  subst hL hL'
  have hD : w.heap[D]? = some (.deferred (some [])) := hm.lies (by simp)
  have h1 := hm.putObj (.deferred none)
  have h3 := goes_ret (post := post) hr hv hk h1
  have hdf := hk.defers.trans hds
  let fr0 : Frame := { b.at a (.code .ret :: k) with mode := .returning }
  have s1 : step c.P (lone (b.at a (.code .ret :: k)) cs w) = .next (lone fr0 cs w) := step_ret
  have s2 := step_collected (P := c.P) (fr := fr0) (cs := cs) (w := w) (d := { target := .collected D, args := #[] }) (ds := []) (by show FrameMode.returning ≠ .run; simp) hdf rfl (run_takeDeferred hD)
  exact ⟨packed vs, post, _, { fr0 with defers := [] ++ [] }, hR, (h1.sub (tk_perm hl)).dropA, .head s1 (.one s2), hb, rfl, rfl, hkind, fn, by rw [← hf, ← hb]; rfl, h3⟩
end
end Go.Proofs.YtbblkgdejgoncaaGreatDoor

/- The walks of layer 26: a log, what is put behind all, and what reads it. -/
set_option linter.unusedSimpArgs false
set_option linter.unusedVariables false
namespace Go.Proofs.YtbblkgdejgoncaaGreatDoor
open Go Go.RowKit

section
theorem infLogW_3 : Tryz.prog.info? 3 = some Tryz.t3 := by kernel_rfl
theorem infLogW_9 : Tryz.prog.info? 9 = some Tryz.t9 := by kernel_rfl
theorem infLogW_26 : Tryz.prog.info? 26 = some Tryz.t26 := by kernel_rfl
theorem infLogW_50 : Tryz.prog.info? 50 = some Tryz.t50 := by kernel_rfl
theorem infLogW_115 : Tryz.prog.info? 115 = some Tryz.t115 := by kernel_rfl
theorem infLogW_117 : Tryz.prog.info? 117 = some Tryz.t117 := by kernel_rfl
theorem plcLogW_115 : placesOf Tryz.prog (Tryz.prog.fieldsOf 115) = some [(0, 1), (1, 1), (2, 1)] := by kernel_rfl
theorem plcLogW_117 : placesOf Tryz.prog (Tryz.prog.fieldsOf 117) = some [(0, 3), (3, 1), (4, 1)] := by kernel_rfl


def rgC (d : Nat) (f b : Int) : List Value := [.pointer (some ⟨d, 0, none⟩), .int .i64 f, .int .i64 b]
def lgC (d : Nat) (f b : Int) (e a : Nat) : List Value := [.pointer (some ⟨d, 0, none⟩), .int .i64 f, .int .i64 b, .int .u32 (e : Int), .int .i64 (a : Int)]
def rdC (d : Nat) (f b : Int) (base e a : Nat) : List Value := [.pointer (some ⟨d, 0, none⟩), .int .i64 f, .int .i64 b, .int .u32 (base : Int), .int .u32 (e : Int), .int .i64 (a : Int), .int .i64 0]
/-- What is wrong with a region. -/
def rgE (N : Nat) (f b : Int) : Int := if f < 0 ∨ b < 1 ∨ (N : Int) < b ∨ (N : Int) - b < f then 1 else 0
theorem rgE_ok {N : Nat} {f b : Int} : rgE N f b = 0 ↔ 0 ≤ f ∧ 1 ≤ b ∧ f + b ≤ (N : Int) := by
  unfold rgE
  constructor
  · intro h; split at h
    · cases h
    · omega
  · intro h; rw [if_neg (by omega)]
theorem rgE_one {N : Nat} {f b : Int} (h : ¬ rgE N f b = 0) : rgE N f b = 1 := by
  unfold rgE at *; split at h
  · rename_i g; rw [if_pos g]
  · exact absurd rfl h

set_option maxRecDepth 100000 in
set_option maxHeartbeats 1000000 in
theorem lg_ok (d n lb lcap : Nat) (lcs : Array Value) (uw : Sl) (k : Dk) (h : DkAt k n lb lcs lcap uw) (f b : Int) (hf0 : -9223372036854775808 ≤ f) (hf1 : f ≤ 9223372036854775807) (hb0 : -9223372036854775808 ≤ b) (hb1 : b ≤ 9223372036854775807) :
    Ct Tryz.prog 60 [.agg (rgC d f b).toArray] [(some d, .cells #[.slice (some ⟨lb, 0, none⟩) n lcap, uw.v k.W.length, .int .i64 k.fuse, .bool k.dead] 67 (0, 0))] [] fun v post => v = .int .i64 (rgE n f b) ∧ post = [] := by
 have hq := h.bd
 have hq1 := hq.n1
 have hq2 := hq.n4
 have hq3 := hq.ncs
 have hq4 := hq.ncap
 have hq5 := hq.cap
 have hq6 := hq.w
 have hq7 := hq.wc
 have hln := h.len
 refine ct_of Tryz.func60 rfl rfl (fun w0 => ?_)
 show G _ _ [(0, _)] _ _
 refine G_seq ?_
 refine G_region (l := [0, 1]) rfl ?_
 refine G_new rfl rfl rfl rfl (N_boxA rfl rfl) (fun b1 => ?_)
 refine G_val rfl rfl rfl rfl (V_assign rfl rfl) ?_
 refine G_done ?_
 refine G_seq ?_
 refine G_block ?_
 refine G_seq ?_
 refine G_region (l := [0, 1, 2, 3]) rfl ?_
 refine G_val rfl rfl rfl rfl (V_fieldAddr (fo := 0) rfl Tryz.underlying115 rfl infLogW_26 rfl rfl rfl) ?_
 refine G_val rfl rfl rfl rfl (V_load1 rfl rfl (mem_at 1 rfl) rfl Tryz.underlying26 rfl) ?_
 refine G_val rfl rfl rfl rfl (V_peqlN rfl Tryz.underlying26 rfl rfl) ?_
 refine G_val rfl rfl rfl rfl (V_assign rfl rfl) ?_
 refine G_done ?_
 refine G_else rfl ?_
 refine G_seq ?_
 refine G_draw mixedK (by kernel_rfl) ?_
 refine GQ_val rfl rfl rfl rfl (V_fieldAddr (fo := 1) rfl Tryz.underlying115 rfl infLogW_3 rfl rfl rfl) ?_
 refine GQ_val rfl rfl rfl rfl (V_load1 rfl rfl (mem_at 1 rfl) rfl Tryz.underlying3 rfl) ?_
 refine GQ_val rfl rfl rfl rfl (V_lss rfl rfl rfl) ?_
 refine GQ_val rfl rfl rfl rfl (V_move rfl rfl) ?_
 refine GQ_splitD 11 rfl (fun hc1 => ?_) (fun hc1 => ?_)
 ·
  refine GQ_off rfl rfl rfl rfl ?_
  refine GQ_off rfl rfl rfl rfl ?_
  refine GQ_off rfl rfl rfl rfl ?_
  refine GQ_val rfl rfl rfl rfl (V_pickT rfl rfl rfl) ?_
  refine GQ_val rfl rfl rfl rfl (V_move rfl rfl) ?_
  refine GQ_off rfl rfl rfl rfl ?_
  refine GQ_off rfl rfl rfl rfl ?_
  refine GQ_off rfl rfl rfl rfl ?_
  refine GQ_off rfl rfl rfl rfl ?_
  refine GQ_off rfl rfl rfl rfl ?_
  refine GQ_off rfl rfl rfl rfl ?_
  refine GQ_val rfl rfl rfl rfl (V_pickT rfl rfl rfl) ?_
  refine GQ_val rfl rfl rfl rfl (V_move rfl rfl) ?_
  refine GQ_off rfl rfl rfl rfl ?_
  refine GQ_off rfl rfl rfl rfl ?_
  refine GQ_off rfl rfl rfl rfl ?_
  refine GQ_off rfl rfl rfl rfl ?_
  refine GQ_off rfl rfl rfl rfl ?_
  refine GQ_off rfl rfl rfl rfl ?_
  refine GQ_off rfl rfl rfl rfl ?_
  refine GQ_off rfl rfl rfl rfl ?_
  refine GQ_off rfl rfl rfl rfl ?_
  refine GQ_val rfl rfl rfl rfl (V_pickT rfl rfl rfl) ?_
  refine GQ_val rfl rfl rfl rfl (V_assign rfl rfl) ?_
  refine GQ_done rfl ?_
  refine G_then rfl ?_
  refine G_seq ?_
  refine G_region (l := [0]) rfl ?_
  refine G_val rfl rfl rfl rfl (V_assign rfl rfl) ?_
  refine G_done ?_
  refine G_ret (post := []) Tryz.func60 rfl (RVs_cons (RV_tmp rfl) RVs_nil) [] rfl ?_
  dsimp only [packed]
  refine ⟨int_eq ?_, rfl⟩; unfold rgE; first | rw [if_pos (by omega)] | rw [if_neg (by omega)]
 refine GQ_val rfl rfl rfl rfl (V_fieldAddr (fo := 2) rfl Tryz.underlying115 rfl infLogW_3 rfl rfl rfl) ?_
 refine GQ_val rfl rfl rfl rfl (V_load1 rfl rfl (mem_at 1 rfl) rfl Tryz.underlying3 rfl) ?_
 refine GQ_val rfl rfl rfl rfl (V_lss rfl rfl rfl) ?_
 refine GQ_val rfl rfl rfl rfl (V_pickF rfl rfl rfl) ?_
 refine GQ_val rfl rfl rfl rfl (V_move rfl rfl) ?_
 refine GQ_splitD 16 rfl (fun hc2 => ?_) (fun hc2 => ?_)
 ·
  refine GQ_off rfl rfl rfl rfl ?_
  refine GQ_off rfl rfl rfl rfl ?_
  refine GQ_off rfl rfl rfl rfl ?_
  refine GQ_off rfl rfl rfl rfl ?_
  refine GQ_off rfl rfl rfl rfl ?_
  refine GQ_off rfl rfl rfl rfl ?_
  refine GQ_val rfl rfl rfl rfl (V_pickT rfl rfl rfl) ?_
  refine GQ_val rfl rfl rfl rfl (V_move rfl rfl) ?_
  refine GQ_off rfl rfl rfl rfl ?_
  refine GQ_off rfl rfl rfl rfl ?_
  refine GQ_off rfl rfl rfl rfl ?_
  refine GQ_off rfl rfl rfl rfl ?_
  refine GQ_off rfl rfl rfl rfl ?_
  refine GQ_off rfl rfl rfl rfl ?_
  refine GQ_off rfl rfl rfl rfl ?_
  refine GQ_off rfl rfl rfl rfl ?_
  refine GQ_off rfl rfl rfl rfl ?_
  refine GQ_val rfl rfl rfl rfl (V_pickT rfl rfl rfl) ?_
  refine GQ_val rfl rfl rfl rfl (V_assign rfl rfl) ?_
  refine GQ_done rfl ?_
  refine G_then rfl ?_
  refine G_seq ?_
  refine G_region (l := [0]) rfl ?_
  refine G_val rfl rfl rfl rfl (V_assign rfl rfl) ?_
  refine G_done ?_
  refine G_ret (post := []) Tryz.func60 rfl (RVs_cons (RV_tmp rfl) RVs_nil) [] rfl ?_
  dsimp only [packed]
  refine ⟨int_eq ?_, rfl⟩; unfold rgE; first | rw [if_pos (by omega)] | rw [if_neg (by omega)]
 refine GQ_val rfl rfl rfl rfl (V_fieldAddr (fo := 2) rfl Tryz.underlying115 rfl infLogW_3 rfl rfl rfl) ?_
 refine GQ_val rfl rfl rfl rfl (V_load1 rfl rfl (mem_at 1 rfl) rfl Tryz.underlying3 rfl) ?_
 refine GQ_val rfl rfl rfl rfl (V_fieldAddr (fo := 0) rfl Tryz.underlying115 rfl infLogW_26 rfl rfl rfl) ?_
 refine GQ_val rfl rfl rfl rfl (V_load1 rfl rfl (mem_at 1 rfl) rfl Tryz.underlying26 rfl) ?_
 refine GQ_call rfl rfl rfl rfl rfl rfl Tryz.call51 (dk_size _ _ _ _ _ _ _ h) [0] rfl (fun v post hp => (hp : _ ∧ _).1) ?_
 refine GQ_val rfl rfl rfl rfl (V_gtr rfl rfl rfl) ?_
 refine GQ_val rfl rfl rfl rfl (V_pickF rfl rfl rfl) ?_
 refine GQ_val rfl rfl rfl rfl (V_move rfl rfl) ?_
 refine GQ_splitD 24 rfl (fun hc3 => ?_) (fun hc3 => ?_)
 ·
  refine GQ_off rfl rfl rfl rfl ?_
  refine GQ_off rfl rfl rfl rfl ?_
  refine GQ_off rfl rfl rfl rfl ?_
  refine GQ_off rfl rfl rfl rfl ?_
  refine GQ_off rfl rfl rfl rfl ?_
  refine GQ_off rfl rfl rfl rfl ?_
  refine GQ_off rfl rfl rfl rfl ?_
  refine GQ_off rfl rfl rfl rfl ?_
  refine GQ_off rfl rfl rfl rfl ?_
  refine GQ_val rfl rfl rfl rfl (V_pickT rfl rfl rfl) ?_
  refine GQ_val rfl rfl rfl rfl (V_assign rfl rfl) ?_
  refine GQ_done rfl ?_
  refine G_then rfl ?_
  refine G_seq ?_
  refine G_region (l := [0]) rfl ?_
  refine G_val rfl rfl rfl rfl (V_assign rfl rfl) ?_
  refine G_done ?_
  refine G_ret (post := []) Tryz.func60 rfl (RVs_cons (RV_tmp rfl) RVs_nil) [] rfl ?_
  dsimp only [packed]
  refine ⟨int_eq ?_, rfl⟩; unfold rgE; first | rw [if_pos (by omega)] | rw [if_neg (by omega)]
 refine GQ_val rfl rfl rfl rfl (V_fieldAddr (fo := 1) rfl Tryz.underlying115 rfl infLogW_3 rfl rfl rfl) ?_
 refine GQ_val rfl rfl rfl rfl (V_load1 rfl rfl (mem_at 1 rfl) rfl Tryz.underlying3 rfl) ?_
 refine GQ_val rfl rfl rfl rfl (V_fieldAddr (fo := 0) rfl Tryz.underlying115 rfl infLogW_26 rfl rfl rfl) ?_
 refine GQ_val rfl rfl rfl rfl (V_load1 rfl rfl (mem_at 1 rfl) rfl Tryz.underlying26 rfl) ?_
 refine GQ_call rfl rfl rfl rfl rfl rfl Tryz.call51 (dk_size _ _ _ _ _ _ _ h) [0] rfl (fun v post hp => (hp : _ ∧ _).1) ?_
 refine GQ_val rfl rfl rfl rfl (V_fieldAddr (fo := 2) rfl Tryz.underlying115 rfl infLogW_3 rfl rfl rfl) ?_
 refine GQ_val rfl rfl rfl rfl (V_load1 rfl rfl (mem_at 1 rfl) rfl Tryz.underlying3 rfl) ?_
 refine GQ_val rfl rfl rfl rfl ((V_sub rfl rfl rfl).int (wrap_i64 (by omega))) ?_
 refine GQ_val rfl rfl rfl rfl (V_gtr rfl rfl rfl) ?_
 refine GQ_val rfl rfl rfl rfl (V_pickF rfl rfl rfl) ?_
 refine GQ_val rfl rfl rfl rfl (V_assign rfl rfl) ?_
 refine GQ_done rfl ?_
 refine G_ifD rfl (fun hc4 => ?_) (fun hc4 => ?_)
 ·
  refine G_seq ?_
  refine G_region (l := [0]) rfl ?_
  refine G_val rfl rfl rfl rfl (V_assign rfl rfl) ?_
  refine G_done ?_
  refine G_ret (post := []) Tryz.func60 rfl (RVs_cons (RV_tmp rfl) RVs_nil) [] rfl ?_
  dsimp only [packed]
  refine ⟨int_eq ?_, rfl⟩; unfold rgE; first | rw [if_pos (by omega)] | rw [if_neg (by omega)]
 refine G_skip ?_
 refine G_inBlock ?_
 refine G_seq ?_
 refine G_region (l := [0]) rfl ?_
 refine G_val rfl rfl rfl rfl (V_assign rfl rfl) ?_
 refine G_done ?_
 refine G_ret (post := []) Tryz.func60 rfl (RVs_cons (RV_tmp rfl) RVs_nil) [] rfl ?_
 dsimp only [packed]
 refine ⟨int_eq ?_, rfl⟩; unfold rgE; first | rw [if_pos (by omega)] | rw [if_neg (by omega)]

set_option maxRecDepth 100000 in
set_option maxHeartbeats 1000000 in
theorem lg_ok_nil (x y : Value) :
    Ct Tryz.prog 60 [.agg #[.pointer none, x, y]] [] [] fun v post => v = .int .i64 19 ∧ post = [] := by
 refine ct_of Tryz.func60 rfl rfl (fun w0 => ?_)
 show G _ _ [(0, _)] _ _
 refine G_seq ?_
 refine G_region (l := [0, 1]) rfl ?_
 refine G_new rfl rfl rfl rfl (N_boxA rfl rfl) (fun b1 => ?_)
 refine G_val rfl rfl rfl rfl (V_assign rfl rfl) ?_
 refine G_done ?_
 refine G_seq ?_
 refine G_block ?_
 refine G_seq ?_
 refine G_region (l := [0, 1, 2, 3]) rfl ?_
 refine G_val rfl rfl rfl rfl (V_fieldAddr (fo := 0) rfl Tryz.underlying115 rfl infLogW_26 rfl rfl rfl) ?_
 refine G_val rfl rfl rfl rfl (V_load1 rfl rfl (mem_at 0 rfl) rfl Tryz.underlying26 rfl) ?_
 refine G_val rfl rfl rfl rfl (V_peqlN rfl Tryz.underlying26 rfl rfl) ?_
 refine G_val rfl rfl rfl rfl (V_assign rfl rfl) ?_
 refine G_done ?_
 refine G_then rfl ?_
 refine G_seq ?_
 refine G_region (l := [0]) rfl ?_
 refine G_val rfl rfl rfl rfl (V_assign rfl rfl) ?_
 refine G_done ?_
 refine G_ret (post := []) Tryz.func60 rfl (RVs_cons (RV_tmp rfl) RVs_nil) [] rfl ?_
 dsimp only [packed]
 exact ⟨rfl, rfl⟩

set_option maxRecDepth 100000 in
set_option maxHeartbeats 1000000 in
theorem lg_new (d n lb lcap : Nat) (lcs : Array Value) (uw : Sl) (k : Dk) (h : DkAt k n lb lcs lcap uw) (f b : Int) (hf0 : -9223372036854775808 ≤ f) (hf1 : f ≤ 9223372036854775807) (hb0 : -9223372036854775808 ≤ b) (hb1 : b ≤ 9223372036854775807) (e : Nat) (a : Int) (he : e < 4294967296) (ha0 : -9223372036854775808 ≤ a) (ha1 : a ≤ 9223372036854775807) :
    Ct Tryz.prog 36 [.pointer (some ⟨d, 0, none⟩), .int .i64 f, .int .i64 b, .int .u32 (e : Int), .int .i64 a] [(some d, .cells #[.slice (some ⟨lb, 0, none⟩) n lcap, uw.v k.W.length, .int .i64 k.fuse, .bool k.dead] 67 (0, 0))] [] fun v post => (rgE n f b ≠ 0 ∧ v = .tuple #[.pointer none, .int .i64 1] ∧ post = []) ∨ (rgE n f b = 0 ∧ ((e : Int) = 0 ∨ a < 0 ∨ b < a) ∧ v = .tuple #[.pointer none, .int .i64 1] ∧ post = []) ∨ (rgE n f b = 0 ∧ 0 < e ∧ 0 ≤ a ∧ a ≤ b ∧ ∃ g, v = .tuple #[.pointer (some ⟨g, 0, none⟩), .int .i64 0] ∧ post = [(some g, .cells (lgC d f b e a.toNat).toArray 117 (0, 0))]) := by
 have hq := h.bd
 have hq1 := hq.n1
 have hq2 := hq.n4
 have hq3 := hq.ncs
 have hq4 := hq.ncap
 have hq5 := hq.cap
 have hq6 := hq.w
 have hq7 := hq.wc
 have hln := h.len
 refine ct_of Tryz.func36 rfl rfl (fun w0 => ?_)
 show G _ _ [(0, _), (1, _), (2, _), (3, _), (4, _)] _ _
 refine G_seq ?_
 refine G_region (l := [0, 1]) rfl ?_
 refine G_val rfl rfl rfl rfl (V_assign rfl rfl) ?_
 refine G_val rfl rfl rfl rfl (V_assign rfl rfl) ?_
 refine G_done ?_
 refine G_seq ?_
 refine G_region (l := [0, 1, 2, 3, 4, 5]) rfl ?_
 refine G_val rfl rfl rfl rfl (V_move rfl rfl) ?_
 refine G_val rfl rfl rfl rfl (V_move rfl rfl) ?_
 refine G_val rfl rfl rfl rfl (V_move rfl rfl) ?_
 refine G_val rfl rfl rfl rfl (V_buildS (cs := [_, _, _]) rfl Tryz.underlying115 infLogW_115 rfl plcLogW_115 rfl rfl rfl) ?_
 refine G_new rfl rfl rfl rfl (N_allocA rfl infLogW_115 rfl) (fun b12 => ?_)
 refine G_put (l1 := []) (L' := [_]) rfl rfl rfl rfl (P_storeA (s := 3) rfl rfl rfl (mem_at 0 rfl) (by rfl) infLogW_115 rfl (by rfl) (by simp [Value.oneCell', wCells, kCells, rgC, lgC, rdC])) rfl ?_
 refine G_done ?_
 refine G_seq ?_
 refine G_seq ?_
 refine G_region (l := [0, 1, 2]) rfl ?_
 refine G_val rfl rfl rfl rfl (V_loadW (s := 3) rfl rfl (mem_at 1 rfl) Tryz.underlying115 rfl infLogW_115 rfl (by rfl)) ?_
 refine G_call (L2 := [_]) rfl rfl rfl rfl rfl rfl Tryz.call60 (lg_ok d n lb lcap lcs uw k h f b hf0 hf1 hb0 hb1) [] [0] rfl rfl ?_
 rintro v post ⟨rfl, rfl⟩
 show G _ _ _ [_] _
 refine G_val rfl rfl rfl rfl (V_assign rfl rfl) ?_
 refine G_done ?_
 refine G_seq ?_
 refine G_region (l := [0, 1]) rfl ?_
 refine G_val rfl rfl rfl rfl (V_move rfl rfl) ?_
 refine G_val rfl rfl rfl rfl (V_neq rfl rfl rfl) ?_
 refine G_done ?_
 refine G_ifD rfl (fun hc1 => ?_) (fun hc1 => ?_)
 ·
  refine G_seq ?_
  refine G_region (l := [0, 1, 2]) rfl ?_
  refine G_val rfl rfl rfl rfl (V_move rfl rfl) ?_
  refine G_val rfl rfl rfl rfl (V_assign rfl rfl) ?_
  refine G_val rfl rfl rfl rfl (V_assign rfl rfl) ?_
  refine G_done ?_
  refine G_ret (post := []) Tryz.func36 rfl (RVs_cons (RV_tmp rfl) (RVs_cons (RV_tmp rfl) RVs_nil)) [] rfl ?_
  dsimp only [packed]
  first
    | (refine .inl ⟨by assumption, ?_, rfl⟩; rw [rgE_one (by assumption)])
    | exact .inr (.inl ⟨by omega, by omega, rfl, rfl⟩)
    | (refine .inr (.inr ⟨by omega, by omega, by omega, by omega, b38, rfl, ?_⟩); unfold lgC; rw [Int.toNat_of_nonneg (by omega)])
 refine G_skip ?_
 refine G_seq ?_
 refine G_seq ?_
 refine G_region (l := [0, 1, 2, 3, 4, 5, 6, 7, 8, 9, 10]) rfl ?_
 refine G_val rfl rfl rfl rfl (V_move rfl rfl) ?_
 refine G_val rfl rfl rfl rfl (V_eql rfl rfl rfl) ?_
 refine G_val rfl rfl rfl rfl (V_move rfl rfl) ?_
 refine G_splitD 25 rfl (fun hc2 => ?_) (fun hc2 => ?_)
 ·
  refine G_off rfl rfl rfl rfl ?_
  refine G_off rfl rfl rfl rfl ?_
  refine G_val rfl rfl rfl rfl (V_pickT rfl rfl rfl) ?_
  refine G_val rfl rfl rfl rfl (V_move rfl rfl) ?_
  refine G_off rfl rfl rfl rfl ?_
  refine G_off rfl rfl rfl rfl ?_
  refine G_off rfl rfl rfl rfl ?_
  refine G_val rfl rfl rfl rfl (V_pickT rfl rfl rfl) ?_
  refine G_done ?_
  refine G_then rfl ?_
  refine G_seq ?_
  refine G_region (l := [0, 1]) rfl ?_
  refine G_val rfl rfl rfl rfl (V_assign rfl rfl) ?_
  refine G_val rfl rfl rfl rfl (V_assign rfl rfl) ?_
  refine G_done ?_
  refine G_ret (post := []) Tryz.func36 rfl (RVs_cons (RV_tmp rfl) (RVs_cons (RV_tmp rfl) RVs_nil)) [] rfl ?_
  dsimp only [packed]
  first
    | (refine .inl ⟨by assumption, ?_, rfl⟩; rw [rgE_one (by assumption)])
    | exact .inr (.inl ⟨by omega, by omega, rfl, rfl⟩)
    | (refine .inr (.inr ⟨by omega, by omega, by omega, by omega, b38, rfl, ?_⟩); unfold lgC; rw [Int.toNat_of_nonneg (by omega)])
 refine G_val rfl rfl rfl rfl (V_move rfl rfl) ?_
 refine G_val rfl rfl rfl rfl (V_lss rfl rfl rfl) ?_
 refine G_val rfl rfl rfl rfl (V_pickF rfl rfl rfl) ?_
 refine G_val rfl rfl rfl rfl (V_move rfl rfl) ?_
 refine G_splitD 29 rfl (fun hc3 => ?_) (fun hc3 => ?_)
 ·
  refine G_off rfl rfl rfl rfl ?_
  refine G_off rfl rfl rfl rfl ?_
  refine G_off rfl rfl rfl rfl ?_
  refine G_val rfl rfl rfl rfl (V_pickT rfl rfl rfl) ?_
  refine G_done ?_
  refine G_then rfl ?_
  refine G_seq ?_
  refine G_region (l := [0, 1]) rfl ?_
  refine G_val rfl rfl rfl rfl (V_assign rfl rfl) ?_
  refine G_val rfl rfl rfl rfl (V_assign rfl rfl) ?_
  refine G_done ?_
  refine G_ret (post := []) Tryz.func36 rfl (RVs_cons (RV_tmp rfl) (RVs_cons (RV_tmp rfl) RVs_nil)) [] rfl ?_
  dsimp only [packed]
  first
    | (refine .inl ⟨by assumption, ?_, rfl⟩; rw [rgE_one (by assumption)])
    | exact .inr (.inl ⟨by omega, by omega, rfl, rfl⟩)
    | (refine .inr (.inr ⟨by omega, by omega, by omega, by omega, b38, rfl, ?_⟩); unfold lgC; rw [Int.toNat_of_nonneg (by omega)])
 refine G_val rfl rfl rfl rfl (V_move rfl rfl) ?_
 refine G_val rfl rfl rfl rfl (V_move rfl rfl) ?_
 refine G_val rfl rfl rfl rfl (V_gtr rfl rfl rfl) ?_
 refine G_val rfl rfl rfl rfl (V_pickF rfl rfl rfl) ?_
 refine G_done ?_
 refine G_ifD rfl (fun hc4 => ?_) (fun hc4 => ?_)
 ·
  refine G_seq ?_
  refine G_region (l := [0, 1]) rfl ?_
  refine G_val rfl rfl rfl rfl (V_assign rfl rfl) ?_
  refine G_val rfl rfl rfl rfl (V_assign rfl rfl) ?_
  refine G_done ?_
  refine G_ret (post := []) Tryz.func36 rfl (RVs_cons (RV_tmp rfl) (RVs_cons (RV_tmp rfl) RVs_nil)) [] rfl ?_
  dsimp only [packed]
  first
    | (refine .inl ⟨by assumption, ?_, rfl⟩; rw [rgE_one (by assumption)])
    | exact .inr (.inl ⟨by omega, by omega, rfl, rfl⟩)
    | (refine .inr (.inr ⟨by omega, by omega, by omega, by omega, b38, rfl, ?_⟩); unfold lgC; rw [Int.toNat_of_nonneg (by omega)])
 refine G_skip ?_
 refine G_seq ?_
 refine G_region (l := [0, 1, 2, 3, 4, 5, 6]) rfl ?_
 refine G_val rfl rfl rfl rfl (V_loadW (s := 3) rfl rfl (mem_at 1 rfl) Tryz.underlying115 rfl infLogW_115 rfl (by rfl)) ?_
 refine G_val rfl rfl rfl rfl (V_move rfl rfl) ?_
 refine G_val rfl rfl rfl rfl (V_move rfl rfl) ?_
 refine G_val rfl rfl rfl rfl (V_buildS (cs := [_, _, _, _, _]) rfl Tryz.underlying117 infLogW_117 rfl plcLogW_117 rfl rfl rfl) ?_
 refine G_new rfl rfl rfl rfl (N_boxA rfl rfl) (fun b38 => ?_)
 refine G_val rfl rfl rfl rfl (V_assign rfl rfl) ?_
 refine G_val rfl rfl rfl rfl (V_assign rfl rfl) ?_
 refine G_done ?_
 refine G_ret (post := [_]) Tryz.func36 rfl (RVs_cons (RV_tmp rfl) (RVs_cons (RV_tmp rfl) RVs_nil)) [0] rfl ?_
 dsimp only [packed]
 first
   | (refine .inl ⟨by assumption, ?_, rfl⟩; rw [rgE_one (by assumption)])
   | exact .inr (.inl ⟨by omega, by omega, rfl, rfl⟩)
   | (refine .inr (.inr ⟨by omega, by omega, by omega, by omega, b38, rfl, ?_⟩); unfold lgC; rw [Int.toNat_of_nonneg (by omega)])

set_option maxRecDepth 100000 in
set_option maxHeartbeats 1000000 in
theorem lg_new_nil (x y z w : Int) :
    Ct Tryz.prog 36 [.pointer none, .int .i64 x, .int .i64 y, .int .u32 z, .int .i64 w] [] [] fun v post => v = .tuple #[.pointer none, .int .i64 19] ∧ post = [] := by
 refine ct_of Tryz.func36 rfl rfl (fun w0 => ?_)
 show G _ _ [(0, _), (1, _), (2, _), (3, _), (4, _)] _ _
 refine G_seq ?_
 refine G_region (l := [0, 1]) rfl ?_
 refine G_val rfl rfl rfl rfl (V_assign rfl rfl) ?_
 refine G_val rfl rfl rfl rfl (V_assign rfl rfl) ?_
 refine G_done ?_
 refine G_seq ?_
 refine G_region (l := [0, 1, 2, 3, 4, 5]) rfl ?_
 refine G_val rfl rfl rfl rfl (V_move rfl rfl) ?_
 refine G_val rfl rfl rfl rfl (V_move rfl rfl) ?_
 refine G_val rfl rfl rfl rfl (V_move rfl rfl) ?_
 refine G_val rfl rfl rfl rfl (V_buildS (cs := [_, _, _]) rfl Tryz.underlying115 infLogW_115 rfl plcLogW_115 rfl rfl rfl) ?_
 refine G_new rfl rfl rfl rfl (N_allocA rfl infLogW_115 rfl) (fun b12 => ?_)
 refine G_put (l1 := []) (L' := [_]) rfl rfl rfl rfl (P_storeA (s := 3) rfl rfl rfl (mem_at 0 rfl) (by rfl) infLogW_115 rfl (by rfl) (by simp [Value.oneCell', wCells, kCells, rgC, lgC, rdC])) rfl ?_
 refine G_done ?_
 refine G_seq ?_
 refine G_seq ?_
 refine G_region (l := [0, 1, 2]) rfl ?_
 refine G_val rfl rfl rfl rfl (V_loadW (s := 3) rfl rfl (mem_at 0 rfl) Tryz.underlying115 rfl infLogW_115 rfl (by rfl)) ?_
 refine G_call (L2 := [_]) rfl rfl rfl rfl rfl rfl Tryz.call60 (lg_ok_nil _ _) [] [] rfl rfl ?_
 rintro v post ⟨rfl, rfl⟩
 show G _ _ _ [_] _
 refine G_val rfl rfl rfl rfl (V_assign rfl rfl) ?_
 refine G_done ?_
 refine G_seq ?_
 refine G_region (l := [0, 1]) rfl ?_
 refine G_val rfl rfl rfl rfl (V_move rfl rfl) ?_
 refine G_val rfl rfl rfl rfl (V_neq rfl rfl rfl) ?_
 refine G_done ?_
 refine G_ifD rfl (fun hc1 => ?_) (fun hc1 => ?_)
 rotate_left
 · (first | (exact absurd rfl hc1) | (exfalso; omega))
 refine G_seq ?_
 refine G_region (l := [0, 1, 2]) rfl ?_
 refine G_val rfl rfl rfl rfl (V_move rfl rfl) ?_
 refine G_val rfl rfl rfl rfl (V_assign rfl rfl) ?_
 refine G_val rfl rfl rfl rfl (V_assign rfl rfl) ?_
 refine G_done ?_
 refine G_ret (post := []) Tryz.func36 rfl (RVs_cons (RV_tmp rfl) (RVs_cons (RV_tmp rfl) RVs_nil)) [] rfl ?_
 dsimp only [packed]
 exact ⟨rfl, rfl⟩

set_option maxRecDepth 100000 in
set_option maxHeartbeats 1000000 in
theorem lg_room (d g : Nat) (f b : Int) (e a : Nat) (hb0 : 0 ≤ b) (hb1 : b ≤ 1000000) (ha : a ≤ 1000000) :
    Ct Tryz.prog 44 [.pointer (some ⟨g, 0, none⟩)] [(some g, .cells (lgC d f b e a).toArray 117 (0, 0))] [] fun v post => v = .int .i64 (b - (a : Int)) ∧ post = [] := by
 refine ct_of Tryz.func44 rfl rfl (fun w0 => ?_)
 show G _ _ [(0, _)] _ _
 refine G_seq ?_
 refine G_region (l := [0]) rfl ?_
 refine G_val rfl rfl rfl rfl (V_assign rfl rfl) ?_
 refine G_done ?_
 refine G_seq ?_
 refine G_seq ?_
 refine G_region (l := [0, 1]) rfl ?_
 refine G_val rfl rfl rfl rfl (V_move rfl rfl) ?_
 refine G_val rfl rfl rfl rfl (V_peqlN rfl Tryz.underlying82 rfl rfl) ?_
 refine G_done ?_
 refine G_else rfl ?_
 refine G_skip ?_
 refine G_seq ?_
 refine G_draw mixedK (by kernel_rfl) ?_
 refine GQ_val rfl rfl rfl rfl (V_move rfl rfl) ?_
 refine GQ_val rfl rfl rfl rfl (V_nilCheck rfl rfl) ?_
 refine GQ_val rfl rfl rfl rfl (V_fieldAddr (fo := 0) rfl Tryz.underlying117 rfl infLogW_115 rfl rfl rfl) ?_
 refine GQ_val rfl rfl rfl rfl (V_fieldAddr (fo := 2) rfl Tryz.underlying115 rfl infLogW_3 rfl rfl rfl) ?_
 refine GQ_val rfl rfl rfl rfl (V_load1 rfl rfl (mem_at 0 rfl) rfl Tryz.underlying3 rfl) ?_
 refine GQ_val rfl rfl rfl rfl (V_move rfl rfl) ?_
 refine GQ_val rfl rfl rfl rfl (V_nilCheck rfl rfl) ?_
 refine GQ_val rfl rfl rfl rfl (V_fieldAddr (fo := 4) rfl Tryz.underlying117 rfl infLogW_3 rfl rfl rfl) ?_
 refine GQ_val rfl rfl rfl rfl (V_load1 rfl rfl (mem_at 0 rfl) rfl Tryz.underlying3 rfl) ?_
 refine GQ_val rfl rfl rfl rfl ((V_sub rfl rfl rfl).int (wrap_i64 (by omega))) ?_
 refine GQ_val rfl rfl rfl rfl (V_assign rfl rfl) ?_
 refine GQ_done rfl ?_
 refine G_ret (post := []) Tryz.func44 rfl (RVs_cons (RV_tmp rfl) RVs_nil) [] rfl ?_
 dsimp only [packed]
 exact ⟨rfl, rfl⟩

set_option maxRecDepth 100000 in
set_option maxHeartbeats 1000000 in
theorem lg_room_nil  :
    Ct Tryz.prog 44 [.pointer none] [] [] fun v post => v = .int .i64 0 ∧ post = [] := by
 refine ct_of Tryz.func44 rfl rfl (fun w0 => ?_)
 show G _ _ [(0, _)] _ _
 refine G_seq ?_
 refine G_region (l := [0]) rfl ?_
 refine G_val rfl rfl rfl rfl (V_assign rfl rfl) ?_
 refine G_done ?_
 refine G_seq ?_
 refine G_seq ?_
 refine G_region (l := [0, 1]) rfl ?_
 refine G_val rfl rfl rfl rfl (V_move rfl rfl) ?_
 refine G_val rfl rfl rfl rfl (V_peqlN rfl Tryz.underlying82 rfl rfl) ?_
 refine G_done ?_
 refine G_then rfl ?_
 refine G_seq ?_
 refine G_region (l := [0]) rfl ?_
 refine G_val rfl rfl rfl rfl (V_assign rfl rfl) ?_
 refine G_done ?_
 refine G_ret (post := []) Tryz.func44 rfl (RVs_cons (RV_tmp rfl) RVs_nil) [] rfl ?_
 dsimp only [packed]
 exact ⟨rfl, rfl⟩

set_option maxRecDepth 100000 in
set_option maxHeartbeats 1000000 in
theorem lg_fits (d g : Nat) (f b : Int) (e a : Nat) (s : List UInt8) (hb0 : 0 ≤ b) (hb1 : b ≤ 1000000) (ha : a ≤ 1000000) (hs : s.length ≤ 9223372036854775000) :
    Ct Tryz.prog 40 [.pointer (some ⟨g, 0, none⟩), .string (bs s)] [(some g, .cells (lgC d f b e a).toArray 117 (0, 0))] [] fun v post => v = .bool (decide (fitsL (b - (a : Int)) s)) ∧ post = [] := by
 refine ct_of Tryz.func40 rfl rfl (fun w0 => ?_)
 show G _ _ [(0, _), (1, _)] _ _
 refine G_seq ?_
 refine G_region (l := [0]) rfl ?_
 refine G_val rfl rfl rfl rfl (V_assign rfl rfl) ?_
 refine G_done ?_
 refine G_seq ?_
 refine G_region (l := [0, 1, 2, 3, 4, 5, 6, 7, 8, 9, 10, 11, 12, 13, 14, 15]) rfl ?_
 refine G_val rfl rfl rfl rfl (V_move rfl rfl) ?_
 refine G_val rfl rfl rfl rfl (V_pneqN rfl Tryz.underlying82 rfl rfl) ?_
 refine G_val rfl rfl rfl rfl (V_move rfl rfl) ?_
 refine G_val rfl rfl rfl rfl (V_move rfl rfl) ?_
 refine G_val rfl rfl rfl rfl (V_slen rfl rfl Tryz.underlying9 rfl) ?_
 refine G_val rfl rfl rfl rfl (V_leq rfl rfl rfl) ?_
 refine G_val rfl rfl rfl rfl (V_pickT rfl rfl rfl) ?_
 refine G_val rfl rfl rfl rfl (V_move rfl rfl) ?_
 refine G_splitD 12 rfl (fun hc1 => ?_) (fun hc1 => ?_)
 ·
  refine G_val rfl rfl rfl rfl (V_move rfl rfl) ?_
  refine G_val rfl rfl rfl rfl (V_slen rfl rfl Tryz.underlying9 rfl) ?_
  refine G_call (L2 := []) rfl rfl rfl rfl rfl rfl Tryz.call61 (fr_many _ (by omega)) [] [] rfl rfl ?_
  rintro v post ⟨rfl, rfl⟩
  refine G_val rfl rfl rfl rfl (V_move rfl rfl) ?_
  refine G_call (L2 := []) rfl rfl rfl rfl rfl rfl Tryz.call44 (lg_room d g f b e a hb0 hb1 ha) [] [0] rfl rfl ?_
  rintro v post ⟨rfl, rfl⟩
  refine G_val rfl rfl rfl rfl (V_leq rfl rfl rfl) ?_
  refine G_val rfl rfl rfl rfl (V_pickT rfl rfl rfl) ?_
  refine G_val rfl rfl rfl rfl (V_assign rfl rfl) ?_
  refine G_done ?_
  refine G_ret (post := []) Tryz.func40 rfl (RVs_cons (RV_tmp rfl) RVs_nil) [] rfl ?_
  dsimp only [packed]
  refine ⟨?_, rfl⟩; first | exact bool_eq (decide_eq_true (by unfold fitsL; omega)).symm | exact bool_eq (decide_eq_false (by unfold fitsL; omega)).symm | exact bool_eq (decide_eq_decide.2 (by unfold fitsL; omega))
 refine G_off rfl rfl rfl rfl ?_
 refine G_off rfl rfl rfl rfl ?_
 refine G_off rfl rfl rfl rfl ?_
 refine G_off rfl rfl rfl rfl ?_
 refine G_off rfl rfl rfl rfl ?_
 refine G_off rfl rfl rfl rfl ?_
 refine G_val rfl rfl rfl rfl (V_pickF rfl rfl rfl) ?_
 refine G_val rfl rfl rfl rfl (V_assign rfl rfl) ?_
 refine G_done ?_
 refine G_ret (post := []) Tryz.func40 rfl (RVs_cons (RV_tmp rfl) RVs_nil) [] rfl ?_
 dsimp only [packed]
 refine ⟨?_, rfl⟩; first | exact bool_eq (decide_eq_true (by unfold fitsL; omega)).symm | exact bool_eq (decide_eq_false (by unfold fitsL; omega)).symm | exact bool_eq (decide_eq_decide.2 (by unfold fitsL; omega))

set_option maxRecDepth 100000 in
set_option maxHeartbeats 1000000 in
theorem lg_fits_nil (x : Value) :
    Ct Tryz.prog 40 [.pointer none, x] [] [] fun v post => v = .bool false ∧ post = [] := by
 refine ct_of Tryz.func40 rfl rfl (fun w0 => ?_)
 show G _ _ [(0, _), (1, _)] _ _
 refine G_seq ?_
 refine G_region (l := [0]) rfl ?_
 refine G_val rfl rfl rfl rfl (V_assign rfl rfl) ?_
 refine G_done ?_
 refine G_seq ?_
 refine G_region (l := [0, 1, 2, 3, 4, 5, 6, 7, 8, 9, 10, 11, 12, 13, 14, 15]) rfl ?_
 refine G_val rfl rfl rfl rfl (V_move rfl rfl) ?_
 refine G_val rfl rfl rfl rfl (V_pneqN rfl Tryz.underlying82 rfl rfl) ?_
 refine G_val rfl rfl rfl rfl (V_move rfl rfl) ?_
 refine G_off rfl rfl rfl rfl ?_
 refine G_off rfl rfl rfl rfl ?_
 refine G_off rfl rfl rfl rfl ?_
 refine G_val rfl rfl rfl rfl (V_pickF rfl rfl rfl) ?_
 refine G_val rfl rfl rfl rfl (V_move rfl rfl) ?_
 refine G_off rfl rfl rfl rfl ?_
 refine G_off rfl rfl rfl rfl ?_
 refine G_off rfl rfl rfl rfl ?_
 refine G_off rfl rfl rfl rfl ?_
 refine G_off rfl rfl rfl rfl ?_
 refine G_off rfl rfl rfl rfl ?_
 refine G_val rfl rfl rfl rfl (V_pickF rfl rfl rfl) ?_
 refine G_val rfl rfl rfl rfl (V_assign rfl rfl) ?_
 refine G_done ?_
 refine G_ret (post := []) Tryz.func40 rfl (RVs_cons (RV_tmp rfl) RVs_nil) [] rfl ?_
 dsimp only [packed]
 exact ⟨rfl, rfl⟩


theorem app_stop {k kk : Dk} {f b : Int} {e a i : Nat} {s bl : List UInt8} (h : lgE (b - a) s = 0) (hwr : WrsAt k kk (f + a) (lblks e a (piecesF s)) i) (hxb : (lblks e a (piecesF s))[i]? = some bl) (he : ¬ kk.writeE (f + a + (i : Int)) bl = 0) :
    appK k f b e a s = kk.write (f + a + (i : Int)) bl ∧ appE k f b e a s = kk.writeE (f + a + (i : Int)) bl ∧ appA k f b e a s = a := by
  obtain ⟨e1, e2⟩ := app_yes (k := k) (f := f) (e := e) h
  obtain ⟨e3, e4⟩ := wrs_stop hwr hxb he
  exact ⟨e1.trans e3, e2.trans e4, app_A1 (by rw [e2, e4]; exact he)⟩
theorem app_end {k kk : Dk} {f b : Int} {e a i : Nat} {s : List UInt8} (h : lgE (b - a) s = 0) (hwr : WrsAt k kk (f + a) (lblks e a (piecesF s)) i) (hi : manyN s.length ≤ i) :
    appK k f b e a s = kk ∧ appE k f b e a s = 0 ∧ appA k f b e a s = a + manyN s.length := by
  obtain ⟨e1, e2⟩ := app_yes (k := k) (f := f) (e := e) h
  obtain ⟨e3, e4⟩ := wrs_end hwr (by rw [lblks_len, piecesF_len]; exact hi)
  exact ⟨e1.trans e3, e2.trans e4, app_A0 (e2.trans e4)⟩
theorem app_long {k : Dk} {f b : Int} {e a : Nat} {s : List UInt8} (h : ¬ s.length ≤ 1000) : appK k f b e a s = k ∧ appE k f b e a s = 4 ∧ appA k f b e a s = a := by
  have h4 : lgE (b - a) s = 4 := by unfold lgE; rw [if_pos (by omega)]
  obtain ⟨e1, e2, e3⟩ := app_no (k := k) (f := f) (e := e) (b := b) (a := a) (s := s) (by rw [h4]; decide)
  exact ⟨e1, e2.trans h4, e3⟩
theorem app_full {k : Dk} {f b : Int} {e a : Nat} {s : List UInt8} (h : s.length ≤ 1000) (h1 : ¬ fitsL (b - (a : Int)) s) : appK k f b e a s = k ∧ appE k f b e a s = 17 ∧ appA k f b e a s = a := by
  have h4 : lgE (b - a) s = 17 := by unfold lgE; rw [if_neg (by omega), if_pos (by unfold fitsL at h1; omega)]
  obtain ⟨e1, e2, e3⟩ := app_no (k := k) (f := f) (e := e) (b := b) (a := a) (s := s) (by rw [h4]; decide)
  exact ⟨e1, e2.trans h4, e3⟩

set_option maxRecDepth 100000 in
set_option maxHeartbeats 1000000 in
theorem lg_append (d n lb lcap : Nat) (lcs : Array Value) (uw : Sl) (k : Dk) (h : DkAt k n lb lcs lcap uw) (g : Nat) (f b : Int) (e a : Nat) (s : List UInt8) (hr : rgE n f b = 0) (he0 : 0 < e) (he : e < 4294967296) (ha : (a : Int) ≤ b) (hW : k.W.length ≤ 1000000 - 100) (hsl : s.length ≤ 9223372036854775000) :
    Ct Tryz.prog 41 [.pointer (some ⟨g, 0, none⟩), .string (bs s)] [] [(some g, .cells (lgC d f b e a).toArray 117 (0, 0)), (some d, .cells #[.slice (some ⟨lb, 0, none⟩) n lcap, uw.v k.W.length, .int .i64 k.fuse, .bool k.dead] 67 (0, 0)), (some lb, .cells lcs 9 (0, 0)), (uw.ob, .cells uw.cs 90 uw.fz)] fun v post => v = .int .i64 (appE k f b e a s) ∧ ∃ lcs1 uw1, DkAt (appK k f b e a s) n lb lcs1 lcap uw1 ∧ post = [(some g, .cells (lgC d f b e (appA k f b e a s)).toArray 117 (0, 0)), (some d, .cells #[.slice (some ⟨lb, 0, none⟩) n lcap, uw1.v (appK k f b e a s).W.length, .int .i64 (appK k f b e a s).fuse, .bool (appK k f b e a s).dead] 67 (0, 0)), (some lb, .cells lcs1 9 (0, 0)), (uw1.ob, .cells uw1.cs 90 uw1.fz)] := by
 have hq := h.bd
 have hq1 := hq.n1
 have hq2 := hq.n4
 have hq3 := hq.ncs
 have hq4 := hq.ncap
 have hq5 := hq.cap
 have hq6 := hq.w
 have hq7 := hq.wc
 have hln := h.len
 have hr1 := hr
 rw [rgE_ok] at hr1
 obtain ⟨hr2, hr3, hr4⟩ := hr1
 have hpl := piecesF_len s
 refine ct_of Tryz.func41 rfl rfl (fun w0 => ?_)
 show G _ _ [(0, _), (1, _)] _ _
 refine G_seq ?_
 refine G_region (l := [0]) rfl ?_
 refine G_val rfl rfl rfl rfl (V_assign rfl rfl) ?_
 refine G_done ?_
 refine G_seq ?_
 refine G_seq ?_
 refine G_region (l := [0, 1]) rfl ?_
 refine G_val rfl rfl rfl rfl (V_move rfl rfl) ?_
 refine G_val rfl rfl rfl rfl (V_peqlN rfl Tryz.underlying82 rfl rfl) ?_
 refine G_done ?_
 refine G_else rfl ?_
 refine G_skip ?_
 refine G_seq ?_
 by_cases hle : s.length ≤ 1000
 ·
  refine G_region (l := [0, 1, 2, 3, 4, 5, 6]) rfl ?_
  refine G_val rfl rfl rfl rfl (V_move rfl rfl) ?_
  refine G_call (L2 := [_, _, _, _]) rfl rfl rfl rfl rfl rfl Tryz.call62 ((fr_encode s (by omega)).weaken (fun v post h => by rw [(encF_yes hle).1, (encF_yes hle).2, piecesF_len] at h; exact h)) [] [] rfl rfl ?_
  rintro v post ⟨u, hu, rfl, rfl⟩
  show G _ _ _ [_, _, _, _, _] _
  refine G_val rfl rfl rfl rfl (V_move rfl rfl) ?_
  refine G_val rfl rfl rfl rfl (V_extract rfl rfl rfl) ?_
  refine G_val rfl rfl rfl rfl (V_extract rfl rfl rfl) ?_
  refine G_val rfl rfl rfl rfl (V_assign rfl rfl) ?_
  refine G_val rfl rfl rfl rfl (V_assign rfl rfl) ?_
  refine G_done ?_
  refine G_seq ?_
  refine G_block ?_
  refine G_seq ?_
  refine G_region (l := [0, 1, 2]) rfl ?_
  refine G_val rfl rfl rfl rfl (V_move rfl rfl) ?_
  refine G_val rfl rfl rfl rfl (V_neq rfl rfl rfl) ?_
  refine G_val rfl rfl rfl rfl (V_assign rfl rfl) ?_
  refine G_done ?_
  refine G_ifD rfl (fun hc1 => ?_) (fun hc1 => ?_)
  · (first | (exact absurd rfl hc1) | (exact absurd hc1 (by decide)) | (exfalso; omega))
  refine G_seq ?_
  refine G_region (l := [0, 1, 2, 3, 4]) rfl ?_
  refine G_val rfl rfl rfl rfl (V_move rfl rfl) ?_
  refine G_val rfl rfl rfl rfl (V_move rfl rfl) ?_
  refine G_call (L2 := [_, _, _, _, _]) rfl rfl rfl rfl rfl rfl Tryz.call40 (lg_fits d g f b e a s (by omega) (by omega) (by omega) (by omega)) [] [1] rfl rfl ?_
  rintro v post ⟨rfl, rfl⟩
  show G _ _ _ [_, _, _, _, _] _
  refine G_val rfl rfl rfl rfl (V_not rfl rfl) ?_
  refine G_val rfl rfl rfl rfl (V_assign rfl rfl) ?_
  refine G_done ?_
  refine G_if rfl (fun hc2 => ?_) (fun hc2 => ?_)
  ·
   refine G_seq ?_
   refine G_region (l := [0]) rfl ?_
   refine G_val rfl rfl rfl rfl (V_assign rfl rfl) ?_
   refine G_done ?_
   refine G_ret (post := [_, _, _, _]) Tryz.func41 rfl (RVs_cons (RV_tmp rfl) RVs_nil) [1, 1, 1, 1] rfl ?_
   dsimp only [packed]
   first
     | (suffices hz : ¬ s.length ≤ 1000 by (obtain ⟨e1, e2, e3⟩ := app_long (k := k) (f := f) (b := b) (e := e) (a := a) (s := s) hz; rw [e1, e2, e3]; exact ⟨rfl, lcs, uw, h, rfl⟩)
        assumption)
     | (suffices hz : s.length ≤ 1000 ∧ ¬ fitsL (b - (a : Int)) s by (obtain ⟨e1, e2, e3⟩ := app_full (k := k) (f := f) (b := b) (e := e) (a := a) (s := s) hz.1 hz.2; rw [e1, e2, e3]; exact ⟨rfl, lcs, uw, h, rfl⟩)
        exact ⟨by assumption, by simpa using hc2⟩)
     | (suffices hz : ¬ kk.writeE (f + a + (i : Int)) (sealL e (a + i) p) = 0 by (obtain ⟨e1, e2, e3⟩ := app_stop (k := k) hfit hwr hxb hz; rw [e1, e2, e3]; exact ⟨rfl, lcs1, uw1, h1, rfl⟩)
        assumption)
     | (suffices hz : manyN s.length ≤ i by (obtain ⟨e1, e2, e3⟩ := app_end (k := k) hfit hwr hz; rw [e1, e2, e3]; exact ⟨rfl, cs, v, hkk, rfl⟩)
        omega)
  refine G_skip ?_
  refine G_inBlock ?_
  refine G_seq ?_
  refine G_seq ?_
  have hfit : lgE (b - a) s = 0 := lgE_0.2 (by simpa using hc2)
  have hfit2 := (lgE_0.1 hfit).2
  have hm21 : manyN s.length ≤ 21 := by unfold manyN; omega
  refine G_region (l := [0, 1, 2]) rfl ?_
  refine G_val rfl rfl rfl rfl (V_move rfl rfl) ?_
  refine G_val rfl rfl rfl rfl (V_len rfl rfl Tryz.underlying34 rfl) ?_
  refine G_val rfl rfl rfl rfl (V_move rfl rfl) ?_
  refine G_done ?_
  refine G_block ?_
  refine G_sub ?he9 [1, 1, 1, 1, 0] ?hl9 (G_loop (X := Nat × Dk × Array Value × Sl) (fun x => match x with | ⟨i, kk, cs, v⟩ => i ≤ manyN s.length ∧ DkAt kk n lb cs lcap v ∧ WrsAt k kk (f + a) (lblks e a (piecesF s)) i ∧ kk.W.length ≤ k.W.length + i) (fun x => match x with | ⟨i, kk, cs, v⟩ => manyN s.length - i) (fun x => match x with | ⟨i, kk, cs, v⟩ => [(0, .pointer (some ⟨g, 0, none⟩)), (1, .string (bs s)), (5, u.v (manyN s.length)), (28, u.v (manyN s.length)), (29, .int .i64 (manyN s.length : Int)), (30, .int .i64 (i : Int))]) (fun x => match x with | ⟨i, kk, cs, v⟩ => [(some g, .cells (lgC d f b e a).toArray 117 (0, 0)), (some d, .cells #[.slice (some ⟨lb, 0, none⟩) n lcap, v.v kk.W.length, .int .i64 kk.fuse, .bool kk.dead] 67 (0, 0)), (some lb, .cells cs 9 (0, 0)), (v.ob, .cells v.cs 90 v.fz), (u.ob, .cells u.cs 9 u.fz)]) ?round9 (0, k, lcs, uw) ?h09)
  case he9 => exact (And.intro rfl (And.intro rfl (And.intro rfl (And.intro rfl (And.intro rfl (And.intro rfl trivial))))))
  case hl9 => exact ⟨_, rfl⟩
  case h09 => exact ⟨Nat.zero_le _, h, wrs_start k _ _, Nat.le_refl _⟩
  case round9 =>
   intro x hJ ih
   try dsimp only at hJ ih
   obtain ⟨i, kk, cs, v⟩ := x
   try dsimp only at hJ ih
   obtain ⟨hi, hkk, hwr, hww⟩ := hJ
   show G _ _ [(0, .pointer (some ⟨g, 0, none⟩)), (1, .string (bs s)), (5, u.v (manyN s.length)), (28, u.v (manyN s.length)), (29, .int .i64 (manyN s.length : Int)), (30, .int .i64 (i : Int))] [(some g, .cells (lgC d f b e a).toArray 117 (0, 0)), (some d, .cells #[.slice (some ⟨lb, 0, none⟩) n lcap, v.v kk.W.length, .int .i64 kk.fuse, .bool kk.dead] 67 (0, 0)), (some lb, .cells cs 9 (0, 0)), (v.ob, .cells v.cs 90 v.fz), (u.ob, .cells u.cs 9 u.fz)] _
   refine G_seq ?_
   refine G_region (l := [0]) rfl ?_
   refine G_val rfl rfl rfl rfl (V_lss rfl rfl rfl) ?_
   refine G_done ?_
   refine G_seq ?_
   refine G_ifD rfl (fun hc3 => ?_) (fun hc3 => ?_)
   ·
    refine G_skip ?_
    refine G_seq ?_
    refine G_block ?_
    refine G_seq ?_
    obtain ⟨p, hp⟩ := getI (show i < (piecesF s).length by omega)
    have hp48 := piecesF_48 s p (List.mem_of_getElem? hp)
    have hpE : sealE e p = 0 := (sealE_cases _ _).2 (by omega)
    have hxb : (lblks e a (piecesF s))[i]? = some (sealL e (a + i) p) := by rw [lblks_at, hp]; rfl
    obtain ⟨uo, ucs, ufz, ucap⟩ := u
    obtain ⟨ub, rfl⟩ := hu.isSome (by omega)
    refine G_region (l := [0, 1, 2, 3, 4]) rfl ?_
    refine G_val rfl rfl rfl rfl (V_move rfl rfl) ?_
    refine G_val rfl rfl rfl rfl (V_indexAddrN (s := 1) rfl Tryz.underlying34 infLogW_9 rfl rfl rfl rfl (by omega)) ?_
    refine G_val rfl rfl rfl rfl (V_load1 rfl rfl (mem_at 4 rfl) (nth_of (show ucs[0 + i * 1]? = some (strC p) by rw [Nat.zero_add, Nat.mul_one]; exact hu.nth (by simp [hp]))) Tryz.underlying9 rfl) ?_
    refine G_val rfl rfl rfl rfl (V_assign rfl rfl) ?_
    refine G_val rfl rfl rfl rfl (V_assign rfl rfl) ?_
    refine G_done ?_
    refine G_seq ?_
    refine G_draw mixedK (by kernel_rfl) ?_
    refine GQ_val rfl rfl rfl rfl (V_move rfl rfl) ?_
    refine GQ_val rfl rfl rfl rfl (V_nilCheck rfl rfl) ?_
    refine GQ_val rfl rfl rfl rfl (V_fieldAddr (fo := 3) rfl Tryz.underlying117 rfl infLogW_50 rfl rfl rfl) ?_
    refine GQ_val rfl rfl rfl rfl (V_load1 rfl rfl (mem_at 0 rfl) rfl Tryz.underlying50 rfl) ?_
    refine GQ_val rfl rfl rfl rfl (V_move rfl rfl) ?_
    refine GQ_val rfl rfl rfl rfl (V_nilCheck rfl rfl) ?_
    refine GQ_val rfl rfl rfl rfl (V_fieldAddr (fo := 4) rfl Tryz.underlying117 rfl infLogW_3 rfl rfl rfl) ?_
    refine GQ_val rfl rfl rfl rfl (V_load1 rfl rfl (mem_at 0 rfl) rfl Tryz.underlying3 rfl) ?_
    refine GQ_val rfl rfl rfl rfl (V_move rfl rfl) ?_
    refine GQ_val rfl rfl rfl rfl (Val.int (e' := ((a + i : Nat) : Int)) (V_add rfl rfl rfl) (by rw [wrap_i64 (by omega)]; omega)) ?_
    refine GQ_val rfl rfl rfl rfl ((V_conv rfl rfl Tryz.underlying3 Tryz.underlying50).int (wrap_u32 (by omega))) ?_
    refine GQ_val rfl rfl rfl rfl (V_move rfl rfl) ?_
    refine GQ_call rfl rfl rfl rfl rfl rfl Tryz.call63 ((seal_seal e (a + i) p he (by omega) (by omega)).weaken (fun v post h => by rw [hpE] at h; exact h)) [] rfl (fun v post hp => (hp : _ ∧ _).1) ?_
    refine GQ_val rfl rfl rfl rfl (V_move rfl rfl) ?_
    refine GQ_val rfl rfl rfl rfl (V_extract rfl rfl rfl) ?_
    refine GQ_val rfl rfl rfl rfl (V_extract rfl rfl rfl) ?_
    refine GQ_val rfl rfl rfl rfl (V_assign rfl rfl) ?_
    refine GQ_val rfl rfl rfl rfl (V_assign rfl rfl) ?_
    refine GQ_done rfl ?_
    refine G_seq ?_
    refine G_seq ?_
    refine G_region (l := [0, 1]) rfl ?_
    refine G_val rfl rfl rfl rfl (V_move rfl rfl) ?_
    refine G_val rfl rfl rfl rfl (V_neq rfl rfl rfl) ?_
    refine G_done ?_
    refine G_ifD rfl (fun hc4 => ?_) (fun hc4 => ?_)
    · (first | (exact absurd rfl hc4) | (exact absurd hc4 (by decide)) | (exfalso; omega))
    refine G_skip ?_
    refine G_seq ?_
    refine GH_start (Lq := [_]) (isq := [0]) (m := 20) mixedK rfl rfl ?_
    refine GH_take 0 rfl rfl rfl rfl (by kernel_rfl) (by kernel_rfl) (by kernel_rfl) (fun _ _ => (V_move rfl rfl)) ?_
    refine GH_take 1 rfl rfl rfl rfl (by kernel_rfl) (by kernel_rfl) (by kernel_rfl) (fun _ _ => (V_nilCheck rfl rfl)) ?_
    refine GH_take 2 rfl rfl rfl rfl (by kernel_rfl) (by kernel_rfl) (by kernel_rfl) (fun _ _ => (V_fieldAddr (fo := 0) rfl Tryz.underlying117 rfl infLogW_115 rfl rfl rfl)) ?_
    refine GH_take 3 rfl rfl rfl rfl (by kernel_rfl) (by kernel_rfl) (by kernel_rfl) (fun _ _ => (V_fieldAddr (fo := 0) rfl Tryz.underlying115 rfl infLogW_26 rfl rfl rfl)) ?_
    refine GH_take 4 rfl rfl rfl rfl (by kernel_rfl) (by kernel_rfl) (by kernel_rfl) (fun _ _ => (V_load1 rfl rfl (mem_at 0 rfl) rfl Tryz.underlying26 rfl)) ?_
    refine GH_take 5 rfl rfl rfl rfl (by kernel_rfl) (by kernel_rfl) (by kernel_rfl) (fun _ _ => (V_move rfl rfl)) ?_
    refine GH_take 6 rfl rfl rfl rfl (by kernel_rfl) (by kernel_rfl) (by kernel_rfl) (fun _ _ => (V_nilCheck rfl rfl)) ?_
    refine GH_take 7 rfl rfl rfl rfl (by kernel_rfl) (by kernel_rfl) (by kernel_rfl) (fun _ _ => (V_fieldAddr (fo := 0) rfl Tryz.underlying117 rfl infLogW_115 rfl rfl rfl)) ?_
    refine GH_take 8 rfl rfl rfl rfl (by kernel_rfl) (by kernel_rfl) (by kernel_rfl) (fun _ _ => (V_fieldAddr (fo := 1) rfl Tryz.underlying115 rfl infLogW_3 rfl rfl rfl)) ?_
    refine GH_take 9 rfl rfl rfl rfl (by kernel_rfl) (by kernel_rfl) (by kernel_rfl) (fun _ _ => (V_load1 rfl rfl (mem_at 0 rfl) rfl Tryz.underlying3 rfl)) ?_
    refine GH_take 10 rfl rfl rfl rfl (by kernel_rfl) (by kernel_rfl) (by kernel_rfl) (fun _ _ => (V_move rfl rfl)) ?_
    refine GH_take 11 rfl rfl rfl rfl (by kernel_rfl) (by kernel_rfl) (by kernel_rfl) (fun _ _ => (V_nilCheck rfl rfl)) ?_
    refine GH_take 12 rfl rfl rfl rfl (by kernel_rfl) (by kernel_rfl) (by kernel_rfl) (fun _ _ => (V_fieldAddr (fo := 4) rfl Tryz.underlying117 rfl infLogW_3 rfl rfl rfl)) ?_
    refine GH_take 13 rfl rfl rfl rfl (by kernel_rfl) (by kernel_rfl) (by kernel_rfl) (fun _ _ => (V_load1 rfl rfl (mem_at 0 rfl) rfl Tryz.underlying3 rfl)) ?_
    refine GH_take 14 rfl rfl rfl rfl (by kernel_rfl) (by kernel_rfl) (by kernel_rfl) (fun _ _ => ((V_add rfl rfl rfl).int (wrap_i64 (by omega)))) ?_
    refine GH_take 15 rfl rfl rfl rfl (by kernel_rfl) (by kernel_rfl) (by kernel_rfl) (fun _ _ => (V_move rfl rfl)) ?_
    refine GH_take 16 rfl rfl rfl rfl (by kernel_rfl) (by kernel_rfl) (by kernel_rfl) (fun _ _ => ((V_add rfl rfl rfl).int (wrap_i64 (by omega)))) ?_
    refine GH_take 17 rfl rfl rfl rfl (by kernel_rfl) (by kernel_rfl) (by kernel_rfl) (fun _ _ => (V_move rfl rfl)) ?_
    refine GH_all [18] (by kernel_rfl) (by decide) ?_
    refine (And.intro ?_ trivial)
    ·
     refine GHop_call (L2 := [_, _]) rfl rfl rfl rfl rfl rfl Tryz.call58 (dk_write d n lb lcap cs v kk hkk (f + a + (i : Int)) (sealL e (a + i) p) (by omega)) [1, 1, 1] [] rfl rfl [3] (by rintro v post ⟨rfl, lcs1, uw1, h1, rfl⟩; exact ⟨_, rfl⟩) ?_
     rintro v post ⟨rfl, lcs1, uw1, h1, rfl⟩
     show GH _ _ _ _ _ _ _ [_, _, _, _, _] _
     refine GH_take 19 rfl rfl rfl rfl (by kernel_rfl) (by kernel_rfl) (by kernel_rfl) (fun _ _ => (V_assign rfl rfl)) ?_
     refine GH_done (by kernel_rfl) ?_
     refine G_seq ?_
     refine G_region (l := [0, 1]) rfl ?_
     refine G_val rfl rfl rfl rfl (V_move rfl rfl) ?_
     refine G_val rfl rfl rfl rfl (V_neq rfl rfl rfl) ?_
     refine G_done ?_
     refine G_ifD rfl (fun hc5 => ?_) (fun hc5 => ?_)
     ·
      refine G_seq ?_
      refine G_region (l := [0, 1]) rfl ?_
      refine G_val rfl rfl rfl rfl (V_move rfl rfl) ?_
      refine G_val rfl rfl rfl rfl (V_assign rfl rfl) ?_
      refine G_done ?_
      refine G_ret (post := [_, _, _, _]) Tryz.func41 rfl (RVs_cons (RV_tmp rfl) RVs_nil) [3, 0, 0, 0] rfl ?_
      dsimp only [packed]
      first
        | (suffices hz : ¬ s.length ≤ 1000 by (obtain ⟨e1, e2, e3⟩ := app_long (k := k) (f := f) (b := b) (e := e) (a := a) (s := s) hz; rw [e1, e2, e3]; exact ⟨rfl, lcs, uw, h, rfl⟩)
           assumption)
        | (suffices hz : s.length ≤ 1000 ∧ ¬ fitsL (b - (a : Int)) s by (obtain ⟨e1, e2, e3⟩ := app_full (k := k) (f := f) (b := b) (e := e) (a := a) (s := s) hz.1 hz.2; rw [e1, e2, e3]; exact ⟨rfl, lcs, uw, h, rfl⟩)
           exact ⟨by assumption, by simpa using hc2⟩)
        | (suffices hz : ¬ kk.writeE (f + a + (i : Int)) (sealL e (a + i) p) = 0 by (obtain ⟨e1, e2, e3⟩ := app_stop (k := k) hfit hwr hxb hz; rw [e1, e2, e3]; exact ⟨rfl, lcs1, uw1, h1, rfl⟩)
           assumption)
        | (suffices hz : manyN s.length ≤ i by (obtain ⟨e1, e2, e3⟩ := app_end (k := k) hfit hwr hz; rw [e1, e2, e3]; exact ⟨rfl, cs, v, hkk, rfl⟩)
           omega)
     refine G_skip ?_
     refine G_inBlock ?_
     refine G_region (l := [0, 1]) rfl ?_
     refine G_val rfl rfl rfl rfl ((V_add rfl rfl rfl).int (wrap_i64 (by omega))) ?_
     refine G_val rfl rfl rfl rfl (V_move rfl rfl) ?_
     refine G_done ?_
     refine G_sub ?_ [3, 0, 0, 0, 0] ?_ (ih (i + 1, kk.write (f + a + (i : Int)) (sealL e (a + i) p), lcs1, uw1) ?_ ?_)
     · (refine (And.intro ?_ (And.intro ?_ (And.intro ?_ (And.intro ?_ (And.intro ?_ (And.intro ?_ trivial)))))) <;> first | rfl | exact slot_int (by omega) | exact slot_int (by simp))
     · exact ⟨_, rfl⟩
     · exact ⟨by omega, h1, wrs_next hwr hxb (by omega), by show (kk.write (f + a + (i : Int)) (sealL e (a + i) p)).W.length ≤ k.W.length + (i + 1); have := write_W kk (f + a + (i : Int)) (sealL e (a + i) p); omega⟩
     · (first | omega | (dsimp only; omega))
   refine G_exit rfl ?_
   refine G_seq ?_
   refine G_region (l := [0, 1, 2, 3, 4, 5, 6, 7, 8, 9]) rfl ?_
   refine G_val rfl rfl rfl rfl (V_move rfl rfl) ?_
   refine G_val rfl rfl rfl rfl (V_nilCheck rfl rfl) ?_
   refine G_val rfl rfl rfl rfl (V_fieldAddr (fo := 4) rfl Tryz.underlying117 rfl infLogW_3 rfl rfl rfl) ?_
   refine G_val rfl rfl rfl rfl (V_load1 rfl rfl (mem_at 0 rfl) rfl Tryz.underlying3 rfl) ?_
   refine G_val rfl rfl rfl rfl (V_move rfl rfl) ?_
   refine G_val rfl rfl rfl rfl (V_len rfl rfl Tryz.underlying34 rfl) ?_
   refine G_val rfl rfl rfl rfl (Val.int (e' := ((a + manyN s.length : Nat) : Int)) (V_add rfl rfl rfl) (by rw [wrap_i64 (by omega)]; omega)) ?_
   refine G_val rfl rfl rfl rfl (V_nilCheck rfl rfl) ?_
   refine G_val rfl rfl rfl rfl (V_fieldAddr (fo := 4) rfl Tryz.underlying117 rfl infLogW_3 rfl rfl rfl) ?_
   refine G_put (l1 := []) (L' := [_, _, _, _, _]) rfl rfl rfl rfl (P_store1 rfl rfl rfl (mem_at 0 rfl) (by first | exact of_decide_eq_true rfl | omega | (simp [wCells, kCells, rgC, lgC, rdC]; done) | (simp [wCells, kCells, rgC, lgC, rdC]; omega) | (simp [wCells, kCells, rgC, lgC, rdC] at *; omega)) infLogW_3 rfl rfl) rfl ?_
   refine G_done ?_
   refine G_seq ?_
   refine G_region (l := [0]) rfl ?_
   refine G_val rfl rfl rfl rfl (V_assign rfl rfl) ?_
   refine G_done ?_
   refine G_ret (post := [_, _, _, _]) Tryz.func41 rfl (RVs_cons (RV_tmp rfl) RVs_nil) [0, 0, 0, 0] rfl ?_
   dsimp only [packed]
   first
     | (suffices hz : ¬ s.length ≤ 1000 by (obtain ⟨e1, e2, e3⟩ := app_long (k := k) (f := f) (b := b) (e := e) (a := a) (s := s) hz; rw [e1, e2, e3]; exact ⟨rfl, lcs, uw, h, rfl⟩)
        assumption)
     | (suffices hz : s.length ≤ 1000 ∧ ¬ fitsL (b - (a : Int)) s by (obtain ⟨e1, e2, e3⟩ := app_full (k := k) (f := f) (b := b) (e := e) (a := a) (s := s) hz.1 hz.2; rw [e1, e2, e3]; exact ⟨rfl, lcs, uw, h, rfl⟩)
        exact ⟨by assumption, by simpa using hc2⟩)
     | (suffices hz : ¬ kk.writeE (f + a + (i : Int)) (sealL e (a + i) p) = 0 by (obtain ⟨e1, e2, e3⟩ := app_stop (k := k) hfit hwr hxb hz; rw [e1, e2, e3]; exact ⟨rfl, lcs1, uw1, h1, rfl⟩)
        assumption)
     | (suffices hz : manyN s.length ≤ i by (obtain ⟨e1, e2, e3⟩ := app_end (k := k) hfit hwr hz; rw [e1, e2, e3]; exact ⟨rfl, cs, v, hkk, rfl⟩)
        omega)
 ·
  refine G_region (l := [0, 1, 2, 3, 4, 5, 6]) rfl ?_
  refine G_val rfl rfl rfl rfl (V_move rfl rfl) ?_
  refine G_call (L2 := [_, _, _, _]) rfl rfl rfl rfl rfl rfl Tryz.call62 ((fr_encode s (by omega)).weaken (fun v post h => by rw [(encF_no hle).1, (encF_no hle).2] at h; exact h)) [] [] rfl rfl ?_
  rintro v post ⟨u, hu, rfl, rfl⟩
  show G _ _ _ [_, _, _, _, _] _
  refine G_val rfl rfl rfl rfl (V_move rfl rfl) ?_
  refine G_val rfl rfl rfl rfl (V_extract rfl rfl rfl) ?_
  refine G_val rfl rfl rfl rfl (V_extract rfl rfl rfl) ?_
  refine G_val rfl rfl rfl rfl (V_assign rfl rfl) ?_
  refine G_val rfl rfl rfl rfl (V_assign rfl rfl) ?_
  refine G_done ?_
  refine G_seq ?_
  refine G_block ?_
  refine G_seq ?_
  refine G_region (l := [0, 1, 2]) rfl ?_
  refine G_val rfl rfl rfl rfl (V_move rfl rfl) ?_
  refine G_val rfl rfl rfl rfl (V_neq rfl rfl rfl) ?_
  refine G_val rfl rfl rfl rfl (V_assign rfl rfl) ?_
  refine G_done ?_
  refine G_ifD rfl (fun hc1 => ?_) (fun hc1 => ?_)
  rotate_left
  · (first | (exact absurd rfl hc1) | (exact absurd hc1 (by decide)) | (exfalso; omega))
  refine G_seq ?_
  refine G_region (l := [0, 1]) rfl ?_
  refine G_val rfl rfl rfl rfl (V_move rfl rfl) ?_
  refine G_val rfl rfl rfl rfl (V_assign rfl rfl) ?_
  refine G_done ?_
  refine G_ret (post := [_, _, _, _]) Tryz.func41 rfl (RVs_cons (RV_tmp rfl) RVs_nil) [1, 1, 1, 1] rfl ?_
  dsimp only [packed]
  first
    | (suffices hz : ¬ s.length ≤ 1000 by (obtain ⟨e1, e2, e3⟩ := app_long (k := k) (f := f) (b := b) (e := e) (a := a) (s := s) hz; rw [e1, e2, e3]; exact ⟨rfl, lcs, uw, h, rfl⟩)
       assumption)
    | (suffices hz : s.length ≤ 1000 ∧ ¬ fitsL (b - (a : Int)) s by (obtain ⟨e1, e2, e3⟩ := app_full (k := k) (f := f) (b := b) (e := e) (a := a) (s := s) hz.1 hz.2; rw [e1, e2, e3]; exact ⟨rfl, lcs, uw, h, rfl⟩)
       exact ⟨by assumption, by simpa using hc2⟩)
    | (suffices hz : ¬ kk.writeE (f + a + (i : Int)) (sealL e (a + i) p) = 0 by (obtain ⟨e1, e2, e3⟩ := app_stop (k := k) hfit hwr hxb hz; rw [e1, e2, e3]; exact ⟨rfl, lcs1, uw1, h1, rfl⟩)
       assumption)
    | (suffices hz : manyN s.length ≤ i by (obtain ⟨e1, e2, e3⟩ := app_end (k := k) hfit hwr hz; rw [e1, e2, e3]; exact ⟨rfl, cs, v, hkk, rfl⟩)
       omega)

set_option maxRecDepth 100000 in
set_option maxHeartbeats 1000000 in
theorem lg_append_nil (x : Value) :
    Ct Tryz.prog 41 [.pointer none, x] [] [] fun v post => v = .int .i64 19 ∧ post = [] := by
 refine ct_of Tryz.func41 rfl rfl (fun w0 => ?_)
 show G _ _ [(0, _), (1, _)] _ _
 refine G_seq ?_
 refine G_region (l := [0]) rfl ?_
 refine G_val rfl rfl rfl rfl (V_assign rfl rfl) ?_
 refine G_done ?_
 refine G_seq ?_
 refine G_seq ?_
 refine G_region (l := [0, 1]) rfl ?_
 refine G_val rfl rfl rfl rfl (V_move rfl rfl) ?_
 refine G_val rfl rfl rfl rfl (V_peqlN rfl Tryz.underlying82 rfl rfl) ?_
 refine G_done ?_
 refine G_then rfl ?_
 refine G_seq ?_
 refine G_region (l := [0]) rfl ?_
 refine G_val rfl rfl rfl rfl (V_assign rfl rfl) ?_
 refine G_done ?_
 refine G_ret (post := []) Tryz.func41 rfl (RVs_cons (RV_tmp rfl) RVs_nil) [] rfl ?_
 dsimp only [packed]
 exact ⟨rfl, rfl⟩

end
end Go.Proofs.YtbblkgdejgoncaaGreatDoor

/- The walks of layer 26, on: what reads a log. -/
set_option linter.unusedSimpArgs false
set_option linter.unusedVariables false
namespace Go.Proofs.YtbblkgdejgoncaaGreatDoor
open Go Go.RowKit

section
theorem infLogX_3 : Tryz.prog.info? 3 = some Tryz.t3 := by kernel_rfl
theorem infLogX_9 : Tryz.prog.info? 9 = some Tryz.t9 := by kernel_rfl
theorem infLogX_26 : Tryz.prog.info? 26 = some Tryz.t26 := by kernel_rfl
theorem infLogX_27 : Tryz.prog.info? 27 = some Tryz.t27 := by kernel_rfl
theorem infLogX_50 : Tryz.prog.info? 50 = some Tryz.t50 := by kernel_rfl
theorem infLogX_115 : Tryz.prog.info? 115 = some Tryz.t115 := by kernel_rfl


theorem blk_small {rb : List (List UInt8)} {i : Nat} {x : List UInt8} (h : rb.getD i [] = x) : pE rb i = openE x ∧ pD rb i = openD x ∧ pOk rb i = (openOk x && decide (openI x = i)) := by
  subst h; exact ⟨rfl, rfl, rfl⟩
theorem pOk_yes {rb : List (List UInt8)} {i : Nat} {x : List UInt8} (h : rb.getD i [] = x) (h1 : openOk x = true) (h2 : ((openI x : Nat) : Int) = (i : Int)) : pOk rb i = true := by
  rw [(blk_small h).2.2, h1, decide_eq_true (by omega)]; rfl
theorem pOk_no1 {rb : List (List UInt8)} {i : Nat} {x : List UInt8} (h : rb.getD i [] = x) (h1 : openOk x = false) : pOk rb i = false := by
  rw [(blk_small h).2.2, h1]; rfl
theorem pOk_no2 {rb : List (List UInt8)} {i : Nat} {x : List UInt8} (h : rb.getD i [] = x) (h2 : ¬ ((openI x : Nat) : Int) = (i : Int)) : pOk rb i = false := by
  rw [(blk_small h).2.2, decide_eq_false (by omega), Bool.and_false]
theorem pOk_dec {rb : List (List UInt8)} {i : Nat} {x : List UInt8} (h : rb.getD i [] = x) (h1 : openOk x = true) : pOk rb i = decide (((openI x : Nat) : Int) = (i : Int)) := by
  rw [(blk_small h).2.2, h1, Bool.true_and]; exact decide_eq_decide.2 (by omega)

set_option maxRecDepth 100000 in
set_option maxHeartbeats 1000000 in
theorem rd_block (d n lb lcap : Nat) (lcs : Array Value) (uw : Sl) (k : Dk) (h : DkAt k n lb lcs lcap uw) (r : Nat) (f b : Int) (base e a : Nat) (hr : rgE n f b = 0) (hd : k.dead = false) (i : Nat) (hi : i ≤ 1000000) :
    Ct Tryz.prog 106 [.pointer (some ⟨r, 0, none⟩), .int .i64 (i : Int)] [(some r, .cells (rdC d f b base e a).toArray 137 (0, 0)), (some d, .cells #[.slice (some ⟨lb, 0, none⟩) n lcap, uw.v k.W.length, .int .i64 k.fuse, .bool k.dead] 67 (0, 0)), (some lb, .cells lcs 9 (0, 0)), (uw.ob, .cells uw.cs 90 uw.fz)] [] fun v post => v = .tuple #[.int .u32 ((pE (rdB k f b.toNat) i : Nat) : Int), .string (bs (pD (rdB k f b.toNat) i)), .bool (pOk (rdB k f b.toNat) i)] ∧ post = [] := by
 have hq := h.bd
 have hq1 := hq.n1
 have hq2 := hq.n4
 have hq3 := hq.ncs
 have hq4 := hq.ncap
 have hq5 := hq.cap
 have hq6 := hq.w
 have hq7 := hq.wc
 have hln := h.len
 have hr1 := hr
 rw [rgE_ok] at hr1
 obtain ⟨hr2, hr3, hr4⟩ := hr1
 have hrl := rdB_len k f b.toNat
 refine ct_of Tryz.func106 rfl rfl (fun w0 => ?_)
 show G _ _ [(0, _), (1, _)] _ _
 refine G_seq ?_
 refine G_region (l := [0, 1, 2]) rfl ?_
 refine G_val rfl rfl rfl rfl (V_assign rfl rfl) ?_
 refine G_val rfl rfl rfl rfl (V_assign rfl rfl) ?_
 refine G_val rfl rfl rfl rfl (V_assign rfl rfl) ?_
 refine G_done ?_
 refine G_seq ?_
 refine G_seq ?_
 refine G_region (l := [0, 1, 2, 3, 4, 5, 6]) rfl ?_
 refine G_val rfl rfl rfl rfl (V_move rfl rfl) ?_
 refine G_val rfl rfl rfl rfl (V_move rfl rfl) ?_
 refine G_val rfl rfl rfl rfl (V_nilCheck rfl rfl) ?_
 refine G_val rfl rfl rfl rfl (V_fieldAddr (fo := 0) rfl Tryz.underlying137 rfl infLogX_115 rfl rfl rfl) ?_
 refine G_val rfl rfl rfl rfl (V_fieldAddr (fo := 2) rfl Tryz.underlying115 rfl infLogX_3 rfl rfl rfl) ?_
 refine G_val rfl rfl rfl rfl (V_load1 rfl rfl (mem_at 0 rfl) rfl Tryz.underlying3 rfl) ?_
 refine G_val rfl rfl rfl rfl (V_geq rfl rfl rfl) ?_
 refine G_done ?_
 refine G_ifD rfl (fun hc1 => ?_) (fun hc1 => ?_)
 ·
  refine G_seq ?_
  refine G_region (l := [0, 1, 2]) rfl ?_
  refine G_val rfl rfl rfl rfl (V_assign rfl rfl) ?_
  refine G_val rfl rfl rfl rfl (V_assign rfl rfl) ?_
  refine G_val rfl rfl rfl rfl (V_assign rfl rfl) ?_
  refine G_done ?_
  refine G_ret (post := []) Tryz.func106 rfl (RVs_cons (RV_tmp rfl) (RVs_cons (RV_tmp rfl) (RVs_cons (RV_tmp rfl) RVs_nil))) [] rfl ?_
  dsimp only [packed]
  first
    | (suffices hz : b.toNat ≤ i by (obtain ⟨e1, e2, e3⟩ := pOk_big (rb := (rdB k f b.toNat)) (i := i) (by omega); rw [e1, e2, e3]; exact ⟨rfl, rfl⟩)
       omega)
    | (obtain ⟨e1, e2, e3⟩ := blk_small hbg; rw [e1, e2, pOk_dec hbg (by assumption)]; exact ⟨rfl, rfl⟩)
    | (obtain ⟨e1, e2, e3⟩ := blk_small hbg; rw [e1, e2, pOk_no1 hbg (by assumption)]; exact ⟨rfl, rfl⟩)
 refine G_skip ?_
 refine G_seq ?_
 have hib : i < b.toNat := by omega
 have hre : k.readE (f + (i : Int)) = 0 := (read_yes (hasE_ok.2 (by omega)) (by rw [hd]; exact Bool.false_ne_true)).1
 have hbg := rdB_get (k := k) (f := f) hib
 have hr64 := readS_len h.ok (f + (i : Int))
 refine G_draw mixedK (by kernel_rfl) ?_
 refine GQ_val rfl rfl rfl rfl (V_move rfl rfl) ?_
 refine GQ_val rfl rfl rfl rfl (V_nilCheck rfl rfl) ?_
 refine GQ_val rfl rfl rfl rfl (V_fieldAddr (fo := 0) rfl Tryz.underlying137 rfl infLogX_115 rfl rfl rfl) ?_
 refine GQ_val rfl rfl rfl rfl (V_fieldAddr (fo := 0) rfl Tryz.underlying115 rfl infLogX_26 rfl rfl rfl) ?_
 refine GQ_val rfl rfl rfl rfl (V_load1 rfl rfl (mem_at 0 rfl) rfl Tryz.underlying26 rfl) ?_
 refine GQ_val rfl rfl rfl rfl (V_move rfl rfl) ?_
 refine GQ_val rfl rfl rfl rfl (V_nilCheck rfl rfl) ?_
 refine GQ_val rfl rfl rfl rfl (V_fieldAddr (fo := 0) rfl Tryz.underlying137 rfl infLogX_115 rfl rfl rfl) ?_
 refine GQ_val rfl rfl rfl rfl (V_fieldAddr (fo := 1) rfl Tryz.underlying115 rfl infLogX_3 rfl rfl rfl) ?_
 refine GQ_val rfl rfl rfl rfl (V_load1 rfl rfl (mem_at 0 rfl) rfl Tryz.underlying3 rfl) ?_
 refine GQ_val rfl rfl rfl rfl (V_move rfl rfl) ?_
 refine GQ_val rfl rfl rfl rfl ((V_add rfl rfl rfl).int (wrap_i64 (by omega))) ?_
 refine GQ_call rfl rfl rfl rfl rfl rfl Tryz.call73 ((dk_read d n lb lcap lcs uw k h (f + (i : Int))).weaken (fun v post h => by rw [hre] at h; exact h)) [1, 2, 3] rfl (fun v post hp => (hp : _ ∧ _).1) ?_
 refine GQ_val rfl rfl rfl rfl (V_move rfl rfl) ?_
 refine GQ_val rfl rfl rfl rfl (V_extract rfl rfl rfl) ?_
 refine GQ_val rfl rfl rfl rfl (V_extract rfl rfl rfl) ?_
 refine GQ_val rfl rfl rfl rfl (V_assign rfl rfl) ?_
 refine GQ_val rfl rfl rfl rfl (V_assign rfl rfl) ?_
 refine GQ_done rfl ?_
 refine G_seq ?_
 refine G_seq ?_
 refine G_region (l := [0, 1]) rfl ?_
 refine G_val rfl rfl rfl rfl (V_move rfl rfl) ?_
 refine G_val rfl rfl rfl rfl (V_neq rfl rfl rfl) ?_
 refine G_done ?_
 refine G_ifD rfl (fun hc2 => ?_) (fun hc2 => ?_)
 · (first | (exact absurd rfl hc2) | (exfalso; omega))
 refine G_skip ?_
 refine G_seq ?_
 have hq1 := openE_lt (k.readS (f + (i : Int)))
 have hq2 := openI_lt (k.readS (f + (i : Int)))
 refine G_region (l := [0, 1, 2, 3, 4, 5, 6, 7, 8, 9, 10]) rfl ?_
 refine G_val rfl rfl rfl rfl (V_move rfl rfl) ?_
 refine G_call (L2 := []) rfl rfl rfl rfl rfl rfl Tryz.call75 (seal_open _ (by first | omega | (simp; omega))) [] [] rfl rfl ?_
 rintro v post ⟨rfl, rfl⟩
 refine G_val rfl rfl rfl rfl (V_move rfl rfl) ?_
 refine G_val rfl rfl rfl rfl (V_extract rfl rfl rfl) ?_
 refine G_val rfl rfl rfl rfl (V_extract rfl rfl rfl) ?_
 refine G_val rfl rfl rfl rfl (V_extract rfl rfl rfl) ?_
 refine G_val rfl rfl rfl rfl (V_extract rfl rfl rfl) ?_
 refine G_val rfl rfl rfl rfl (V_assign rfl rfl) ?_
 refine G_val rfl rfl rfl rfl (V_assign rfl rfl) ?_
 refine G_val rfl rfl rfl rfl (V_assign rfl rfl) ?_
 refine G_val rfl rfl rfl rfl (V_assign rfl rfl) ?_
 refine G_done ?_
 refine G_seq ?_
 refine G_region (l := [0, 1, 2, 3, 4, 5, 6, 7, 8, 9, 10, 11]) rfl ?_
 refine G_val rfl rfl rfl rfl (V_move rfl rfl) ?_
 refine G_val rfl rfl rfl rfl (V_move rfl rfl) ?_
 refine G_val rfl rfl rfl rfl (V_move rfl rfl) ?_
 refine G_val rfl rfl rfl rfl (V_move rfl rfl) ?_
 refine G_split 52 rfl (fun hc3 => ?_) (fun hc3 => ?_)
 ·
  refine G_val rfl rfl rfl rfl (V_move rfl rfl) ?_
  refine G_val rfl rfl rfl rfl (V_move rfl rfl) ?_
  refine G_val rfl rfl rfl rfl ((V_conv rfl rfl Tryz.underlying3 Tryz.underlying50).int (wrap_u32 (by omega))) ?_
  refine G_val rfl rfl rfl rfl (V_eql rfl rfl rfl) ?_
  refine G_val rfl rfl rfl rfl (V_pickT rfl rfl rfl) ?_
  refine G_val rfl rfl rfl rfl (V_assign rfl rfl) ?_
  refine G_val rfl rfl rfl rfl (V_assign rfl rfl) ?_
  refine G_val rfl rfl rfl rfl (V_assign rfl rfl) ?_
  refine G_done ?_
  refine G_ret (post := []) Tryz.func106 rfl (RVs_cons (RV_tmp rfl) (RVs_cons (RV_tmp rfl) (RVs_cons (RV_tmp rfl) RVs_nil))) [] rfl ?_
  dsimp only [packed]
  first
    | (suffices hz : b.toNat ≤ i by (obtain ⟨e1, e2, e3⟩ := pOk_big (rb := (rdB k f b.toNat)) (i := i) (by omega); rw [e1, e2, e3]; exact ⟨rfl, rfl⟩)
       omega)
    | (obtain ⟨e1, e2, e3⟩ := blk_small hbg; rw [e1, e2, pOk_dec hbg (by assumption)]; exact ⟨rfl, rfl⟩)
    | (obtain ⟨e1, e2, e3⟩ := blk_small hbg; rw [e1, e2, pOk_no1 hbg (by assumption)]; exact ⟨rfl, rfl⟩)
 refine G_off rfl rfl rfl rfl ?_
 refine G_off rfl rfl rfl rfl ?_
 refine G_off rfl rfl rfl rfl ?_
 refine G_off rfl rfl rfl rfl ?_
 refine G_val rfl rfl rfl rfl (V_pickF rfl rfl rfl) ?_
 refine G_val rfl rfl rfl rfl (V_assign rfl rfl) ?_
 refine G_val rfl rfl rfl rfl (V_assign rfl rfl) ?_
 refine G_val rfl rfl rfl rfl (V_assign rfl rfl) ?_
 refine G_done ?_
 refine G_ret (post := []) Tryz.func106 rfl (RVs_cons (RV_tmp rfl) (RVs_cons (RV_tmp rfl) (RVs_cons (RV_tmp rfl) RVs_nil))) [] rfl ?_
 dsimp only [packed]
 first
   | (suffices hz : b.toNat ≤ i by (obtain ⟨e1, e2, e3⟩ := pOk_big (rb := (rdB k f b.toNat)) (i := i) (by omega); rw [e1, e2, e3]; exact ⟨rfl, rfl⟩)
      omega)
   | (obtain ⟨e1, e2, e3⟩ := blk_small hbg; rw [e1, e2, pOk_dec hbg (by assumption)]; exact ⟨rfl, rfl⟩)
   | (obtain ⟨e1, e2, e3⟩ := blk_small hbg; rw [e1, e2, pOk_no1 hbg (by assumption)]; exact ⟨rfl, rfl⟩)


theorem rc_no1 {rb : List (List UInt8)} {base e a : Nat} (h : pOk rb a = false) : ¬ rcOk rb base e a := fun x => Bool.false_ne_true (h.symm.trans x.1)
theorem rc_no2 {rb : List (List UInt8)} {base e a : Nat} (h : (pE rb a : Int) < (base : Int)) : ¬ rcOk rb base e a := fun x => by have := x.2.1; omega
theorem rc_no3 {rb : List (List UInt8)} {base e a : Nat} (h : (e : Int) < (pE rb a : Int)) : ¬ rcOk rb base e a := fun x => by have := x.2.2.1; omega
theorem rc_no4 {rb : List (List UInt8)} {base e a : Nat} (h : ¬ sizeFE (pD rb a) = 0) : ¬ rcOk rb base e a := fun x => h x.2.2.2.1
theorem rc_no5 {rb : List (List UInt8)} {base e a j : Nat} (hj : j < rcM rb a) (h : ¬ (pOk rb (a + j) = true ∧ pE rb (a + j) = pE rb a)) : ¬ rcOk rb base e a := fun x => h (x.2.2.2.2.1 j hj)
theorem rc_no6 {rb : List (List UInt8)} {base e a : Nat} (h : ¬ decE (rcTo rb a (rcM rb a)) = 0) : ¬ rcOk rb base e a := fun x => h x.2.2.2.2.2
theorem rcGo_one (rb : List (List UInt8)) (a : Nat) (h : pOk rb a = true) : rcGo rb a 1 := fun j hj => by
  obtain rfl : j = 0 := by omega
  exact ⟨h, rfl⟩
theorem rcGo_next {rb : List (List UInt8)} {a m : Nat} (h : rcGo rb a m) (h1 : pOk rb (a + m) = true) (h2 : pE rb (a + m) = pE rb a) : rcGo rb a (m + 1) := fun j hj => by
  rcases Nat.lt_or_ge j m with h3 | h3
  · exact h j h3
  · obtain rfl : j = m := by omega
    exact ⟨h1, h2⟩
theorem rcTo_48 {rb : List (List UInt8)} {a m : Nat} (h : rcGo rb a m) : ∀ x ∈ rcTo rb a m, x.length ≤ 9223372036854775807 := by
  intro x hx
  simp only [rcTo, List.mem_map, List.mem_range] at hx
  obtain ⟨j, hj, rfl⟩ := hx
  have := pD_len (h j hj).1
  omega
theorem rcTo_nextS (rb : List (List UInt8)) (a m : Nat) : (rcTo rb a m).map strC ++ [strC (pD rb (a + m))] = (rcTo rb a (m + 1)).map strC := by rw [rcTo_next, List.map_append]; rfl
theorem dec_lenT {rb : List (List UInt8)} {a : Nat} (h : decE (rcTo rb a (rcM rb a)) = 0) : decM (rcTo rb a (rcM rb a)) = rcM rb a := rc_decM h
attribute [local irreducible] rcTo rcM pOk pE pD decS decM decE sizeF sizeFE
theorem one_own {b9 : Nat} {x : List UInt8} : Own 1 ⟨some b9, #[.string (bs x)], (0, 0), 1⟩ [strC x] 1 := ⟨rfl, by simp, by simp, rfl, rfl, by simp, fun h => by cases h⟩


theorem dec_to (u : Sl) (rb : List (List UInt8)) (a m : Nat) (h : Own 1 u ((rcTo rb a m).map strC) m) (hl : ∀ x ∈ rcTo rb a m, x.length ≤ 9223372036854775807) : Ct Tryz.prog 108 [u.v m] [(u.ob, .cells u.cs 9 u.fz)] [] (fun v post => v = .tuple #[.string (bs (decS (rcTo rb a m))), .int .i64 (decM (rcTo rb a m) : Int), .int .i64 (decE (rcTo rb a m))] ∧ post = []) := by
  have hq := fr_decode u.ob 0 u.cap u.cs 9 u.fz (rcTo rb a m) (by rw [rcTo_len]; exact h.sees) hl
  rw [rcTo_len] at hq
  exact hq

set_option maxRecDepth 100000 in
set_option maxHeartbeats 4000000 in
theorem rd_record (d n lb lcap : Nat) (lcs : Array Value) (uw : Sl) (k : Dk) (h : DkAt k n lb lcs lcap uw) (r : Nat) (f b : Int) (base e a : Nat) (hr : rgE n f b = 0) (hd : k.dead = false) (hbs : base < 4294967296) (he : e < 4294967296) (hab : a ≤ b.toNat) :
    Ct Tryz.prog 98 [.pointer (some ⟨r, 0, none⟩)] [(some d, .cells #[.slice (some ⟨lb, 0, none⟩) n lcap, uw.v k.W.length, .int .i64 k.fuse, .bool k.dead] 67 (0, 0)), (some lb, .cells lcs 9 (0, 0)), (uw.ob, .cells uw.cs 90 uw.fz)] [(some r, .cells (rdC d f b base e a).toArray 137 (0, 0))] fun v post => (rcOk (rdB k f b.toNat) base e a ∧ v = .tuple #[.string (bs (rcS (rdB k f b.toNat) a)), .int .u32 ((pE (rdB k f b.toNat) a : Nat) : Int), .bool true] ∧ post = [(some r, .cells (rdC d f b base e (a + rcM (rdB k f b.toNat) a)).toArray 137 (0, 0))]) ∨ (¬ rcOk (rdB k f b.toNat) base e a ∧ v = .tuple #[.string (bs []), .int .u32 0, .bool false] ∧ post = [(some r, .cells (rdC d f b base e a).toArray 137 (0, 0))]) := by
 have hq := h.bd
 have hq1 := hq.n1
 have hq2 := hq.n4
 have hq3 := hq.ncs
 have hq4 := hq.ncap
 have hq5 := hq.cap
 have hq6 := hq.w
 have hq7 := hq.wc
 have hln := h.len
 have hr1 := hr
 rw [rgE_ok] at hr1
 obtain ⟨hr2, hr3, hr4⟩ := hr1
 have hrl := rdB_len k f b.toNat
 have hm21 := rcM_le (rdB k f b.toNat) a
 have hmp := rcM_pos (rdB k f b.toNat) a
 refine ct_of Tryz.func98 rfl rfl (fun w0 => ?_)
 show G _ _ [(0, _)] _ _
 refine G_seq ?_
 refine G_region (l := [0, 1, 2]) rfl ?_
 refine G_val rfl rfl rfl rfl (V_assign rfl rfl) ?_
 refine G_val rfl rfl rfl rfl (V_assign rfl rfl) ?_
 refine G_val rfl rfl rfl rfl (V_assign rfl rfl) ?_
 refine G_done ?_
 refine G_seq ?_
 refine G_region (l := [0, 1, 2, 3, 4, 5, 6, 7, 8, 9, 10, 11, 12]) rfl ?_
 refine G_val rfl rfl rfl rfl (V_move rfl rfl) ?_
 refine G_val rfl rfl rfl rfl (V_move rfl rfl) ?_
 refine G_val rfl rfl rfl rfl (V_nilCheck rfl rfl) ?_
 refine G_val rfl rfl rfl rfl (V_fieldAddr (fo := 5) rfl Tryz.underlying137 rfl infLogX_3 rfl rfl rfl) ?_
 refine G_val rfl rfl rfl rfl (V_load1 rfl rfl (mem_at 3 rfl) rfl Tryz.underlying3 rfl) ?_
 refine G_call (L2 := [_]) rfl rfl rfl rfl rfl rfl Tryz.call106 (rd_block d n lb lcap lcs uw k h r f b base e a hr hd a (by omega)) [] [3, 0, 1, 2] rfl rfl ?_
 rintro v post ⟨rfl, rfl⟩
 show G _ _ _ [_] _
 refine G_val rfl rfl rfl rfl (V_move rfl rfl) ?_
 refine G_val rfl rfl rfl rfl (V_extract rfl rfl rfl) ?_
 refine G_val rfl rfl rfl rfl (V_extract rfl rfl rfl) ?_
 refine G_val rfl rfl rfl rfl (V_extract rfl rfl rfl) ?_
 refine G_val rfl rfl rfl rfl (V_assign rfl rfl) ?_
 refine G_val rfl rfl rfl rfl (V_assign rfl rfl) ?_
 refine G_val rfl rfl rfl rfl (V_assign rfl rfl) ?_
 refine G_done ?_
 refine G_seq ?_
 refine G_seq ?_
 refine G_region (l := [0, 1, 2, 3, 4, 5, 6, 7, 8, 9, 10, 11, 12, 13, 14, 15, 16, 17]) rfl ?_
 refine G_val rfl rfl rfl rfl (V_move rfl rfl) ?_
 refine G_val rfl rfl rfl rfl (V_not rfl rfl) ?_
 refine G_val rfl rfl rfl rfl (V_move rfl rfl) ?_
 refine G_split 28 rfl (fun hc1 => ?_) (fun hc1 => ?_)
 ·
  refine G_off rfl rfl rfl rfl ?_
  refine G_off rfl rfl rfl rfl ?_
  refine G_off rfl rfl rfl rfl ?_
  refine G_off rfl rfl rfl rfl ?_
  refine G_off rfl rfl rfl rfl ?_
  refine G_off rfl rfl rfl rfl ?_
  refine G_val rfl rfl rfl rfl (V_pickT rfl rfl rfl) ?_
  refine G_val rfl rfl rfl rfl (V_move rfl rfl) ?_
  refine G_off rfl rfl rfl rfl ?_
  refine G_off rfl rfl rfl rfl ?_
  refine G_off rfl rfl rfl rfl ?_
  refine G_off rfl rfl rfl rfl ?_
  refine G_off rfl rfl rfl rfl ?_
  refine G_off rfl rfl rfl rfl ?_
  refine G_val rfl rfl rfl rfl (V_pickT rfl rfl rfl) ?_
  refine G_done ?_
  refine G_then rfl ?_
  refine G_seq ?_
  refine G_region (l := [0, 1, 2]) rfl ?_
  refine G_val rfl rfl rfl rfl (V_assign rfl rfl) ?_
  refine G_val rfl rfl rfl rfl (V_assign rfl rfl) ?_
  refine G_val rfl rfl rfl rfl (V_assign rfl rfl) ?_
  refine G_done ?_
  refine G_ret (post := [_]) Tryz.func98 rfl (RVs_cons (RV_tmp rfl) (RVs_cons (RV_tmp rfl) (RVs_cons (RV_tmp rfl) RVs_nil))) [0] rfl ?_
  dsimp only [packed]
  first
    | (suffices hz : pOk (rdB k f b.toNat) a = false by exact .inr ⟨rc_no1 hz, rfl, rfl⟩
       have hq := ‹(!pOk (rdB k f b.toNat) a) = true›
       simpa using hq)
    | (suffices hz : (pE (rdB k f b.toNat) a : Int) < (base : Int) by exact .inr ⟨rc_no2 hz, rfl, rfl⟩
       omega)
    | (suffices hz : (e : Int) < (pE (rdB k f b.toNat) a : Int) by exact .inr ⟨rc_no3 hz, rfl, rfl⟩
       omega)
    | (suffices hz : ¬ sizeFE (pD (rdB k f b.toNat) a) = 0 by exact .inr ⟨rc_no4 hz, rfl, rfl⟩
       assumption)
    | (suffices hz : i < rcM (rdB k f b.toNat) a ∧ ¬ (pOk (rdB k f b.toNat) (a + i) = true ∧ pE (rdB k f b.toNat) (a + i) = pE (rdB k f b.toNat) a) by exact .inr ⟨rc_no5 hz.1 hz.2, rfl, rfl⟩
       exact ⟨by omega, by rintro ⟨x1, x2⟩; first | omega | exact absurd ‹(!pOk (rdB k f b.toNat) (a + i)) = true› (by rw [x1]; decide)⟩)
    | (suffices hz : ¬ decE (rcTo (rdB k f b.toNat) a (rcM (rdB k f b.toNat) a)) = 0 by exact .inr ⟨rc_no6 hz, rfl, rfl⟩
       assumption)
    | exact .inl ⟨⟨hok0, by omega, by omega, hE0, hgo, by omega⟩, rfl, rfl⟩
 refine G_val rfl rfl rfl rfl (V_move rfl rfl) ?_
 refine G_val rfl rfl rfl rfl (V_move rfl rfl) ?_
 refine G_val rfl rfl rfl rfl (V_nilCheck rfl rfl) ?_
 refine G_val rfl rfl rfl rfl (V_fieldAddr (fo := 3) rfl Tryz.underlying137 rfl infLogX_50 rfl rfl rfl) ?_
 refine G_val rfl rfl rfl rfl (V_load1 rfl rfl (mem_at 3 rfl) rfl Tryz.underlying50 rfl) ?_
 refine G_val rfl rfl rfl rfl (V_lss rfl rfl rfl) ?_
 refine G_val rfl rfl rfl rfl (V_pickF rfl rfl rfl) ?_
 refine G_val rfl rfl rfl rfl (V_move rfl rfl) ?_
 refine G_splitD 36 rfl (fun hc2 => ?_) (fun hc2 => ?_)
 ·
  refine G_off rfl rfl rfl rfl ?_
  refine G_off rfl rfl rfl rfl ?_
  refine G_off rfl rfl rfl rfl ?_
  refine G_off rfl rfl rfl rfl ?_
  refine G_off rfl rfl rfl rfl ?_
  refine G_off rfl rfl rfl rfl ?_
  refine G_val rfl rfl rfl rfl (V_pickT rfl rfl rfl) ?_
  refine G_done ?_
  refine G_then rfl ?_
  refine G_seq ?_
  refine G_region (l := [0, 1, 2]) rfl ?_
  refine G_val rfl rfl rfl rfl (V_assign rfl rfl) ?_
  refine G_val rfl rfl rfl rfl (V_assign rfl rfl) ?_
  refine G_val rfl rfl rfl rfl (V_assign rfl rfl) ?_
  refine G_done ?_
  refine G_ret (post := [_]) Tryz.func98 rfl (RVs_cons (RV_tmp rfl) (RVs_cons (RV_tmp rfl) (RVs_cons (RV_tmp rfl) RVs_nil))) [0] rfl ?_
  dsimp only [packed]
  first
    | (suffices hz : pOk (rdB k f b.toNat) a = false by exact .inr ⟨rc_no1 hz, rfl, rfl⟩
       have hq := ‹(!pOk (rdB k f b.toNat) a) = true›
       simpa using hq)
    | (suffices hz : (pE (rdB k f b.toNat) a : Int) < (base : Int) by exact .inr ⟨rc_no2 hz, rfl, rfl⟩
       omega)
    | (suffices hz : (e : Int) < (pE (rdB k f b.toNat) a : Int) by exact .inr ⟨rc_no3 hz, rfl, rfl⟩
       omega)
    | (suffices hz : ¬ sizeFE (pD (rdB k f b.toNat) a) = 0 by exact .inr ⟨rc_no4 hz, rfl, rfl⟩
       assumption)
    | (suffices hz : i < rcM (rdB k f b.toNat) a ∧ ¬ (pOk (rdB k f b.toNat) (a + i) = true ∧ pE (rdB k f b.toNat) (a + i) = pE (rdB k f b.toNat) a) by exact .inr ⟨rc_no5 hz.1 hz.2, rfl, rfl⟩
       exact ⟨by omega, by rintro ⟨x1, x2⟩; first | omega | exact absurd ‹(!pOk (rdB k f b.toNat) (a + i)) = true› (by rw [x1]; decide)⟩)
    | (suffices hz : ¬ decE (rcTo (rdB k f b.toNat) a (rcM (rdB k f b.toNat) a)) = 0 by exact .inr ⟨rc_no6 hz, rfl, rfl⟩
       assumption)
    | exact .inl ⟨⟨hok0, by omega, by omega, hE0, hgo, by omega⟩, rfl, rfl⟩
 refine G_val rfl rfl rfl rfl (V_move rfl rfl) ?_
 refine G_val rfl rfl rfl rfl (V_move rfl rfl) ?_
 refine G_val rfl rfl rfl rfl (V_nilCheck rfl rfl) ?_
 refine G_val rfl rfl rfl rfl (V_fieldAddr (fo := 4) rfl Tryz.underlying137 rfl infLogX_50 rfl rfl rfl) ?_
 refine G_val rfl rfl rfl rfl (V_load1 rfl rfl (mem_at 3 rfl) rfl Tryz.underlying50 rfl) ?_
 refine G_val rfl rfl rfl rfl (V_gtr rfl rfl rfl) ?_
 refine G_val rfl rfl rfl rfl (V_pickF rfl rfl rfl) ?_
 refine G_done ?_
 refine G_ifD rfl (fun hc3 => ?_) (fun hc3 => ?_)
 ·
  refine G_seq ?_
  refine G_region (l := [0, 1, 2]) rfl ?_
  refine G_val rfl rfl rfl rfl (V_assign rfl rfl) ?_
  refine G_val rfl rfl rfl rfl (V_assign rfl rfl) ?_
  refine G_val rfl rfl rfl rfl (V_assign rfl rfl) ?_
  refine G_done ?_
  refine G_ret (post := [_]) Tryz.func98 rfl (RVs_cons (RV_tmp rfl) (RVs_cons (RV_tmp rfl) (RVs_cons (RV_tmp rfl) RVs_nil))) [0] rfl ?_
  dsimp only [packed]
  first
    | (suffices hz : pOk (rdB k f b.toNat) a = false by exact .inr ⟨rc_no1 hz, rfl, rfl⟩
       have hq := ‹(!pOk (rdB k f b.toNat) a) = true›
       simpa using hq)
    | (suffices hz : (pE (rdB k f b.toNat) a : Int) < (base : Int) by exact .inr ⟨rc_no2 hz, rfl, rfl⟩
       omega)
    | (suffices hz : (e : Int) < (pE (rdB k f b.toNat) a : Int) by exact .inr ⟨rc_no3 hz, rfl, rfl⟩
       omega)
    | (suffices hz : ¬ sizeFE (pD (rdB k f b.toNat) a) = 0 by exact .inr ⟨rc_no4 hz, rfl, rfl⟩
       assumption)
    | (suffices hz : i < rcM (rdB k f b.toNat) a ∧ ¬ (pOk (rdB k f b.toNat) (a + i) = true ∧ pE (rdB k f b.toNat) (a + i) = pE (rdB k f b.toNat) a) by exact .inr ⟨rc_no5 hz.1 hz.2, rfl, rfl⟩
       exact ⟨by omega, by rintro ⟨x1, x2⟩; first | omega | exact absurd ‹(!pOk (rdB k f b.toNat) (a + i)) = true› (by rw [x1]; decide)⟩)
    | (suffices hz : ¬ decE (rcTo (rdB k f b.toNat) a (rcM (rdB k f b.toNat) a)) = 0 by exact .inr ⟨rc_no6 hz, rfl, rfl⟩
       assumption)
    | exact .inl ⟨⟨hok0, by omega, by omega, hE0, hgo, by omega⟩, rfl, rfl⟩
 refine G_skip ?_
 refine G_seq ?_
 have hok0 : pOk (rdB k f b.toNat) a = true := by have hq := ‹(!pOk (rdB k f b.toNat) a) = false›; simpa using hq
 have hd48 := pD_len hok0
 refine G_region (l := [0, 1, 2, 3, 4, 5, 6]) rfl ?_
 refine G_val rfl rfl rfl rfl (V_move rfl rfl) ?_
 refine G_call (L2 := [_]) rfl rfl rfl rfl rfl rfl Tryz.call107 (fr_size (pD (rdB k f b.toNat) a) (by omega)) [] [] rfl rfl ?_
 rintro v post ⟨rfl, rfl⟩
 show G _ _ _ [_] _
 refine G_val rfl rfl rfl rfl (V_move rfl rfl) ?_
 refine G_val rfl rfl rfl rfl (V_extract rfl rfl rfl) ?_
 refine G_val rfl rfl rfl rfl (V_extract rfl rfl rfl) ?_
 refine G_val rfl rfl rfl rfl (V_assign rfl rfl) ?_
 refine G_val rfl rfl rfl rfl (V_assign rfl rfl) ?_
 refine G_done ?_
 refine G_seq ?_
 refine G_seq ?_
 refine G_region (l := [0, 1]) rfl ?_
 refine G_val rfl rfl rfl rfl (V_move rfl rfl) ?_
 refine G_val rfl rfl rfl rfl (V_neq rfl rfl rfl) ?_
 refine G_done ?_
 refine G_ifD rfl (fun hc4 => ?_) (fun hc4 => ?_)
 ·
  refine G_seq ?_
  refine G_region (l := [0, 1, 2]) rfl ?_
  refine G_val rfl rfl rfl rfl (V_assign rfl rfl) ?_
  refine G_val rfl rfl rfl rfl (V_assign rfl rfl) ?_
  refine G_val rfl rfl rfl rfl (V_assign rfl rfl) ?_
  refine G_done ?_
  refine G_ret (post := [_]) Tryz.func98 rfl (RVs_cons (RV_tmp rfl) (RVs_cons (RV_tmp rfl) (RVs_cons (RV_tmp rfl) RVs_nil))) [0] rfl ?_
  dsimp only [packed]
  first
    | (suffices hz : pOk (rdB k f b.toNat) a = false by exact .inr ⟨rc_no1 hz, rfl, rfl⟩
       have hq := ‹(!pOk (rdB k f b.toNat) a) = true›
       simpa using hq)
    | (suffices hz : (pE (rdB k f b.toNat) a : Int) < (base : Int) by exact .inr ⟨rc_no2 hz, rfl, rfl⟩
       omega)
    | (suffices hz : (e : Int) < (pE (rdB k f b.toNat) a : Int) by exact .inr ⟨rc_no3 hz, rfl, rfl⟩
       omega)
    | (suffices hz : ¬ sizeFE (pD (rdB k f b.toNat) a) = 0 by exact .inr ⟨rc_no4 hz, rfl, rfl⟩
       assumption)
    | (suffices hz : i < rcM (rdB k f b.toNat) a ∧ ¬ (pOk (rdB k f b.toNat) (a + i) = true ∧ pE (rdB k f b.toNat) (a + i) = pE (rdB k f b.toNat) a) by exact .inr ⟨rc_no5 hz.1 hz.2, rfl, rfl⟩
       exact ⟨by omega, by rintro ⟨x1, x2⟩; first | omega | exact absurd ‹(!pOk (rdB k f b.toNat) (a + i)) = true› (by rw [x1]; decide)⟩)
    | (suffices hz : ¬ decE (rcTo (rdB k f b.toNat) a (rcM (rdB k f b.toNat) a)) = 0 by exact .inr ⟨rc_no6 hz, rfl, rfl⟩
       assumption)
    | exact .inl ⟨⟨hok0, by omega, by omega, hE0, hgo, by omega⟩, rfl, rfl⟩
 refine G_skip ?_
 refine G_seq ?_
 have hE0 : sizeFE (pD (rdB k f b.toNat) a) = 0 := by omega
 refine G_region (l := [0, 1, 2]) rfl ?_
 refine G_val rfl rfl rfl rfl (V_move rfl rfl) ?_
 refine G_new rfl rfl rfl rfl (N_buildAll (s := 1) (cs := [_]) rfl Tryz.underlying34 infLogX_9 rfl rfl rfl rfl rfl rfl rfl rfl rfl) (fun b52 => ?_)
 refine G_val rfl rfl rfl rfl (V_assign rfl rfl) ?_
 refine G_done ?_
 refine G_seq ?_
 refine G_block ?_
 refine G_sub ?he8 [1, 0] ?hl8 (G_loop (X := Nat × Sl) (fun x => match x with | ⟨i, u⟩ => 1 ≤ i ∧ i ≤ rcM (rdB k f b.toNat) a ∧ Own 1 u ((rcTo (rdB k f b.toNat) a i).map strC) i ∧ rcGo (rdB k f b.toNat) a i) (fun x => match x with | ⟨i, u⟩ => rcM (rdB k f b.toNat) a - i) (fun x => match x with | ⟨i, u⟩ => [(0, .pointer (some ⟨r, 0, none⟩)), (5, .int .u32 ((pE (rdB k f b.toNat) a : Nat) : Int)), (6, .string (bs (pD (rdB k f b.toNat) a))), (8, .int .i64 (sizeF (pD (rdB k f b.toNat) a) : Int)), (10, u.v i)]) (fun x => match x with | ⟨i, u⟩ => [(some r, .cells (rdC d f b base e a).toArray 137 (0, 0)), (u.ob, .cells u.cs 9 u.fz)]) ?round8 (1, ⟨some b52, #[.string (bs (pD (rdB k f b.toNat) a))], (0, 0), 1⟩) ?h08)
 case he8 => exact (And.intro rfl (And.intro rfl (And.intro rfl (And.intro rfl (And.intro rfl trivial)))))
 case hl8 => exact ⟨_, rfl⟩
 case h08 => exact ⟨by omega, by omega, by rw [rcTo_one]; exact one_own, rcGo_one _ _ hok0⟩
 case round8 =>
  intro x hJ ih
  try dsimp only at hJ ih
  obtain ⟨i, u⟩ := x
  try dsimp only at hJ ih
  obtain ⟨hi1, hi, hu, hgo⟩ := hJ
  show G _ _ [(0, .pointer (some ⟨r, 0, none⟩)), (5, .int .u32 ((pE (rdB k f b.toNat) a : Nat) : Int)), (6, .string (bs (pD (rdB k f b.toNat) a))), (8, .int .i64 (sizeF (pD (rdB k f b.toNat) a) : Int)), (10, u.v i)] [(some r, .cells (rdC d f b base e a).toArray 137 (0, 0)), (u.ob, .cells u.cs 9 u.fz)] _
  refine G_seq ?_
  refine G_seq ?_
  refine G_region (l := [0, 1, 2, 3, 4]) rfl ?_
  refine G_val rfl rfl rfl rfl (V_move rfl rfl) ?_
  refine G_val rfl rfl rfl rfl (V_len rfl rfl Tryz.underlying34 rfl) ?_
  refine G_val rfl rfl rfl rfl (V_move rfl rfl) ?_
  refine G_call (L2 := [_, _]) rfl rfl rfl rfl rfl rfl Tryz.call61 (fr_many (sizeF (pD (rdB k f b.toNat) a)) (by have := sizeF_le (pD (rdB k f b.toNat) a); omega)) [] [] rfl rfl ?_
  rintro v post ⟨rfl, rfl⟩
  show G _ _ _ [_, _] _
  rw [show manyN (sizeF (pD (rdB k f b.toNat) a)) = rcM (rdB k f b.toNat) a from (by unfold rcM; rfl)]
  refine G_val rfl rfl rfl rfl (V_lss rfl rfl rfl) ?_
  refine G_done ?_
  refine G_ifD rfl (fun hc5 => ?_) (fun hc5 => ?_)
  ·
   refine G_skip ?_
   refine G_block ?_
   refine G_seq ?_
   refine G_region (l := [0, 1, 2, 3, 4, 5, 6, 7, 8, 9, 10, 11, 12, 13, 14, 15]) rfl ?_
   refine G_val rfl rfl rfl rfl (V_move rfl rfl) ?_
   refine G_val rfl rfl rfl rfl (V_move rfl rfl) ?_
   refine G_val rfl rfl rfl rfl (V_nilCheck rfl rfl) ?_
   refine G_val rfl rfl rfl rfl (V_fieldAddr (fo := 5) rfl Tryz.underlying137 rfl infLogX_3 rfl rfl rfl) ?_
   refine G_val rfl rfl rfl rfl (V_load1 rfl rfl (mem_at 3 rfl) rfl Tryz.underlying3 rfl) ?_
   refine G_val rfl rfl rfl rfl (V_move rfl rfl) ?_
   refine G_val rfl rfl rfl rfl (V_len rfl rfl Tryz.underlying34 rfl) ?_
   refine G_val rfl rfl rfl rfl (Val.int (e' := ((a + i : Nat) : Int)) (V_add rfl rfl rfl) (by rw [wrap_i64 (by omega)]; omega)) ?_
   refine G_call (L2 := [_, _]) rfl rfl rfl rfl rfl rfl Tryz.call106 (rd_block d n lb lcap lcs uw k h r f b base e a hr hd (a + i) (by omega)) [] [3, 0, 1, 2] rfl rfl ?_
   rintro v post ⟨rfl, rfl⟩
   show G _ _ _ [_, _] _
   refine G_val rfl rfl rfl rfl (V_move rfl rfl) ?_
   refine G_val rfl rfl rfl rfl (V_extract rfl rfl rfl) ?_
   refine G_val rfl rfl rfl rfl (V_extract rfl rfl rfl) ?_
   refine G_val rfl rfl rfl rfl (V_extract rfl rfl rfl) ?_
   refine G_val rfl rfl rfl rfl (V_assign rfl rfl) ?_
   refine G_val rfl rfl rfl rfl (V_assign rfl rfl) ?_
   refine G_val rfl rfl rfl rfl (V_assign rfl rfl) ?_
   refine G_done ?_
   refine G_seq ?_
   refine G_seq ?_
   refine G_region (l := [0, 1, 2, 3, 4, 5, 6]) rfl ?_
   refine G_val rfl rfl rfl rfl (V_move rfl rfl) ?_
   refine G_val rfl rfl rfl rfl (V_not rfl rfl) ?_
   refine G_val rfl rfl rfl rfl (V_move rfl rfl) ?_
   refine G_split 73 rfl (fun hc6 => ?_) (fun hc6 => ?_)
   ·
    refine G_off rfl rfl rfl rfl ?_
    refine G_off rfl rfl rfl rfl ?_
    refine G_off rfl rfl rfl rfl ?_
    refine G_val rfl rfl rfl rfl (V_pickT rfl rfl rfl) ?_
    refine G_done ?_
    refine G_then rfl ?_
    refine G_seq ?_
    refine G_region (l := [0, 1, 2]) rfl ?_
    refine G_val rfl rfl rfl rfl (V_assign rfl rfl) ?_
    refine G_val rfl rfl rfl rfl (V_assign rfl rfl) ?_
    refine G_val rfl rfl rfl rfl (V_assign rfl rfl) ?_
    refine G_done ?_
    refine G_ret (post := [_]) Tryz.func98 rfl (RVs_cons (RV_tmp rfl) (RVs_cons (RV_tmp rfl) (RVs_cons (RV_tmp rfl) RVs_nil))) [0] rfl ?_
    dsimp only [packed]
    first
      | (suffices hz : pOk (rdB k f b.toNat) a = false by exact .inr ⟨rc_no1 hz, rfl, rfl⟩
         have hq := ‹(!pOk (rdB k f b.toNat) a) = true›
         simpa using hq)
      | (suffices hz : (pE (rdB k f b.toNat) a : Int) < (base : Int) by exact .inr ⟨rc_no2 hz, rfl, rfl⟩
         omega)
      | (suffices hz : (e : Int) < (pE (rdB k f b.toNat) a : Int) by exact .inr ⟨rc_no3 hz, rfl, rfl⟩
         omega)
      | (suffices hz : ¬ sizeFE (pD (rdB k f b.toNat) a) = 0 by exact .inr ⟨rc_no4 hz, rfl, rfl⟩
         assumption)
      | (suffices hz : i < rcM (rdB k f b.toNat) a ∧ ¬ (pOk (rdB k f b.toNat) (a + i) = true ∧ pE (rdB k f b.toNat) (a + i) = pE (rdB k f b.toNat) a) by exact .inr ⟨rc_no5 hz.1 hz.2, rfl, rfl⟩
         exact ⟨by omega, by rintro ⟨x1, x2⟩; first | omega | exact absurd ‹(!pOk (rdB k f b.toNat) (a + i)) = true› (by rw [x1]; decide)⟩)
      | (suffices hz : ¬ decE (rcTo (rdB k f b.toNat) a (rcM (rdB k f b.toNat) a)) = 0 by exact .inr ⟨rc_no6 hz, rfl, rfl⟩
         assumption)
      | exact .inl ⟨⟨hok0, by omega, by omega, hE0, hgo, by omega⟩, rfl, rfl⟩
   refine G_val rfl rfl rfl rfl (V_move rfl rfl) ?_
   refine G_val rfl rfl rfl rfl (V_move rfl rfl) ?_
   refine G_val rfl rfl rfl rfl (V_neq rfl rfl rfl) ?_
   refine G_val rfl rfl rfl rfl (V_pickF rfl rfl rfl) ?_
   refine G_done ?_
   refine G_ifD rfl (fun hc7 => ?_) (fun hc7 => ?_)
   ·
    refine G_seq ?_
    refine G_region (l := [0, 1, 2]) rfl ?_
    refine G_val rfl rfl rfl rfl (V_assign rfl rfl) ?_
    refine G_val rfl rfl rfl rfl (V_assign rfl rfl) ?_
    refine G_val rfl rfl rfl rfl (V_assign rfl rfl) ?_
    refine G_done ?_
    refine G_ret (post := [_]) Tryz.func98 rfl (RVs_cons (RV_tmp rfl) (RVs_cons (RV_tmp rfl) (RVs_cons (RV_tmp rfl) RVs_nil))) [0] rfl ?_
    dsimp only [packed]
    first
      | (suffices hz : pOk (rdB k f b.toNat) a = false by exact .inr ⟨rc_no1 hz, rfl, rfl⟩
         have hq := ‹(!pOk (rdB k f b.toNat) a) = true›
         simpa using hq)
      | (suffices hz : (pE (rdB k f b.toNat) a : Int) < (base : Int) by exact .inr ⟨rc_no2 hz, rfl, rfl⟩
         omega)
      | (suffices hz : (e : Int) < (pE (rdB k f b.toNat) a : Int) by exact .inr ⟨rc_no3 hz, rfl, rfl⟩
         omega)
      | (suffices hz : ¬ sizeFE (pD (rdB k f b.toNat) a) = 0 by exact .inr ⟨rc_no4 hz, rfl, rfl⟩
         assumption)
      | (suffices hz : i < rcM (rdB k f b.toNat) a ∧ ¬ (pOk (rdB k f b.toNat) (a + i) = true ∧ pE (rdB k f b.toNat) (a + i) = pE (rdB k f b.toNat) a) by exact .inr ⟨rc_no5 hz.1 hz.2, rfl, rfl⟩
         exact ⟨by omega, by rintro ⟨x1, x2⟩; first | omega | exact absurd ‹(!pOk (rdB k f b.toNat) (a + i)) = true› (by rw [x1]; decide)⟩)
      | (suffices hz : ¬ decE (rcTo (rdB k f b.toNat) a (rcM (rdB k f b.toNat) a)) = 0 by exact .inr ⟨rc_no6 hz, rfl, rfl⟩
         assumption)
      | exact .inl ⟨⟨hok0, by omega, by omega, hE0, hgo, by omega⟩, rfl, rfl⟩
   refine G_skip ?_
   refine G_region (l := [0, 1, 2, 3, 4]) rfl ?_
   refine G_val rfl rfl rfl rfl (V_move rfl rfl) ?_
   refine G_val rfl rfl rfl rfl (V_move rfl rfl) ?_
   refine G_new rfl rfl rfl rfl (N_buildAll (s := 1) (cs := [_]) rfl Tryz.underlying34 infLogX_9 rfl rfl rfl rfl rfl rfl rfl rfl rfl) (fun b80 => ?_)
   refine G_append (l1 := [_, _]) (s := u) (nn := i) (m := 1) (news := [strC (pD (rdB k f b.toNat) (a + i))]) (bt := 16) rfl rfl rfl rfl Tryz.underlying34 Tryz.underlying34 (by first | exact .inl rfl | exact .inr ⟨_, rfl⟩) infLogX_9 rfl rfl rfl rfl rfl rfl hu rfl (src_mem (mem_at 3 rfl) rfl rfl (by simp [strC, Value.oneCell'])) (by omega) (by omega) ?_
   intro u1 hu1 _
   show G _ _ _ [_, _, _] _
   refine G_val rfl rfl rfl rfl (V_assign rfl rfl) ?_
   refine G_done ?_
   refine G_inBlock ?_
   refine G_sub ?_ [1, 1] ?_ (ih (i + 1, u1) ?_ ?_)
   · (refine (And.intro ?_ (And.intro ?_ (And.intro ?_ (And.intro ?_ (And.intro ?_ trivial))))) <;> first | rfl | exact slot_int (by omega) | exact slot_int (by simp))
   · exact ⟨_, rfl⟩
   · exact ⟨by omega, by omega, by rw [← rcTo_nextS]; exact hu1, rcGo_next hgo (by have hq := ‹(!pOk (rdB k f b.toNat) (a + i)) = false›; simpa using hq) (by omega)⟩
   · (first | omega | (dsimp only; omega))
  refine G_exit rfl ?_
  refine G_seq ?_
  obtain rfl : i = rcM (rdB k f b.toNat) a := by omega
  have hdl := rcTo_48 hgo
  refine G_region (l := [0, 1, 2, 3, 4, 5, 6, 7, 8]) rfl ?_
  refine G_val rfl rfl rfl rfl (V_move rfl rfl) ?_
  refine G_call (L2 := [_, _]) rfl rfl rfl rfl rfl rfl Tryz.call108 (dec_to u (rdB k f b.toNat) a _ hu hdl) [] [4] rfl rfl ?_
  rintro v post ⟨rfl, rfl⟩
  show G _ _ _ [_, _] _
  refine G_val rfl rfl rfl rfl (V_move rfl rfl) ?_
  refine G_val rfl rfl rfl rfl (V_extract rfl rfl rfl) ?_
  refine G_val rfl rfl rfl rfl (V_extract rfl rfl rfl) ?_
  refine G_val rfl rfl rfl rfl (V_extract rfl rfl rfl) ?_
  refine G_val rfl rfl rfl rfl (V_assign rfl rfl) ?_
  refine G_val rfl rfl rfl rfl (V_assign rfl rfl) ?_
  refine G_val rfl rfl rfl rfl (V_assign rfl rfl) ?_
  refine G_done ?_
  refine G_seq ?_
  refine G_seq ?_
  refine G_region (l := [0, 1]) rfl ?_
  refine G_val rfl rfl rfl rfl (V_move rfl rfl) ?_
  refine G_val rfl rfl rfl rfl (V_neq rfl rfl rfl) ?_
  refine G_done ?_
  refine G_ifD rfl (fun hc6 => ?_) (fun hc6 => ?_)
  ·
   refine G_seq ?_
   refine G_region (l := [0, 1, 2]) rfl ?_
   refine G_val rfl rfl rfl rfl (V_assign rfl rfl) ?_
   refine G_val rfl rfl rfl rfl (V_assign rfl rfl) ?_
   refine G_val rfl rfl rfl rfl (V_assign rfl rfl) ?_
   refine G_done ?_
   refine G_ret (post := [_]) Tryz.func98 rfl (RVs_cons (RV_tmp rfl) (RVs_cons (RV_tmp rfl) (RVs_cons (RV_tmp rfl) RVs_nil))) [0] rfl ?_
   dsimp only [packed]
   first
     | (suffices hz : pOk (rdB k f b.toNat) a = false by exact .inr ⟨rc_no1 hz, rfl, rfl⟩
        have hq := ‹(!pOk (rdB k f b.toNat) a) = true›
        simpa using hq)
     | (suffices hz : (pE (rdB k f b.toNat) a : Int) < (base : Int) by exact .inr ⟨rc_no2 hz, rfl, rfl⟩
        omega)
     | (suffices hz : (e : Int) < (pE (rdB k f b.toNat) a : Int) by exact .inr ⟨rc_no3 hz, rfl, rfl⟩
        omega)
     | (suffices hz : ¬ sizeFE (pD (rdB k f b.toNat) a) = 0 by exact .inr ⟨rc_no4 hz, rfl, rfl⟩
        assumption)
     | (suffices hz : i < rcM (rdB k f b.toNat) a ∧ ¬ (pOk (rdB k f b.toNat) (a + i) = true ∧ pE (rdB k f b.toNat) (a + i) = pE (rdB k f b.toNat) a) by exact .inr ⟨rc_no5 hz.1 hz.2, rfl, rfl⟩
        exact ⟨by omega, by rintro ⟨x1, x2⟩; first | omega | exact absurd ‹(!pOk (rdB k f b.toNat) (a + i)) = true› (by rw [x1]; decide)⟩)
     | (suffices hz : ¬ decE (rcTo (rdB k f b.toNat) a (rcM (rdB k f b.toNat) a)) = 0 by exact .inr ⟨rc_no6 hz, rfl, rfl⟩
        assumption)
     | exact .inl ⟨⟨hok0, by omega, by omega, hE0, hgo, by omega⟩, rfl, rfl⟩
  refine G_skip ?_
  refine G_seq ?_
  have hde : decE (rcTo (rdB k f b.toNat) a (rcM (rdB k f b.toNat) a)) = 0 := by omega
  rw [rc_decM hde]
  refine G_region (l := [0, 1, 2, 3, 4, 5, 6, 7, 8]) rfl ?_
  refine G_val rfl rfl rfl rfl (V_move rfl rfl) ?_
  refine G_val rfl rfl rfl rfl (V_nilCheck rfl rfl) ?_
  refine G_val rfl rfl rfl rfl (V_fieldAddr (fo := 5) rfl Tryz.underlying137 rfl infLogX_3 rfl rfl rfl) ?_
  refine G_val rfl rfl rfl rfl (V_load1 rfl rfl (mem_at 3 rfl) rfl Tryz.underlying3 rfl) ?_
  refine G_val rfl rfl rfl rfl (V_move rfl rfl) ?_
  refine G_val rfl rfl rfl rfl (Val.int (e' := ((a + rcM (rdB k f b.toNat) a : Nat) : Int)) (V_add rfl rfl rfl) (by rw [wrap_i64 (by omega)]; omega)) ?_
  refine G_val rfl rfl rfl rfl (V_nilCheck rfl rfl) ?_
  refine G_val rfl rfl rfl rfl (V_fieldAddr (fo := 5) rfl Tryz.underlying137 rfl infLogX_3 rfl rfl rfl) ?_
  refine G_put (l1 := []) (L' := [_, _]) rfl rfl rfl rfl (P_store1 rfl rfl rfl (mem_at 0 rfl) (by first | exact of_decide_eq_true rfl | omega | (simp [wCells, kCells, rgC, lgC, rdC]; done) | (simp [wCells, kCells, rgC, lgC, rdC]; omega) | (simp [wCells, kCells, rgC, lgC, rdC] at *; omega)) infLogX_3 rfl rfl) rfl ?_
  refine G_done ?_
  refine G_seq ?_
  refine G_region (l := [0, 1, 2, 3, 4]) rfl ?_
  refine G_val rfl rfl rfl rfl (V_move rfl rfl) ?_
  refine G_val rfl rfl rfl rfl (V_move rfl rfl) ?_
  refine G_val rfl rfl rfl rfl (V_assign rfl rfl) ?_
  refine G_val rfl rfl rfl rfl (V_assign rfl rfl) ?_
  refine G_val rfl rfl rfl rfl (V_assign rfl rfl) ?_
  refine G_done ?_
  refine G_ret (post := [_]) Tryz.func98 rfl (RVs_cons (RV_tmp rfl) (RVs_cons (RV_tmp rfl) (RVs_cons (RV_tmp rfl) RVs_nil))) [0] rfl ?_
  dsimp only [packed]
  first
    | (suffices hz : pOk (rdB k f b.toNat) a = false by exact .inr ⟨rc_no1 hz, rfl, rfl⟩
       have hq := ‹(!pOk (rdB k f b.toNat) a) = true›
       simpa using hq)
    | (suffices hz : (pE (rdB k f b.toNat) a : Int) < (base : Int) by exact .inr ⟨rc_no2 hz, rfl, rfl⟩
       omega)
    | (suffices hz : (e : Int) < (pE (rdB k f b.toNat) a : Int) by exact .inr ⟨rc_no3 hz, rfl, rfl⟩
       omega)
    | (suffices hz : ¬ sizeFE (pD (rdB k f b.toNat) a) = 0 by exact .inr ⟨rc_no4 hz, rfl, rfl⟩
       assumption)
    | (suffices hz : i < rcM (rdB k f b.toNat) a ∧ ¬ (pOk (rdB k f b.toNat) (a + i) = true ∧ pE (rdB k f b.toNat) (a + i) = pE (rdB k f b.toNat) a) by exact .inr ⟨rc_no5 hz.1 hz.2, rfl, rfl⟩
       exact ⟨by omega, by rintro ⟨x1, x2⟩; first | omega | exact absurd ‹(!pOk (rdB k f b.toNat) (a + i)) = true› (by rw [x1]; decide)⟩)
    | (suffices hz : ¬ decE (rcTo (rdB k f b.toNat) a (rcM (rdB k f b.toNat) a)) = 0 by exact .inr ⟨rc_no6 hz, rfl, rfl⟩
       assumption)
    | exact .inl ⟨⟨hok0, by omega, by omega, hE0, hgo, by omega⟩, rfl, rfl⟩

end
end Go.Proofs.YtbblkgdejgoncaaGreatDoor

/- The walks of layer 26, on: the records of a log, one behind the other. -/
set_option linter.unusedSimpArgs false
set_option linter.unusedVariables false
namespace Go.Proofs.YtbblkgdejgoncaaGreatDoor
open Go Go.RowKit

section
theorem infLogY_3 : Tryz.prog.info? 3 = some Tryz.t3 := by kernel_rfl
theorem infLogY_9 : Tryz.prog.info? 9 = some Tryz.t9 := by kernel_rfl
theorem infLogY_27 : Tryz.prog.info? 27 = some Tryz.t27 := by kernel_rfl
theorem infLogY_34 : Tryz.prog.info? 34 = some Tryz.t34 := by kernel_rfl
theorem infLogY_50 : Tryz.prog.info? 50 = some Tryz.t50 := by kernel_rfl
theorem infLogY_115 : Tryz.prog.info? 115 = some Tryz.t115 := by kernel_rfl
theorem infLogY_137 : Tryz.prog.info? 137 = some Tryz.t137 := by kernel_rfl
theorem plcLogY_115 : placesOf Tryz.prog (Tryz.prog.fieldsOf 115) = some [(0, 1), (1, 1), (2, 1)] := by kernel_rfl
theorem plcLogY_137 : placesOf Tryz.prog (Tryz.prog.fieldsOf 137) = some [(0, 3), (3, 1), (4, 1), (5, 1), (6, 1)] := by kernel_rfl


theorem rdC_base (d : Nat) (f b : Int) (base e a base1 : Nat) : (rdC d f b base e a).toArray.setIfInBounds 3 (.int .u32 (base1 : Int)) = (rdC d f b base1 e a).toArray := rfl
attribute [local irreducible] rp rpN rcS rcM pE pD pOk rcTo rdB

set_option maxRecDepth 100000 in
set_option maxHeartbeats 4000000 in
theorem rd_all1 (d n lb lcap : Nat) (lcs : Array Value) (uw : Sl) (k : Dk) (h : DkAt k n lb lcs lcap uw) (r : Nat) (f b : Int) (base e : Nat) (hr : rgE n f b = 0) (hd : k.dead = false) (hbs : base < 4294967296) (he : e < 4294967296) (b1 bo l : Nat) (rec : Loop) (hps : rec.params.size = 1) (hrd : ∀ (out : List (List UInt8)) (u : Sl) (s : List UInt8), Own 1 u (out.map strC) out.length → out.length ≤ 5000 → Rd Tryz.prog l rec.fn ((rec.params.zip [Value.string (bs s)].toArray).foldl (fun tmps (t, a) => tmps.setIfInBounds t a) rec.tmps) rec.assign rec.body [] [(some l, .loop rec), (some bo, .cells #[u.v out.length] 34 (0, 0)), (u.ob, .cells u.cs 9 u.fz)] (fun v post => v = .bool true ∧ ∃ u1, Own 1 u1 ((out ++ [s]).map strC) (out.length + 1) ∧ post = [(some l, .loop rec), (some bo, .cells #[u1.v (out.length + 1)] 34 (0, 0)), (u1.ob, .cells u1.cs 9 u1.fz)])) :
    Ct Tryz.prog 97 [.func (.yield l) #[] #[], .pointer (some ⟨b1, 0, none⟩)] [(some b1, .cells #[.pointer (some ⟨r, 0, none⟩)] 135 (0, 0)), (some d, .cells #[.slice (some ⟨lb, 0, none⟩) n lcap, uw.v k.W.length, .int .i64 k.fuse, .bool k.dead] 67 (0, 0)), (some lb, .cells lcs 9 (0, 0)), (uw.ob, .cells uw.cs 90 uw.fz)] [(some l, .loop rec), (some r, .cells (rdC d f b base e 0).toArray 137 (0, 0)), (some bo, .cells #[slNil.v 0] 34 (0, 0)), (slNil.ob, .cells slNil.cs 9 slNil.fz)] fun v post => ∃ u1 base1, Own 1 u1 ((rp (rdB k f b.toNat) e base 0).1.map strC) (rp (rdB k f b.toNat) e base 0).1.length ∧ v = .tuple #[] ∧ post = [(some l, .loop rec), (some r, .cells (rdC d f b base1 e (rp (rdB k f b.toNat) e base 0).2).toArray 137 (0, 0)), (some bo, .cells #[u1.v (rp (rdB k f b.toNat) e base 0).1.length] 34 (0, 0)), (u1.ob, .cells u1.cs 9 u1.fz)] := by
 have hq := h.bd
 have hq1 := hq.n1
 have hq2 := hq.n4
 have hq3 := hq.ncs
 have hq4 := hq.ncap
 have hq5 := hq.cap
 have hq6 := hq.w
 have hq7 := hq.wc
 have hln := h.len
 have hr1 := hr
 rw [rgE_ok] at hr1
 obtain ⟨hr2, hr3, hr4⟩ := hr1
 have hrl := rdB_len k f b.toNat
 refine ct_of Tryz.func97 rfl rfl (fun w0 => ?_)
 show G _ _ [(0, _), (1, _)] _ _
 refine G_block ?_
 refine G_sub ?he0 [0, 0, 0, 0] ?hl0 (G_loop (X := Nat × Nat × List (List UInt8) × Sl) (fun x => match x with | ⟨ba, aa, out, u⟩ => RpCome (rdB k f b.toNat) e base out ba aa ∧ Own 1 u (out.map strC) out.length) (fun x => match x with | ⟨ba, aa, out, u⟩ => b.toNat - aa) (fun x => match x with | ⟨ba, aa, out, u⟩ => [(0, .func (.yield l) #[] #[]), (1, .pointer (some ⟨b1, 0, none⟩))]) (fun x => match x with | ⟨ba, aa, out, u⟩ => [(some l, .loop rec), (some r, .cells (rdC d f b ba e aa).toArray 137 (0, 0)), (some bo, .cells #[u.v out.length] 34 (0, 0)), (u.ob, .cells u.cs 9 u.fz)]) ?round0 (base, 0, [], slNil) ?h00)
 case he0 => exact (And.intro rfl (And.intro rfl trivial))
 case hl0 => exact ⟨_, rfl⟩
 case h00 => exact ⟨.start, own_nil 1⟩
 case round0 =>
  intro x hJ ih
  try dsimp only at hJ ih
  obtain ⟨ba, aa, out, u⟩ := x
  try dsimp only at hJ ih
  obtain ⟨hc, hu⟩ := hJ
  show G _ _ [(0, .func (.yield l) #[] #[]), (1, .pointer (some ⟨b1, 0, none⟩))] [(some l, .loop rec), (some r, .cells (rdC d f b ba e aa).toArray 137 (0, 0)), (some bo, .cells #[u.v out.length] 34 (0, 0)), (u.ob, .cells u.cs 9 u.fz)] _
  refine G_block ?_
  refine G_seq ?_
  have hcl := hc.le
  by_cases hrc : rcOk (rdB k f b.toNat) ba e aa
  ·
   refine G_region (l := [0, 1, 2, 3, 4, 5, 6, 7, 8]) rfl ?_
   refine G_val rfl rfl rfl rfl (V_load1 rfl rfl (mem_at 0 rfl) rfl Tryz.underlying135 rfl) ?_
   refine G_call (L2 := [_, _, _]) rfl rfl rfl rfl rfl rfl Tryz.call98 ((rd_record d n lb lcap lcs uw k h r f b ba e aa hr hd (by omega) he (by omega)).weaken (fun v post h => h.elim (fun x => x.2) (fun x => absurd hrc x.1))) [1] [1, 2, 3] rfl rfl ?_
   rintro v post ⟨rfl, rfl⟩
   show G _ _ _ [_, _, _, _] _
   refine G_val rfl rfl rfl rfl (V_move rfl rfl) ?_
   refine G_val rfl rfl rfl rfl (V_extract rfl rfl rfl) ?_
   refine G_val rfl rfl rfl rfl (V_extract rfl rfl rfl) ?_
   refine G_val rfl rfl rfl rfl (V_extract rfl rfl rfl) ?_
   refine G_val rfl rfl rfl rfl (V_assign rfl rfl) ?_
   refine G_val rfl rfl rfl rfl (V_assign rfl rfl) ?_
   refine G_val rfl rfl rfl rfl (V_assign rfl rfl) ?_
   refine G_done ?_
   refine G_seq ?_
   refine G_seq ?_
   refine G_region (l := [0, 1, 2, 3, 4, 5, 6, 7]) rfl ?_
   refine G_val rfl rfl rfl rfl (V_move rfl rfl) ?_
   refine G_val rfl rfl rfl rfl (V_not rfl rfl) ?_
   refine G_val rfl rfl rfl rfl (V_move rfl rfl) ?_
   refine G_val rfl rfl rfl rfl (V_move rfl rfl) ?_
   refine G_val rfl rfl rfl rfl (V_move rfl rfl) ?_
   refine G_yield (l := l) (r := rec) (args := [.string (bs (rcS (rdB k f b.toNat) aa))]) (L2 := [_]) rfl rfl rfl rfl rfl rfl rfl (mem_at 5 rfl) (by simpa using hps.symm) (hrd out u (rcS (rdB k f b.toNat) aa) hu (by omega)) [1, 1, 1] [] rfl rfl ?_
   rintro v post ⟨rfl, u1, hu1, rfl⟩
   show G _ _ _ [_, _, _, _] _
   refine G_val rfl rfl rfl rfl (V_not rfl rfl) ?_
   refine G_val rfl rfl rfl rfl (V_pickF rfl rfl rfl) ?_
   refine G_done ?_
   refine G_else rfl ?_
   refine G_skip ?_
   refine G_region (l := [0, 1, 2, 3, 4]) rfl ?_
   refine G_val rfl rfl rfl rfl (V_load1 rfl rfl (mem_at 0 rfl) rfl Tryz.underlying135 rfl) ?_
   refine G_val rfl rfl rfl rfl (V_move rfl rfl) ?_
   refine G_val rfl rfl rfl rfl (V_nilCheck rfl rfl) ?_
   refine G_val rfl rfl rfl rfl (V_fieldAddr (fo := 3) rfl Tryz.underlying137 rfl infLogY_50 rfl rfl rfl) ?_
   refine G_put (l1 := [_, _, _]) (L' := [_, _, _, _]) rfl rfl rfl rfl (P_store1 rfl rfl rfl (mem_at 3 rfl) (by first | exact of_decide_eq_true rfl | omega | (simp [wCells, kCells, rgC, lgC, rdC]; done) | (simp [wCells, kCells, rgC, lgC, rdC]; omega) | (simp [wCells, kCells, rgC, lgC, rdC] at *; omega)) infLogY_50 rfl rfl) rfl ?_
   rw [rdC_base]
   refine G_done ?_
   refine G_inBlock ?_
   refine G_sub ?_ [0, 2, 0, 0] ?_ (ih (pE (rdB k f b.toNat) aa, aa + rcM (rdB k f b.toNat) aa, out ++ [rcS (rdB k f b.toNat) aa], u1) ?_ ?_)
   · (refine (And.intro ?_ (And.intro ?_ trivial)) <;> first | rfl | exact slot_int (by omega) | exact slot_int (by simp))
   · (dsimp only; rw [List.length_append]; exact ⟨_, rfl⟩)
   · exact ⟨.next hc hrc, by rw [List.length_append]; exact hu1⟩
   · (dsimp only; have := rc_le hrc; have := rcM_pos (rdB k f b.toNat) aa; omega)
  ·
   refine G_region (l := [0, 1, 2, 3, 4, 5, 6, 7, 8]) rfl ?_
   refine G_val rfl rfl rfl rfl (V_load1 rfl rfl (mem_at 0 rfl) rfl Tryz.underlying135 rfl) ?_
   refine G_call (L2 := [_, _, _]) rfl rfl rfl rfl rfl rfl Tryz.call98 ((rd_record d n lb lcap lcs uw k h r f b ba e aa hr hd (by omega) he (by omega)).weaken (fun v post h => h.elim (fun x => absurd x.1 hrc) (fun x => x.2))) [1] [1, 2, 3] rfl rfl ?_
   rintro v post ⟨rfl, rfl⟩
   show G _ _ _ [_, _, _, _] _
   refine G_val rfl rfl rfl rfl (V_move rfl rfl) ?_
   refine G_val rfl rfl rfl rfl (V_extract rfl rfl rfl) ?_
   refine G_val rfl rfl rfl rfl (V_extract rfl rfl rfl) ?_
   refine G_val rfl rfl rfl rfl (V_extract rfl rfl rfl) ?_
   refine G_val rfl rfl rfl rfl (V_assign rfl rfl) ?_
   refine G_val rfl rfl rfl rfl (V_assign rfl rfl) ?_
   refine G_val rfl rfl rfl rfl (V_assign rfl rfl) ?_
   refine G_done ?_
   refine G_seq ?_
   refine G_seq ?_
   refine G_region (l := [0, 1, 2, 3, 4, 5, 6, 7]) rfl ?_
   refine G_val rfl rfl rfl rfl (V_move rfl rfl) ?_
   refine G_val rfl rfl rfl rfl (V_not rfl rfl) ?_
   refine G_val rfl rfl rfl rfl (V_move rfl rfl) ?_
   refine G_off rfl rfl rfl rfl ?_
   refine G_off rfl rfl rfl rfl ?_
   refine G_off rfl rfl rfl rfl ?_
   refine G_off rfl rfl rfl rfl ?_
   refine G_val rfl rfl rfl rfl (V_pickT rfl rfl rfl) ?_
   refine G_done ?_
   refine G_then rfl ?_
   refine G_ret (post := [_, _, _, _]) Tryz.func97 rfl RVs_nil [1, 0, 0, 0] rfl ?_
   dsimp only [packed]
   have hq := rpAt_end hc.at hrc; rw [hq]; exact ⟨u, ba, hu, rfl, rfl⟩

set_option maxRecDepth 100000 in
set_option maxHeartbeats 1000000 in
theorem rd_all (r : Nat) :
    Ct Tryz.prog 77 [.pointer (some ⟨r, 0, none⟩)] [] [] fun v post => ∃ b1, v = .func (.func 97) #[] #[.pointer (some ⟨b1, 0, none⟩)] ∧ post = [(some b1, .cells #[.pointer (some ⟨r, 0, none⟩)] 135 (0, 0))] := by
 refine ct_of Tryz.func77 rfl rfl (fun w0 => ?_)
 show G _ _ [(0, _)] _ _
 refine G_seq ?_
 refine G_region (l := [0, 1]) rfl ?_
 refine G_new rfl rfl rfl rfl (N_box1 rfl rfl rfl) (fun b1 => ?_)
 refine G_val rfl rfl rfl rfl (V_assign rfl rfl) ?_
 refine G_done ?_
 refine G_seq ?_
 refine G_region (l := [0, 1]) rfl ?_
 refine G_val rfl rfl rfl rfl (V_func rfl rfl rfl) ?_
 refine G_val rfl rfl rfl rfl (V_assign rfl rfl) ?_
 refine G_done ?_
 refine G_ret (post := [_]) Tryz.func77 rfl (RVs_cons (RV_tmp rfl) RVs_nil) [0] rfl ?_
 dsimp only [packed]
 exact ⟨b1, rfl, rfl⟩

set_option maxRecDepth 100000 in
set_option maxHeartbeats 4000000 in
theorem lg_replay (d n lb lcap : Nat) (lcs : Array Value) (uw : Sl) (k : Dk) (h : DkAt k n lb lcs lcap uw) (f b : Int) (base e : Nat) (hr : rgE n f b = 0) (hd : k.dead = false) (hb0 : 0 < base) (hbs : base < 4294967296) (he : e < 4294967296) :
    Ct Tryz.prog 56 [.pointer (some ⟨d, 0, none⟩), .int .i64 f, .int .i64 b, .int .u32 (base : Int), .int .u32 (e : Int)] [(some d, .cells #[.slice (some ⟨lb, 0, none⟩) n lcap, uw.v k.W.length, .int .i64 k.fuse, .bool k.dead] 67 (0, 0)), (some lb, .cells lcs 9 (0, 0)), (uw.ob, .cells uw.cs 90 uw.fz)] [] fun v post => ∃ u : Sl, Own 1 u ((rp (rdB k f b.toNat) e base 0).1.map strC) (rp (rdB k f b.toNat) e base 0).1.length ∧ v = .tuple #[u.v (rp (rdB k f b.toNat) e base 0).1.length, .int .i64 ((rp (rdB k f b.toNat) e base 0).2 : Int), .int .i64 0] ∧ post = [(u.ob, .cells u.cs 9 u.fz)] := by
 have hq := h.bd
 have hq1 := hq.n1
 have hq2 := hq.n4
 have hq3 := hq.ncs
 have hq4 := hq.ncap
 have hq5 := hq.cap
 have hq6 := hq.w
 have hq7 := hq.wc
 have hln := h.len
 have hr1 := hr
 rw [rgE_ok] at hr1
 obtain ⟨hr2, hr3, hr4⟩ := hr1
 have hrl := rdB_len k f b.toNat
 refine ct_of Tryz.func56 rfl rfl (fun w0 => ?_)
 show G _ _ [(0, _), (1, _), (2, _), (3, _), (4, _)] _ _
 refine G_seq ?_
 refine G_region (l := [0, 1, 2]) rfl ?_
 refine G_val rfl rfl rfl rfl (V_assign rfl rfl) ?_
 refine G_val rfl rfl rfl rfl (V_assign rfl rfl) ?_
 refine G_val rfl rfl rfl rfl (V_assign rfl rfl) ?_
 refine G_done ?_
 refine G_seq ?_
 refine G_region (l := [0, 1, 2, 3, 4, 5, 6, 7, 8]) rfl ?_
 refine G_val rfl rfl rfl rfl (V_move rfl rfl) ?_
 refine G_val rfl rfl rfl rfl (V_move rfl rfl) ?_
 refine G_val rfl rfl rfl rfl (V_move rfl rfl) ?_
 refine G_val rfl rfl rfl rfl (V_buildS (cs := [_, _, _]) rfl Tryz.underlying115 infLogY_115 rfl plcLogY_115 rfl rfl rfl) ?_
 refine G_val rfl rfl rfl rfl (V_move rfl rfl) ?_
 refine G_val rfl rfl rfl rfl (V_move rfl rfl) ?_
 refine G_val rfl rfl rfl rfl (V_buildS (cs := [_, _, _, _, _, _, _]) rfl Tryz.underlying137 infLogY_137 rfl plcLogY_137 rfl rfl rfl) ?_
 refine G_new rfl rfl rfl rfl (N_boxA rfl rfl) (fun b24 => ?_)
 refine G_val rfl rfl rfl rfl (V_assign rfl rfl) ?_
 refine G_done ?_
 refine G_seq ?_
 refine G_seq ?_
 refine G_region (l := [0, 1, 2, 3, 4, 5]) rfl ?_
 refine G_val rfl rfl rfl rfl (V_move rfl rfl) ?_
 refine G_val rfl rfl rfl rfl (V_nilCheck rfl rfl) ?_
 refine G_val rfl rfl rfl rfl (V_fieldAddr (fo := 0) rfl Tryz.underlying137 rfl infLogY_115 rfl rfl rfl) ?_
 refine G_val rfl rfl rfl rfl (V_loadA (s := 3) (vs := (rgC d f b).toArray) rfl rfl (mem_at 3 rfl) Tryz.underlying115 rfl infLogY_115 rfl (by simp [rgC]) (by rfl)) ?_
 refine G_call (L2 := [_]) rfl rfl rfl rfl rfl rfl Tryz.call60 ((lg_ok d n lb lcap lcs uw k h f b (by omega) (by omega) (by omega) (by omega)).weaken (fun v post h => by rw [hr] at h; exact h)) [] [0] rfl rfl ?_
 rintro v post ⟨rfl, rfl⟩
 show G _ _ _ [_] _
 refine G_val rfl rfl rfl rfl (V_assign rfl rfl) ?_
 refine G_done ?_
 refine G_seq ?_
 refine G_region (l := [0, 1]) rfl ?_
 refine G_val rfl rfl rfl rfl (V_move rfl rfl) ?_
 refine G_val rfl rfl rfl rfl (V_neq rfl rfl rfl) ?_
 refine G_done ?_
 refine G_ifD rfl (fun hc1 => ?_) (fun hc1 => ?_)
 · (first | (exact absurd rfl hc1) | (exfalso; omega))
 refine G_skip ?_
 refine G_seq ?_
 refine G_seq ?_
 refine G_region (l := [0, 1]) rfl ?_
 refine G_val rfl rfl rfl rfl (V_move rfl rfl) ?_
 refine G_val rfl rfl rfl rfl (V_eql rfl rfl rfl) ?_
 refine G_done ?_
 refine G_ifD rfl (fun hc2 => ?_) (fun hc2 => ?_)
 · (first | (exact absurd rfl hc2) | (exfalso; omega))
 refine G_skip ?_
 refine G_seq ?_
 refine G_region (l := [0]) rfl ?_
 refine G_new rfl rfl rfl rfl (N_alloc1 rfl infLogY_34 rfl rfl) (fun b15 => ?_)
 refine G_done ?_
 refine G_seq ?_
 refine G_seq ?_
 refine G_addNone (.cells #[] 9 (0, 0)) ?_
 refine G_region (l := [0, 1]) rfl ?_
 refine G_val rfl rfl rfl rfl (V_move rfl rfl) ?_
 refine G_call (L2 := [_, _, _]) rfl rfl rfl rfl rfl rfl Tryz.call77 (rd_all b24) [] [] rfl rfl ?_
 rintro v post ⟨b1, rfl, rfl⟩
 show G _ _ _ [_, _, _, _] _
 refine G_done ?_
 refine G_block ?_
 refine G_rangeFunc (gf := 97) (vs := [.pointer (some ⟨b1, 0, none⟩)]) (L2 := [_]) rfl rfl Tryz.call97 (fun l D T hT => rd_all1 d n lb lcap lcs uw k h b24 f b base e hr hd hbs he b1 b15 l _ rfl ?rd) [3, 2, 1] [3, 0, 1, 2] rfl rfl ?K
 case rd =>
  intro out u s hu ho
  rw [show ([Value.string (bs s)].toArray : Array Value) = #[.string (bs s)] from rfl]
  show Rd _ _ _ (((#[37] : Array Tmp).zip #[.string (bs s)]).foldl (fun tmps (t, a) => tmps.setIfInBounds t a) T) _ _ _ _ _
  rw [zip_one]
  refine rd_of (hT.put (d := 37) rfl (.string (bs s))) (fun w0 => ?_)
  refine GR_region (r := [0]) rfl ?_
  refine GR_val rfl rfl rfl rfl (fun _ h => by cases h) (V_assign rfl rfl) ?_
  refine GR_done ?_
  refine GR_begin (l1 := []) (L' := [_, _, _]) rfl rfl rfl ?_
  refine GR_block ?_
  refine GR_region (r := [0, 1, 2, 3, 4]) rfl ?_
  refine GR_val rfl rfl rfl rfl (fun _ h => by cases h) (V_load1 rfl rfl (mem_at 1 rfl) rfl Tryz.underlying34 rfl) ?_
  refine GR_val rfl rfl rfl rfl (fun _ h => by cases h) (V_move rfl rfl) ?_
  refine GR_new rfl rfl rfl rfl (fun _ h => by cases h) (N_buildAll (s := 1) (cs := [_]) rfl Tryz.underlying34 infLogY_9 rfl rfl rfl rfl rfl rfl rfl rfl rfl) (fun b40 => ?_)
  refine GR_append (l1 := [_, _, _]) (s := u) (nn := out.length) (m := 1) (news := [strC s]) (bt := 16) rfl rfl rfl rfl Tryz.underlying34 Tryz.underlying34 (by first | exact .inl rfl | exact .inr ⟨_, rfl⟩) infLogY_9 rfl rfl rfl rfl rfl rfl hu rfl (src_mem (mem_at 0 rfl) rfl rfl (by simp [strC, Value.oneCell'])) (by omega) (by omega) ?_
  intro u1 hu1 hp1
  show GR _ _ _ _ [_, _, _, _] _
  refine GR_put (l1 := [_, _]) (L' := [_, _, _, _]) rfl rfl rfl (fun _ h => by cases h) rfl (P_store1 rfl rfl rfl (mem_at 2 rfl) Nat.zero_lt_one infLogY_34 rfl rfl) rfl ?_
  refine GR_done ?_
  refine GR_inBlock ?_
  refine GR_end (l1 := [_]) (L' := [_, _, _, _]) (post := [_, _, _]) rfl rfl [1, 1, 1] rfl ?_
  exact ⟨rfl, u1, by rw [List.map_append]; exact hu1, rfl⟩
 case K =>
  rintro l D T v post ⟨u1, base1, hu1, rfl, rfl⟩
  refine ⟨_, _, rfl, by show LoopState.ready ≠ .busy; decide, rfl, ?_⟩
  show G _ _ _ [_, _, _, _, _] _
  refine G_inBlock ?_
  refine G_seq ?_
  refine G_seq ?_
  refine G_region (l := [0, 1, 2, 3, 4]) rfl ?_
  refine G_val rfl rfl rfl rfl (V_move rfl rfl) ?_
  refine G_val rfl rfl rfl rfl (V_nilCheck rfl rfl) ?_
  refine G_val rfl rfl rfl rfl (V_fieldAddr (fo := 6) rfl Tryz.underlying137 rfl infLogY_27 rfl rfl rfl) ?_
  refine G_val rfl rfl rfl rfl (V_load1 rfl rfl (mem_at 4 rfl) rfl Tryz.underlying27 rfl) ?_
  refine G_val rfl rfl rfl rfl (V_neq rfl rfl rfl) ?_
  refine G_done ?_
  refine G_ifD rfl (fun hc3 => ?_) (fun hc3 => ?_)
  · (first | (exact absurd rfl hc3) | (exfalso; omega))
  refine G_skip ?_
  refine G_seq ?_
  refine G_draw mixedK (by kernel_rfl) ?_
  refine GQ_val rfl rfl rfl rfl (V_load1 rfl rfl (mem_at 5 rfl) rfl Tryz.underlying34 rfl) ?_
  refine GQ_val rfl rfl rfl rfl (V_move rfl rfl) ?_
  refine GQ_val rfl rfl rfl rfl (V_nilCheck rfl rfl) ?_
  refine GQ_val rfl rfl rfl rfl (V_fieldAddr (fo := 5) rfl Tryz.underlying137 rfl infLogY_3 rfl rfl rfl) ?_
  refine GQ_val rfl rfl rfl rfl (V_load1 rfl rfl (mem_at 4 rfl) rfl Tryz.underlying3 rfl) ?_
  refine GQ_val rfl rfl rfl rfl (V_assign rfl rfl) ?_
  refine GQ_val rfl rfl rfl rfl (V_assign rfl rfl) ?_
  refine GQ_val rfl rfl rfl rfl (V_assign rfl rfl) ?_
  refine GQ_done rfl ?_
  refine G_retD (l1 := []) (L' := [_, _, _, _, _]) (post := [_]) rfl rfl rfl Tryz.func56 rfl (RVs_cons (RV_tmp rfl) (RVs_cons (RV_tmp rfl) (RVs_cons (RV_tmp rfl) RVs_nil))) [3] rfl ?_
  dsimp only [packed]
  exact ⟨u1, hu1, rfl, rfl⟩

set_option maxRecDepth 100000 in
set_option maxHeartbeats 1000000 in
theorem lg_replay_0 (d n lb lcap : Nat) (lcs : Array Value) (uw : Sl) (k : Dk) (h : DkAt k n lb lcs lcap uw) (f b : Int) (e : Int) (hr : rgE n f b = 0) :
    Ct Tryz.prog 56 [.pointer (some ⟨d, 0, none⟩), .int .i64 f, .int .i64 b, .int .u32 0, .int .u32 e] [(some d, .cells #[.slice (some ⟨lb, 0, none⟩) n lcap, uw.v k.W.length, .int .i64 k.fuse, .bool k.dead] 67 (0, 0)), (some lb, .cells lcs 9 (0, 0)), (uw.ob, .cells uw.cs 90 uw.fz)] [] fun v post => v = .tuple #[.slice none 0 0, .int .i64 0, .int .i64 1] ∧ post = [] := by
 have hq := h.bd
 have hq1 := hq.n1
 have hq2 := hq.n4
 have hq3 := hq.ncs
 have hq4 := hq.ncap
 have hq5 := hq.cap
 have hq6 := hq.w
 have hq7 := hq.wc
 have hln := h.len
 have hr1 := hr
 rw [rgE_ok] at hr1
 obtain ⟨hr2, hr3, hr4⟩ := hr1
 have hrl := rdB_len k f b.toNat
 refine ct_of Tryz.func56 rfl rfl (fun w0 => ?_)
 show G _ _ [(0, _), (1, _), (2, _), (3, _), (4, _)] _ _
 refine G_seq ?_
 refine G_region (l := [0, 1, 2]) rfl ?_
 refine G_val rfl rfl rfl rfl (V_assign rfl rfl) ?_
 refine G_val rfl rfl rfl rfl (V_assign rfl rfl) ?_
 refine G_val rfl rfl rfl rfl (V_assign rfl rfl) ?_
 refine G_done ?_
 refine G_seq ?_
 refine G_region (l := [0, 1, 2, 3, 4, 5, 6, 7, 8]) rfl ?_
 refine G_val rfl rfl rfl rfl (V_move rfl rfl) ?_
 refine G_val rfl rfl rfl rfl (V_move rfl rfl) ?_
 refine G_val rfl rfl rfl rfl (V_move rfl rfl) ?_
 refine G_val rfl rfl rfl rfl (V_buildS (cs := [_, _, _]) rfl Tryz.underlying115 infLogY_115 rfl plcLogY_115 rfl rfl rfl) ?_
 refine G_val rfl rfl rfl rfl (V_move rfl rfl) ?_
 refine G_val rfl rfl rfl rfl (V_move rfl rfl) ?_
 refine G_val rfl rfl rfl rfl (V_buildS (cs := [_, _, _, _, _, _, _]) rfl Tryz.underlying137 infLogY_137 rfl plcLogY_137 rfl rfl rfl) ?_
 refine G_new rfl rfl rfl rfl (N_boxA rfl rfl) (fun b24 => ?_)
 refine G_val rfl rfl rfl rfl (V_assign rfl rfl) ?_
 refine G_done ?_
 refine G_seq ?_
 refine G_seq ?_
 refine G_region (l := [0, 1, 2, 3, 4, 5]) rfl ?_
 refine G_val rfl rfl rfl rfl (V_move rfl rfl) ?_
 refine G_val rfl rfl rfl rfl (V_nilCheck rfl rfl) ?_
 refine G_val rfl rfl rfl rfl (V_fieldAddr (fo := 0) rfl Tryz.underlying137 rfl infLogY_115 rfl rfl rfl) ?_
 refine G_val rfl rfl rfl rfl (V_loadA (s := 3) (vs := (rgC d f b).toArray) rfl rfl (mem_at 3 rfl) Tryz.underlying115 rfl infLogY_115 rfl (by simp [rgC]) (by rfl)) ?_
 refine G_call (L2 := [_]) rfl rfl rfl rfl rfl rfl Tryz.call60 ((lg_ok d n lb lcap lcs uw k h f b (by omega) (by omega) (by omega) (by omega)).weaken (fun v post h => by rw [hr] at h; exact h)) [] [0] rfl rfl ?_
 rintro v post ⟨rfl, rfl⟩
 show G _ _ _ [_] _
 refine G_val rfl rfl rfl rfl (V_assign rfl rfl) ?_
 refine G_done ?_
 refine G_seq ?_
 refine G_region (l := [0, 1]) rfl ?_
 refine G_val rfl rfl rfl rfl (V_move rfl rfl) ?_
 refine G_val rfl rfl rfl rfl (V_neq rfl rfl rfl) ?_
 refine G_done ?_
 refine G_ifD rfl (fun hc1 => ?_) (fun hc1 => ?_)
 · (first | (exact absurd rfl hc1) | (exfalso; omega))
 refine G_skip ?_
 refine G_seq ?_
 refine G_seq ?_
 refine G_region (l := [0, 1]) rfl ?_
 refine G_val rfl rfl rfl rfl (V_move rfl rfl) ?_
 refine G_val rfl rfl rfl rfl (V_eql rfl rfl rfl) ?_
 refine G_done ?_
 refine G_ifD rfl (fun hc2 => ?_) (fun hc2 => ?_)
 rotate_left
 · (first | (exact absurd rfl hc2) | (exfalso; omega))
 refine G_seq ?_
 refine G_region (l := [0, 1, 2]) rfl ?_
 refine G_val rfl rfl rfl rfl (V_assign rfl rfl) ?_
 refine G_val rfl rfl rfl rfl (V_assign rfl rfl) ?_
 refine G_val rfl rfl rfl rfl (V_assign rfl rfl) ?_
 refine G_done ?_
 refine G_ret (post := []) Tryz.func56 rfl (RVs_cons (RV_tmp rfl) (RVs_cons (RV_tmp rfl) (RVs_cons (RV_tmp rfl) RVs_nil))) [] rfl ?_
 dsimp only [packed]
 exact ⟨rfl, rfl⟩

set_option maxRecDepth 100000 in
set_option maxHeartbeats 1000000 in
theorem lg_replay_nil (x y z w : Int) :
    Ct Tryz.prog 56 [.pointer none, .int .i64 x, .int .i64 y, .int .u32 z, .int .u32 w] [] [] fun v post => v = .tuple #[.slice none 0 0, .int .i64 0, .int .i64 19] ∧ post = [] := by
 refine ct_of Tryz.func56 rfl rfl (fun w0 => ?_)
 show G _ _ [(0, _), (1, _), (2, _), (3, _), (4, _)] _ _
 refine G_seq ?_
 refine G_region (l := [0, 1, 2]) rfl ?_
 refine G_val rfl rfl rfl rfl (V_assign rfl rfl) ?_
 refine G_val rfl rfl rfl rfl (V_assign rfl rfl) ?_
 refine G_val rfl rfl rfl rfl (V_assign rfl rfl) ?_
 refine G_done ?_
 refine G_seq ?_
 refine G_region (l := [0, 1, 2, 3, 4, 5, 6, 7, 8]) rfl ?_
 refine G_val rfl rfl rfl rfl (V_move rfl rfl) ?_
 refine G_val rfl rfl rfl rfl (V_move rfl rfl) ?_
 refine G_val rfl rfl rfl rfl (V_move rfl rfl) ?_
 refine G_val rfl rfl rfl rfl (V_buildS (cs := [_, _, _]) rfl Tryz.underlying115 infLogY_115 rfl plcLogY_115 rfl rfl rfl) ?_
 refine G_val rfl rfl rfl rfl (V_move rfl rfl) ?_
 refine G_val rfl rfl rfl rfl (V_move rfl rfl) ?_
 refine G_val rfl rfl rfl rfl (V_buildS (cs := [_, _, _, _, _, _, _]) rfl Tryz.underlying137 infLogY_137 rfl plcLogY_137 rfl rfl rfl) ?_
 refine G_new rfl rfl rfl rfl (N_boxA rfl rfl) (fun b24 => ?_)
 refine G_val rfl rfl rfl rfl (V_assign rfl rfl) ?_
 refine G_done ?_
 refine G_seq ?_
 refine G_seq ?_
 refine G_region (l := [0, 1, 2, 3, 4, 5]) rfl ?_
 refine G_val rfl rfl rfl rfl (V_move rfl rfl) ?_
 refine G_val rfl rfl rfl rfl (V_nilCheck rfl rfl) ?_
 refine G_val rfl rfl rfl rfl (V_fieldAddr (fo := 0) rfl Tryz.underlying137 rfl infLogY_115 rfl rfl rfl) ?_
 refine G_val rfl rfl rfl rfl (V_loadA (s := 3) (vs := #[.pointer none, .int .i64 x, .int .i64 y]) rfl rfl (mem_at 0 rfl) Tryz.underlying115 rfl infLogY_115 rfl (by simp) (by rfl)) ?_
 refine G_call (L2 := [_]) rfl rfl rfl rfl rfl rfl Tryz.call60 (lg_ok_nil _ _) [] [] rfl rfl ?_
 rintro v post ⟨rfl, rfl⟩
 show G _ _ _ [_] _
 refine G_val rfl rfl rfl rfl (V_assign rfl rfl) ?_
 refine G_done ?_
 refine G_seq ?_
 refine G_region (l := [0, 1]) rfl ?_
 refine G_val rfl rfl rfl rfl (V_move rfl rfl) ?_
 refine G_val rfl rfl rfl rfl (V_neq rfl rfl rfl) ?_
 refine G_done ?_
 refine G_ifD rfl (fun hc1 => ?_) (fun hc1 => ?_)
 rotate_left
 · (first | (exact absurd rfl hc1) | (exfalso; omega))
 refine G_seq ?_
 refine G_region (l := [0, 1, 2, 3]) rfl ?_
 refine G_val rfl rfl rfl rfl (V_move rfl rfl) ?_
 refine G_val rfl rfl rfl rfl (V_assign rfl rfl) ?_
 refine G_val rfl rfl rfl rfl (V_assign rfl rfl) ?_
 refine G_val rfl rfl rfl rfl (V_assign rfl rfl) ?_
 refine G_done ?_
 refine G_ret (post := []) Tryz.func56 rfl (RVs_cons (RV_tmp rfl) (RVs_cons (RV_tmp rfl) (RVs_cons (RV_tmp rfl) RVs_nil))) [] rfl ?_
 dsimp only [packed]
 exact ⟨rfl, rfl⟩

end
end Go.Proofs.YtbblkgdejgoncaaGreatDoor

/- Calls of contracts that read blocks of which not all are listed one by one. No program in sight. -/
set_option linter.unusedSimpArgs false
set_option linter.unusedVariables false
namespace Go.Proofs.YtbblkgdejgoncaaGreatDoor
open Go Go.RowKit

theorem subA_nil {M : List (Option Nat × Obj)} : ∀ x ∈ ([] : List (Option Nat × Obj)), x ∈ M := fun _ h => by cases h
theorem subA_cons {M A : List (Option Nat × Obj)} {x : Option Nat × Obj} (hx : x ∈ M) (h : ∀ y ∈ A, y ∈ M) : ∀ y ∈ x :: A, y ∈ M := fun y hy => by
  rcases List.mem_cons.1 hy with e | hy
  · subst e; exact hx
  · exact h y hy
section
variable {c : Cx} {n : Nat} {env : List (Nat × Value)} {L : List (Option Nat × Obj)} {k : List Item}
theorem G_callM {ops : Array Oper} {i : Nat} {rest : List Nat} {o : Oper} {d : Nat} {g : FuncId} {xs : Array Operand} {ts : Array TypeId} {args : List Value} {A' L' L2 : List (Option Nat × Obj)} {R' : Value → List (Option Nat × Obj) → Prop}
    (ho : ops[i]? = some o) (hd : o.dst = some d) (hn : Nat.blt d n = true) (hg : fguard ops env o = some true) (hop : o.op = .call ⟨.value (.func g), xs, ts⟩) (hxs : fevs env xs.toList = some args)
    (hcf : ∀ (az : Array Value) w, (callFunc g az).run c.P w = .ok (.enter g az) w) (hct : Ct c.P g args A' L' R') (is : List Nat) (hL : tk is L = some (L', L2)) (hA : ∀ x ∈ A', x ∈ c.A ++ L2)
    (K : ∀ v post, R' v post → G c n ((d, v) :: env) (post ++ L2) (.inRegion ops rest :: k)) : G c n env L (.inRegion ops (i :: rest) :: k) := by
  intro a w hk hm
  refine goes_op ho (wanted_of hk hg) ?_
  have hx : xs.map a.eval = args.toArray := by
    apply Array.toList_inj.1
    simpa using hk.evals hxs
  have hr : (execOp a.eval o).run c.P w = .ok (.enter g args.toArray) w := by
    unfold execOp
    simp [hop, resolve, Act.eval, Deferred.ofValue, hx, invoke, hcf]
  rw [hr, Oper.upon_enter]
  refine (hct w (hm.has_callP (tk_perm hL) hA)).mono fun e w' ⟨v, post, he, hR, hp⟩ => ?_
  subst he
  simp only [hd]
  exact K v post hR _ w' (hk.put hn v) (hm.callP (tk_perm hL) hp)
theorem G_callMN {ops : Array Oper} {i : Nat} {rest : List Nat} {o : Oper} {g : FuncId} {xs : Array Operand} {ts : Array TypeId} {args : List Value} {A' L' L2 : List (Option Nat × Obj)} {R' : Value → List (Option Nat × Obj) → Prop}
    (ho : ops[i]? = some o) (hd : o.dst = none) (hg : fguard ops env o = some true) (hop : o.op = .call ⟨.value (.func g), xs, ts⟩) (hxs : fevs env xs.toList = some args)
    (hcf : ∀ (az : Array Value) w, (callFunc g az).run c.P w = .ok (.enter g az) w) (hct : Ct c.P g args A' L' R') (is : List Nat) (hL : tk is L = some (L', L2)) (hA : ∀ x ∈ A', x ∈ c.A ++ L2)
    (K : ∀ v post, R' v post → G c n env (post ++ L2) (.inRegion ops rest :: k)) : G c n env L (.inRegion ops (i :: rest) :: k) := by
  intro a w hk hm
  refine goes_op ho (wanted_of hk hg) ?_
  have hx : xs.map a.eval = args.toArray := by
    apply Array.toList_inj.1
    simpa using hk.evals hxs
  have hr : (execOp a.eval o).run c.P w = .ok (.enter g args.toArray) w := by
    unfold execOp
    simp [hop, resolve, Act.eval, Deferred.ofValue, hx, invoke, hcf]
  rw [hr, Oper.upon_enter]
  refine (hct w (hm.has_callP (tk_perm hL) hA)).mono fun e w' ⟨v, post, he, hR, hp⟩ => ?_
  subst he
  simp only [hd]
  exact K v post hR _ w' (hk.putNone v) (hm.callP (tk_perm hL) hp)
end
/-- A slice that the call has is appended to another one. -/
theorem src_own {c : Cx} {L : List (Option Nat × Obj)} {u : Sl} {m : Nat} {T : TypeId} {news : List Value} (hu : Own 1 u news m) (hm : (u.ob, Obj.cells u.cs T u.fz) ∈ c.A ++ L) (h1 : ∀ x ∈ news, x.oneCell' = true) (w : World) (hw : Has w c.A L) :
    Src c.P w 1 (u.v m) m news := by
  obtain ⟨ob, cs, fz, cap⟩ := u
  have hs := hu.sees
  cases ob with
  | none =>
    have h0 := hs.isNil rfl
    have h2 := hs.le
    simp only at h0 h2
    have hm0 : m = 0 := by omega
    have hl := hs.len
    rw [hm0, Nat.zero_mul] at hl
    rw [List.length_eq_zero_iff.1 hl, hm0]
    show Src c.P w 1 (.slice none 0 cap) 0 []
    rw [h0]
    exact src_nil
  | some b => exact src_mem hm hs.len (by rw [hs.len]; exact hs.part) h1 w hw
theorem strs_all (ls : List (List UInt8)) : ∀ u ∈ ls.map strC, u.oneCell' = true := by
  intro u hu
  obtain ⟨l, _, rfl⟩ := List.mem_map.1 hu
  simp [strC, Value.oneCell']
theorem sees_nil0 (sz : Nat) : Sees sz none 0 0 #[] [] 0 := ⟨by simp, Nat.le_refl _, by omega, by simp, fun _ => rfl⟩
end Go.Proofs.YtbblkgdejgoncaaGreatDoor

/- The walks of layer 28: a journal. -/
set_option linter.unusedSimpArgs false
set_option linter.unusedVariables false
namespace Go.Proofs.YtbblkgdejgoncaaGreatDoor
open Go Go.RowKit

section
theorem infJourW_3 : Tryz.prog.info? 3 = some Tryz.t3 := by kernel_rfl
theorem infJourW_26 : Tryz.prog.info? 26 = some Tryz.t26 := by kernel_rfl
theorem infJourW_50 : Tryz.prog.info? 50 = some Tryz.t50 := by kernel_rfl
theorem infJourW_70 : Tryz.prog.info? 70 = some Tryz.t70 := by kernel_rfl
theorem infJourW_74 : Tryz.prog.info? 74 = some Tryz.t74 := by kernel_rfl


/-- What is wrong with a disk's parts. -/
def partE (n : Nat) (room : Int) : Int := if room < 1 ∨ (n : Int) < room ∨ (n : Int) ≤ 2 + 2 * room then 1 else 0
theorem partE_0 {n : Nat} {room : Int} : partE n room = 0 ↔ 1 ≤ room ∧ 2 + 2 * room < (n : Int) := by
  unfold partE; constructor
  · intro h; split at h
    · cases h
    · omega
  · intro h; rw [if_neg (by omega)]
theorem partE_1 {n : Nat} {room : Int} (h : ¬ partE n room = 0) : partE n room = 1 := by
  unfold partE at *; split at h
  · rename_i g; rw [if_pos g]
  · exact absurd rfl h
theorem putK_W (k : Dk) (f b : Int) (e : Nat) (s : List UInt8) : (putK k f b e s).W.length ≤ k.W.length + manyS s.length := by
  unfold putK; split
  · omega
  · split
    · omega
    · have := wrs_W (blksS e s) k f; rw [blksS_len] at this; exact this
theorem sync_Wl (k : Dk) : k.sync.W.length ≤ k.W.length := by
  unfold Dk.sync; split <;> simp [Dk.spent, Dk.flushed]
def zeroF : List Value := spCells zeroSp ++ [.string (bs []), .slice none 0 0, .int .i64 0]
def foundC (sp : Sp) (t : List UInt8) (v : Value) (a : Nat) : List Value := spCells sp ++ [.string (bs t), v, .int .i64 (a : Int)]
def jC (d : Nat) (room : Int) (sp : Sp) (g : Nat) : List Value := [.pointer (some ⟨d, 0, none⟩), .int .i64 room] ++ spCells sp ++ [.pointer (some ⟨g, 0, none⟩)]

set_option maxRecDepth 100000 in
set_option maxHeartbeats 1000000 in
theorem jn_slotZ (d0 : Value) (hd0 : d0.oneCell' = true) (room x : Int) (f : Int) (hf : 2 + x * room = f) (h0 : 0 ≤ f) (h1 : f ≤ 100000) :
    Ct Tryz.prog 53 [.agg #[d0, .int .i64 room], .int .i64 x] [] [] fun v post => v = .int .i64 f ∧ post = [] := by
 refine ct_of Tryz.func53 rfl rfl (fun w0 => ?_)
 show G _ _ [(0, _), (1, _)] _ _
 refine G_seq ?_
 refine G_region (l := [0, 1]) rfl ?_
 refine G_new rfl rfl rfl rfl (N_boxA rfl rfl) (fun b2 => ?_)
 refine G_val rfl rfl rfl rfl (V_assign rfl rfl) ?_
 refine G_done ?_
 refine G_seq ?_
 refine G_region (l := [0, 1, 2, 3, 4, 5]) rfl ?_
 refine G_val rfl rfl rfl rfl (V_move rfl rfl) ?_
 refine G_val rfl rfl rfl rfl (V_fieldAddr (fo := 1) rfl Tryz.underlying70 rfl infJourW_3 rfl rfl rfl) ?_
 refine G_val rfl rfl rfl rfl (V_load1 rfl rfl (mem_at 0 rfl) rfl Tryz.underlying3 rfl) ?_
 refine G_val rfl rfl rfl rfl (Val.int (e' := x * room) (V_mul rfl rfl rfl) (wrap_i64 (by omega))) ?_
 refine G_val rfl rfl rfl rfl (Val.int (e' := f) (V_add rfl rfl rfl) (by rw [wrap_i64 (by omega)]; omega)) ?_
 refine G_val rfl rfl rfl rfl (V_assign rfl rfl) ?_
 refine G_done ?_
 refine G_ret (post := []) Tryz.func53 rfl (RVs_cons (RV_tmp rfl) RVs_nil) [] rfl ?_
 dsimp only [packed]
 exact ⟨rfl, rfl⟩

set_option maxRecDepth 100000 in
set_option maxHeartbeats 1000000 in
theorem jn_regionZ (d0 : Value) (hd0 : d0.oneCell' = true) (room : Int) (f : Int) (hf : 2 + 2 * room = f) (h0 : 0 ≤ f) (h1 : f ≤ 100000) :
    Ct Tryz.prog 37 [.agg #[d0, .int .i64 room]] [] [] fun v post => v = .int .i64 f ∧ post = [] := by
 refine ct_of Tryz.func37 rfl rfl (fun w0 => ?_)
 show G _ _ [(0, _)] _ _
 refine G_seq ?_
 refine G_region (l := [0, 1]) rfl ?_
 refine G_new rfl rfl rfl rfl (N_boxA rfl rfl) (fun b1 => ?_)
 refine G_val rfl rfl rfl rfl (V_assign rfl rfl) ?_
 refine G_done ?_
 refine G_seq ?_
 refine G_region (l := [0, 1, 2]) rfl ?_
 refine G_val rfl rfl rfl rfl (V_loadW (s := 2) rfl rfl (mem_at 0 rfl) Tryz.underlying70 rfl infJourW_70 rfl (by rfl)) ?_
 refine G_call (L2 := [_]) rfl rfl rfl rfl rfl rfl Tryz.call53 (jn_slotZ d0 hd0 room 2 f hf h0 h1) [] [] rfl rfl ?_
 rintro v post ⟨rfl, rfl⟩
 show G _ _ _ [_] _
 refine G_val rfl rfl rfl rfl (V_assign rfl rfl) ?_
 refine G_done ?_
 refine G_ret (post := []) Tryz.func37 rfl (RVs_cons (RV_tmp rfl) RVs_nil) [] rfl ?_
 dsimp only [packed]
 exact ⟨rfl, rfl⟩

set_option maxRecDepth 100000 in
set_option maxHeartbeats 1000000 in
theorem jn_leftZ (d n lb lcap : Nat) (lcs : Array Value) (uw : Sl) (k : Dk) (h : DkAt k n lb lcs lcap uw) (room : Int) (f : Int) (hf : 2 + 2 * room = f) (h0 : 0 ≤ f) (h1 : f ≤ 100000) (z : Int) (hz : (n : Int) - f = z) :
    Ct Tryz.prog 38 [.agg #[.pointer (some ⟨d, 0, none⟩), .int .i64 room]] [(some d, .cells #[.slice (some ⟨lb, 0, none⟩) n lcap, uw.v k.W.length, .int .i64 k.fuse, .bool k.dead] 67 (0, 0))] [] fun v post => v = .int .i64 z ∧ post = [] := by
 have hb := h.bd
 have hb1 := hb.n1
 have hb2 := hb.n4
 have hb3 := hb.ncs
 have hb4 := hb.ncap
 have hb5 := hb.cap
 have hb6 := hb.w
 have hb7 := hb.wc
 have hln := h.len
 refine ct_of Tryz.func38 rfl rfl (fun w0 => ?_)
 show G _ _ [(0, _)] _ _
 refine G_seq ?_
 refine G_region (l := [0, 1]) rfl ?_
 refine G_new rfl rfl rfl rfl (N_boxA rfl rfl) (fun b1 => ?_)
 refine G_val rfl rfl rfl rfl (V_assign rfl rfl) ?_
 refine G_done ?_
 refine G_seq ?_
 refine GH_start (Lq := [_]) (isq := [0]) (m := 7) mixedK rfl rfl ?_
 refine GH_take 0 rfl rfl rfl rfl (by kernel_rfl) (by kernel_rfl) (by kernel_rfl) (fun _ _ => (V_fieldAddr (fo := 0) rfl Tryz.underlying70 rfl infJourW_26 rfl rfl rfl)) ?_
 refine GH_take 1 rfl rfl rfl rfl (by kernel_rfl) (by kernel_rfl) (by kernel_rfl) (fun _ _ => (V_load1 rfl rfl (mem_at 1 rfl) rfl Tryz.underlying26 rfl)) ?_
 refine GH_take 3 rfl rfl rfl rfl (by kernel_rfl) (by kernel_rfl) (by kernel_rfl) (fun _ _ => (V_loadW (s := 2) rfl rfl (mem_at 1 rfl) Tryz.underlying70 rfl infJourW_70 rfl (by rfl))) ?_
 refine GH_all [2] (by kernel_rfl) (by decide) ?_
 refine (And.intro ?_ trivial)
 ·
  refine GHop_call (L2 := [_]) rfl rfl rfl rfl rfl rfl Tryz.call51 (dk_size _ _ _ _ _ _ _ h) [] [0] rfl rfl [0] (by rintro v post ⟨rfl, rfl⟩; exact ⟨_, rfl⟩) ?_
  rintro v post ⟨rfl, rfl⟩
  show GH _ _ _ _ _ _ _ [_] _
  refine GH_all [4] (by kernel_rfl) (by decide) ?_
  refine (And.intro ?_ trivial)
  ·
   refine GHop_call (L2 := [_]) rfl rfl rfl rfl rfl rfl Tryz.call37 (jn_regionZ (.pointer (some ⟨d, 0, none⟩)) rfl room f (by omega) (by omega) (by omega)) [] [] rfl rfl [0] (by rintro v post ⟨rfl, rfl⟩; exact ⟨_, rfl⟩) ?_
   rintro v post ⟨rfl, rfl⟩
   show GH _ _ _ _ _ _ _ [_] _
   refine GH_take 5 rfl rfl rfl rfl (by kernel_rfl) (by kernel_rfl) (by kernel_rfl) (fun _ _ => ((V_sub rfl rfl rfl).int (wrap_i64 (by omega)))) ?_
   refine GH_take 6 rfl rfl rfl rfl (by kernel_rfl) (by kernel_rfl) (by kernel_rfl) (fun _ _ => (V_assign rfl rfl)) ?_
   refine GH_done (by kernel_rfl) ?_
   refine G_ret (post := []) Tryz.func38 rfl (RVs_cons (RV_tmp rfl) RVs_nil) [] rfl ?_
   dsimp only [packed]
   exact ⟨int_eq (by omega), rfl⟩

set_option maxRecDepth 100000 in
set_option maxHeartbeats 1000000 in
theorem jn_check (d n lb lcap : Nat) (lcs : Array Value) (uw : Sl) (k : Dk) (h : DkAt k n lb lcs lcap uw) (room : Int) (hr0 : -9223372036854775808 ≤ room) (hr1 : room ≤ 9223372036854775807) :
    Ct Tryz.prog 30 [.agg #[.pointer (some ⟨d, 0, none⟩), .int .i64 room]] [(some d, .cells #[.slice (some ⟨lb, 0, none⟩) n lcap, uw.v k.W.length, .int .i64 k.fuse, .bool k.dead] 67 (0, 0))] [] fun v post => v = .int .i64 (partE n room) ∧ post = [] := by
 have hb := h.bd
 have hb1 := hb.n1
 have hb2 := hb.n4
 have hb3 := hb.ncs
 have hb4 := hb.ncap
 have hb5 := hb.cap
 have hb6 := hb.w
 have hb7 := hb.wc
 have hln := h.len
 refine ct_of Tryz.func30 rfl rfl (fun w0 => ?_)
 show G _ _ [(0, _)] _ _
 refine G_seq ?_
 refine G_region (l := [0, 1]) rfl ?_
 refine G_new rfl rfl rfl rfl (N_boxA rfl rfl) (fun b1 => ?_)
 refine G_val rfl rfl rfl rfl (V_assign rfl rfl) ?_
 refine G_done ?_
 refine G_seq ?_
 refine G_block ?_
 refine G_seq ?_
 refine G_region (l := [0, 1, 2, 3]) rfl ?_
 refine G_val rfl rfl rfl rfl (V_fieldAddr (fo := 0) rfl Tryz.underlying70 rfl infJourW_26 rfl rfl rfl) ?_
 refine G_val rfl rfl rfl rfl (V_load1 rfl rfl (mem_at 1 rfl) rfl Tryz.underlying26 rfl) ?_
 refine G_val rfl rfl rfl rfl (V_peqlN rfl Tryz.underlying26 rfl rfl) ?_
 refine G_val rfl rfl rfl rfl (V_assign rfl rfl) ?_
 refine G_done ?_
 refine G_else rfl ?_
 refine G_seq ?_
 refine GH_start (Lq := [_]) (isq := [0]) (m := 20) mixedK rfl rfl ?_
 refine GH_take 0 rfl rfl rfl rfl (by kernel_rfl) (by kernel_rfl) (by kernel_rfl) (fun _ _ => (V_fieldAddr (fo := 1) rfl Tryz.underlying70 rfl infJourW_3 rfl rfl rfl)) ?_
 refine GH_take 1 rfl rfl rfl rfl (by kernel_rfl) (by kernel_rfl) (by kernel_rfl) (fun _ _ => (V_load1 rfl rfl (mem_at 1 rfl) rfl Tryz.underlying3 rfl)) ?_
 refine GH_take 2 rfl rfl rfl rfl (by kernel_rfl) (by kernel_rfl) (by kernel_rfl) (fun _ _ => (V_lss rfl rfl rfl)) ?_
 refine GH_take 3 rfl rfl rfl rfl (by kernel_rfl) (by kernel_rfl) (by kernel_rfl) (fun _ _ => (V_move rfl rfl)) ?_
 refine GH_splitD 11 rfl (fun hc1 => ?_) (fun hc1 => ?_)
 ·
  refine GH_takeOff 4 rfl rfl rfl rfl (by kernel_rfl) (by kernel_rfl) (by kernel_rfl) ?_
  refine GH_takeOff 5 rfl rfl rfl rfl (by kernel_rfl) (by kernel_rfl) (by kernel_rfl) ?_
  refine GH_takeOff 6 rfl rfl rfl rfl (by kernel_rfl) (by kernel_rfl) (by kernel_rfl) ?_
  refine GH_takeOff 7 rfl rfl rfl rfl (by kernel_rfl) (by kernel_rfl) (by kernel_rfl) ?_
  refine GH_takeOff 8 rfl rfl rfl rfl (by kernel_rfl) (by kernel_rfl) (by kernel_rfl) ?_
  refine GH_takeOff 9 rfl rfl rfl rfl (by kernel_rfl) (by kernel_rfl) (by kernel_rfl) ?_
  refine GH_take 10 rfl rfl rfl rfl (by kernel_rfl) (by kernel_rfl) (by kernel_rfl) (fun _ _ => (V_pickT rfl rfl rfl)) ?_
  refine GH_take 11 rfl rfl rfl rfl (by kernel_rfl) (by kernel_rfl) (by kernel_rfl) (fun _ _ => (V_move rfl rfl)) ?_
  refine GH_takeOff 12 rfl rfl rfl rfl (by kernel_rfl) (by kernel_rfl) (by kernel_rfl) ?_
  refine GH_takeOff 13 rfl rfl rfl rfl (by kernel_rfl) (by kernel_rfl) (by kernel_rfl) ?_
  refine GH_takeOff 14 rfl rfl rfl rfl (by kernel_rfl) (by kernel_rfl) (by kernel_rfl) ?_
  refine GH_takeOff 15 rfl rfl rfl rfl (by kernel_rfl) (by kernel_rfl) (by kernel_rfl) ?_
  refine GH_takeOff 16 rfl rfl rfl rfl (by kernel_rfl) (by kernel_rfl) (by kernel_rfl) ?_
  refine GH_takeOff 17 rfl rfl rfl rfl (by kernel_rfl) (by kernel_rfl) (by kernel_rfl) ?_
  refine GH_take 18 rfl rfl rfl rfl (by kernel_rfl) (by kernel_rfl) (by kernel_rfl) (fun _ _ => (V_pickT rfl rfl rfl)) ?_
  refine GH_take 19 rfl rfl rfl rfl (by kernel_rfl) (by kernel_rfl) (by kernel_rfl) (fun _ _ => (V_assign rfl rfl)) ?_
  refine GH_done (by kernel_rfl) ?_
  refine G_then rfl ?_
  refine G_seq ?_
  refine G_region (l := [0]) rfl ?_
  refine G_val rfl rfl rfl rfl (V_assign rfl rfl) ?_
  refine G_done ?_
  refine G_ret (post := []) Tryz.func30 rfl (RVs_cons (RV_tmp rfl) RVs_nil) [] rfl ?_
  dsimp only [packed]
  refine ⟨int_eq ?_, rfl⟩; unfold partE; first | rw [if_pos (by omega)] | rw [if_neg (by omega)]
 refine GH_take 4 rfl rfl rfl rfl (by kernel_rfl) (by kernel_rfl) (by kernel_rfl) (fun _ _ => (V_fieldAddr (fo := 1) rfl Tryz.underlying70 rfl infJourW_3 rfl rfl rfl)) ?_
 refine GH_take 5 rfl rfl rfl rfl (by kernel_rfl) (by kernel_rfl) (by kernel_rfl) (fun _ _ => (V_load1 rfl rfl (mem_at 1 rfl) rfl Tryz.underlying3 rfl)) ?_
 refine GH_take 6 rfl rfl rfl rfl (by kernel_rfl) (by kernel_rfl) (by kernel_rfl) (fun _ _ => (V_fieldAddr (fo := 0) rfl Tryz.underlying70 rfl infJourW_26 rfl rfl rfl)) ?_
 refine GH_take 7 rfl rfl rfl rfl (by kernel_rfl) (by kernel_rfl) (by kernel_rfl) (fun _ _ => (V_load1 rfl rfl (mem_at 1 rfl) rfl Tryz.underlying26 rfl)) ?_
 refine GH_all [8] (by kernel_rfl) (by decide) ?_
 refine (And.intro ?_ trivial)
 ·
  refine GHop_call (L2 := [_]) rfl rfl rfl rfl rfl rfl Tryz.call51 (dk_size _ _ _ _ _ _ _ h) [] [0] rfl rfl [0] (by rintro v post ⟨rfl, rfl⟩; exact ⟨_, rfl⟩) ?_
  rintro v post ⟨rfl, rfl⟩
  show GH _ _ _ _ _ _ _ [_] _
  refine GH_take 9 rfl rfl rfl rfl (by kernel_rfl) (by kernel_rfl) (by kernel_rfl) (fun _ _ => (V_gtr rfl rfl rfl)) ?_
  refine GH_take 10 rfl rfl rfl rfl (by kernel_rfl) (by kernel_rfl) (by kernel_rfl) (fun _ _ => (V_pickF rfl rfl rfl)) ?_
  refine GH_take 11 rfl rfl rfl rfl (by kernel_rfl) (by kernel_rfl) (by kernel_rfl) (fun _ _ => (V_move rfl rfl)) ?_
  refine GH_splitD 19 rfl (fun hc2 => ?_) (fun hc2 => ?_)
  ·
   refine GH_takeOff 12 rfl rfl rfl rfl (by kernel_rfl) (by kernel_rfl) (by kernel_rfl) ?_
   refine GH_takeOff 13 rfl rfl rfl rfl (by kernel_rfl) (by kernel_rfl) (by kernel_rfl) ?_
   refine GH_takeOff 14 rfl rfl rfl rfl (by kernel_rfl) (by kernel_rfl) (by kernel_rfl) ?_
   refine GH_takeOff 15 rfl rfl rfl rfl (by kernel_rfl) (by kernel_rfl) (by kernel_rfl) ?_
   refine GH_takeOff 16 rfl rfl rfl rfl (by kernel_rfl) (by kernel_rfl) (by kernel_rfl) ?_
   refine GH_takeOff 17 rfl rfl rfl rfl (by kernel_rfl) (by kernel_rfl) (by kernel_rfl) ?_
   refine GH_take 18 rfl rfl rfl rfl (by kernel_rfl) (by kernel_rfl) (by kernel_rfl) (fun _ _ => (V_pickT rfl rfl rfl)) ?_
   refine GH_take 19 rfl rfl rfl rfl (by kernel_rfl) (by kernel_rfl) (by kernel_rfl) (fun _ _ => (V_assign rfl rfl)) ?_
   refine GH_done (by kernel_rfl) ?_
   refine G_then rfl ?_
   refine G_seq ?_
   refine G_region (l := [0]) rfl ?_
   refine G_val rfl rfl rfl rfl (V_assign rfl rfl) ?_
   refine G_done ?_
   refine G_ret (post := []) Tryz.func30 rfl (RVs_cons (RV_tmp rfl) RVs_nil) [] rfl ?_
   dsimp only [packed]
   refine ⟨int_eq ?_, rfl⟩; unfold partE; first | rw [if_pos (by omega)] | rw [if_neg (by omega)]
  refine GH_take 12 rfl rfl rfl rfl (by kernel_rfl) (by kernel_rfl) (by kernel_rfl) (fun _ _ => (V_loadW (s := 2) rfl rfl (mem_at 1 rfl) Tryz.underlying70 rfl infJourW_70 rfl (by rfl))) ?_
  refine GH_take 14 rfl rfl rfl rfl (by kernel_rfl) (by kernel_rfl) (by kernel_rfl) (fun _ _ => (V_fieldAddr (fo := 0) rfl Tryz.underlying70 rfl infJourW_26 rfl rfl rfl)) ?_
  refine GH_take 15 rfl rfl rfl rfl (by kernel_rfl) (by kernel_rfl) (by kernel_rfl) (fun _ _ => (V_load1 rfl rfl (mem_at 1 rfl) rfl Tryz.underlying26 rfl)) ?_
  refine GH_all [13] (by kernel_rfl) (by decide) ?_
  refine (And.intro ?_ trivial)
  ·
   refine GHop_call (L2 := [_]) rfl rfl rfl rfl rfl rfl Tryz.call37 (jn_regionZ (.pointer (some ⟨d, 0, none⟩)) rfl room (2 + 2 * room) (by omega) (by omega) (by omega)) [] [] rfl rfl [0] (by rintro v post ⟨rfl, rfl⟩; exact ⟨_, rfl⟩) ?_
   rintro v post ⟨rfl, rfl⟩
   show GH _ _ _ _ _ _ _ [_] _
   refine GH_all [16] (by kernel_rfl) (by decide) ?_
   refine (And.intro ?_ trivial)
   ·
    refine GHop_call (L2 := [_]) rfl rfl rfl rfl rfl rfl Tryz.call51 (dk_size _ _ _ _ _ _ _ h) [] [0] rfl rfl [0] (by rintro v post ⟨rfl, rfl⟩; exact ⟨_, rfl⟩) ?_
    rintro v post ⟨rfl, rfl⟩
    show GH _ _ _ _ _ _ _ [_] _
    refine GH_take 17 rfl rfl rfl rfl (by kernel_rfl) (by kernel_rfl) (by kernel_rfl) (fun _ _ => (V_geq rfl rfl rfl)) ?_
    refine GH_take 18 rfl rfl rfl rfl (by kernel_rfl) (by kernel_rfl) (by kernel_rfl) (fun _ _ => (V_pickF rfl rfl rfl)) ?_
    refine GH_take 19 rfl rfl rfl rfl (by kernel_rfl) (by kernel_rfl) (by kernel_rfl) (fun _ _ => (V_assign rfl rfl)) ?_
    refine GH_done (by kernel_rfl) ?_
    refine G_ifD rfl (fun hc3 => ?_) (fun hc3 => ?_)
    ·
     refine G_seq ?_
     refine G_region (l := [0]) rfl ?_
     refine G_val rfl rfl rfl rfl (V_assign rfl rfl) ?_
     refine G_done ?_
     refine G_ret (post := []) Tryz.func30 rfl (RVs_cons (RV_tmp rfl) RVs_nil) [] rfl ?_
     dsimp only [packed]
     refine ⟨int_eq ?_, rfl⟩; unfold partE; first | rw [if_pos (by omega)] | rw [if_neg (by omega)]
    refine G_skip ?_
    refine G_inBlock ?_
    refine G_seq ?_
    refine G_region (l := [0]) rfl ?_
    refine G_val rfl rfl rfl rfl (V_assign rfl rfl) ?_
    refine G_done ?_
    refine G_ret (post := []) Tryz.func30 rfl (RVs_cons (RV_tmp rfl) RVs_nil) [] rfl ?_
    dsimp only [packed]
    refine ⟨int_eq ?_, rfl⟩; unfold partE; first | rw [if_pos (by omega)] | rw [if_neg (by omega)]

set_option maxRecDepth 100000 in
set_option maxHeartbeats 1000000 in
theorem jn_check_nil (room : Int) :
    Ct Tryz.prog 30 [.agg #[.pointer none, .int .i64 room]] [] [] fun v post => v = .int .i64 19 ∧ post = [] := by
 refine ct_of Tryz.func30 rfl rfl (fun w0 => ?_)
 show G _ _ [(0, _)] _ _
 refine G_seq ?_
 refine G_region (l := [0, 1]) rfl ?_
 refine G_new rfl rfl rfl rfl (N_boxA rfl rfl) (fun b1 => ?_)
 refine G_val rfl rfl rfl rfl (V_assign rfl rfl) ?_
 refine G_done ?_
 refine G_seq ?_
 refine G_block ?_
 refine G_seq ?_
 refine G_region (l := [0, 1, 2, 3]) rfl ?_
 refine G_val rfl rfl rfl rfl (V_fieldAddr (fo := 0) rfl Tryz.underlying70 rfl infJourW_26 rfl rfl rfl) ?_
 refine G_val rfl rfl rfl rfl (V_load1 rfl rfl (mem_at 0 rfl) rfl Tryz.underlying26 rfl) ?_
 refine G_val rfl rfl rfl rfl (V_peqlN rfl Tryz.underlying26 rfl rfl) ?_
 refine G_val rfl rfl rfl rfl (V_assign rfl rfl) ?_
 refine G_done ?_
 refine G_then rfl ?_
 refine G_seq ?_
 refine G_region (l := [0]) rfl ?_
 refine G_val rfl rfl rfl rfl (V_assign rfl rfl) ?_
 refine G_done ?_
 refine G_ret (post := []) Tryz.func30 rfl (RVs_cons (RV_tmp rfl) RVs_nil) [] rfl ?_
 dsimp only [packed]
 exact ⟨rfl, rfl⟩

set_option maxRecDepth 100000 in
set_option maxHeartbeats 1000000 in
theorem jn_next (s : Sp) (h1 : s.seq < 4294967295) (h2 : s.epoch < 4294967295) :
    Ct Tryz.prog 34 [.agg (spCells s).toArray] [] [] fun v post => v = .agg (spCells (nextS s)).toArray ∧ post = [] := by
 refine ct_of Tryz.func34 rfl rfl (fun w0 => ?_)
 show G _ _ [(0, _)] _ _
 refine G_seq ?_
 refine G_region (l := [0, 1]) rfl ?_
 refine G_new rfl rfl rfl rfl (N_boxA rfl rfl) (fun b1 => ?_)
 refine G_new rfl rfl rfl rfl (N_allocA rfl infJourW_74 rfl) (fun b2 => ?_)
 refine G_done ?_
 refine G_seq ?_
 refine G_region (l := [0, 1, 2, 3, 4]) rfl ?_
 refine G_val rfl rfl rfl rfl (V_fieldAddr (fo := 0) rfl Tryz.underlying74 rfl infJourW_50 rfl rfl rfl) ?_
 refine G_val rfl rfl rfl rfl (V_load1 rfl rfl (mem_at 1 rfl) rfl Tryz.underlying50 rfl) ?_
 refine G_val rfl rfl rfl rfl (Val.int (e' := ((s.seq + 1 : Nat) : Int)) (V_add rfl rfl rfl) (by rw [wrap_u32 (by omega)]; omega)) ?_
 refine G_val rfl rfl rfl rfl (V_fieldAddr (fo := 0) rfl Tryz.underlying74 rfl infJourW_50 rfl rfl rfl) ?_
 refine G_put (l1 := [_]) (L' := [_, _]) rfl rfl rfl rfl (P_store1 rfl rfl rfl (mem_at 1 rfl) (by first | exact of_decide_eq_true rfl | omega | (simp [spCells, pCells, wCells, kCells, rgC, lgC, rdC, Sl.v, zeroF, foundC, jC]; done) | (simp [spCells, pCells, wCells, kCells, rgC, lgC, rdC, Sl.v, zeroF, foundC, jC]; omega) | (simp [spCells, pCells, wCells, kCells, rgC, lgC, rdC, Sl.v, zeroF, foundC, jC] at *; omega)) infJourW_50 rfl rfl) rfl ?_
 refine G_done ?_
 refine G_seq ?_
 refine G_region (l := [0, 1, 2, 3, 4]) rfl ?_
 refine G_val rfl rfl rfl rfl (V_fieldAddr (fo := 2) rfl Tryz.underlying74 rfl infJourW_50 rfl rfl rfl) ?_
 refine G_val rfl rfl rfl rfl (V_load1 rfl rfl (mem_at 1 rfl) rfl Tryz.underlying50 rfl) ?_
 refine G_val rfl rfl rfl rfl (Val.int (e' := ((s.epoch + 1 : Nat) : Int)) (V_add rfl rfl rfl) (by rw [wrap_u32 (by omega)]; omega)) ?_
 refine G_val rfl rfl rfl rfl (V_fieldAddr (fo := 2) rfl Tryz.underlying74 rfl infJourW_50 rfl rfl rfl) ?_
 refine G_put (l1 := [_]) (L' := [_, _]) rfl rfl rfl rfl (P_store1 rfl rfl rfl (mem_at 1 rfl) (by first | exact of_decide_eq_true rfl | omega | (simp [spCells, pCells, wCells, kCells, rgC, lgC, rdC, Sl.v, zeroF, foundC, jC]; done) | (simp [spCells, pCells, wCells, kCells, rgC, lgC, rdC, Sl.v, zeroF, foundC, jC]; omega) | (simp [spCells, pCells, wCells, kCells, rgC, lgC, rdC, Sl.v, zeroF, foundC, jC] at *; omega)) infJourW_50 rfl rfl) rfl ?_
 refine G_done ?_
 refine G_seq ?_
 show G _ _ _ [_, (some b1, .cells (spCells (nextS s)).toArray 74 (0, 0))] _
 refine G_region (l := [0, 1]) rfl ?_
 refine G_val rfl rfl rfl rfl (V_loadW (s := 5) rfl rfl (mem_at 1 rfl) Tryz.underlying74 rfl infJourW_74 rfl (by rfl)) ?_
 refine G_put (l1 := []) (L' := [_, _]) rfl rfl rfl rfl (P_storeA (s := 5) rfl rfl rfl (mem_at 0 rfl) (by rfl) infJourW_74 rfl (by rfl) (by simp [Value.oneCell', spCells, pCells, wCells, kCells, rgC, lgC, rdC, Sl.v, zeroF, foundC, jC])) rfl ?_
 refine G_done ?_
 refine G_ret (post := []) Tryz.func34 rfl (RVs_cons (RV_cell (s := 5) rfl (mem_at 0 rfl) Tryz.underlying74 rfl infJourW_74 rfl (by rfl)) RVs_nil) [] rfl ?_
 dsimp only [packed]
 exact ⟨rfl, rfl⟩

set_option maxRecDepth 100000 in
set_option maxHeartbeats 1000000 in
theorem jn_last (s : Sp) (h1 : s.seq < 4294967295) (h2 : s.epoch < 4294967295) :
    Ct Tryz.prog 33 [.agg (spCells s).toArray] [] [] fun v post => v = .bool false ∧ post = [] := by
 refine ct_of Tryz.func33 rfl rfl (fun w0 => ?_)
 show G _ _ [(0, _)] _ _
 refine G_seq ?_
 refine G_region (l := [0, 1]) rfl ?_
 refine G_new rfl rfl rfl rfl (N_boxA rfl rfl) (fun b1 => ?_)
 refine G_val rfl rfl rfl rfl (V_assign rfl rfl) ?_
 refine G_done ?_
 refine G_seq ?_
 refine G_region (l := [0, 1, 2, 3, 4, 5, 6, 7, 8]) rfl ?_
 refine G_val rfl rfl rfl rfl (V_fieldAddr (fo := 0) rfl Tryz.underlying74 rfl infJourW_50 rfl rfl rfl) ?_
 refine G_val rfl rfl rfl rfl (V_load1 rfl rfl (mem_at 0 rfl) rfl Tryz.underlying50 rfl) ?_
 refine G_val rfl rfl rfl rfl (V_eql rfl rfl rfl) ?_
 refine G_val rfl rfl rfl rfl (V_move rfl rfl) ?_
 refine G_splitD 6 rfl (fun hc1 => ?_) (fun hc1 => ?_)
 · (first | (exact absurd rfl hc1) | (exact absurd hc1 (by decide)) | (exact absurd (by decide) hc1) | (exfalso; omega))
 refine G_val rfl rfl rfl rfl (V_fieldAddr (fo := 2) rfl Tryz.underlying74 rfl infJourW_50 rfl rfl rfl) ?_
 refine G_val rfl rfl rfl rfl (V_load1 rfl rfl (mem_at 0 rfl) rfl Tryz.underlying50 rfl) ?_
 refine G_val rfl rfl rfl rfl (V_eql rfl rfl rfl) ?_
 refine G_val rfl rfl rfl rfl (V_pickF rfl rfl rfl) ?_
 refine G_val rfl rfl rfl rfl (V_assign rfl rfl) ?_
 refine G_done ?_
 refine G_ret (post := []) Tryz.func33 rfl (RVs_cons (RV_tmp rfl) RVs_nil) [] rfl ?_
 dsimp only [packed]
 exact ⟨bool_eq (by first | exact decide_eq_false (by omega) | rfl), rfl⟩

set_option maxRecDepth 100000 in
set_option maxHeartbeats 2000000 in
theorem jn_put (d n lb lcap : Nat) (lcs : Array Value) (uw : Sl) (k : Dk) (h : DkAt k n lb lcs lcap uw) (R f : Nat) (x0 : Sp) (s : List UInt8) (hok : SpOk ⟨x0.seq, x0.base, x0.epoch, x0.slot, (s.length : Int)⟩) (hf : 2 + x0.slot * (R : Int) = (f : Int)) (hf1 : f ≤ 100000) (hR : R ≤ 100000) (hW : k.W.length ≤ 1000) (hsl : s.length ≤ 1000000) :
    Ct Tryz.prog 31 [.agg #[.pointer (some ⟨d, 0, none⟩), .int .i64 (R : Int)], .string (bs s), .agg (spCells x0).toArray] [] [(some d, .cells #[.slice (some ⟨lb, 0, none⟩) n lcap, uw.v k.W.length, .int .i64 k.fuse, .bool k.dead] 67 (0, 0)), (some lb, .cells lcs 9 (0, 0)), (uw.ob, .cells uw.cs 90 uw.fz)] fun v post => v = .int .i64 (jputE k (f : Int) (R : Int) ⟨x0.seq, x0.base, x0.epoch, x0.slot, (s.length : Int)⟩ s) ∧ ∃ lcs1 uw1, DkAt (jputK k (f : Int) (R : Int) ⟨x0.seq, x0.base, x0.epoch, x0.slot, (s.length : Int)⟩ s) n lb lcs1 lcap uw1 ∧ post = [(some d, .cells #[.slice (some ⟨lb, 0, none⟩) n lcap, uw1.v (jputK k (f : Int) (R : Int) ⟨x0.seq, x0.base, x0.epoch, x0.slot, (s.length : Int)⟩ s).W.length, .int .i64 (jputK k (f : Int) (R : Int) ⟨x0.seq, x0.base, x0.epoch, x0.slot, (s.length : Int)⟩ s).fuse, .bool (jputK k (f : Int) (R : Int) ⟨x0.seq, x0.base, x0.epoch, x0.slot, (s.length : Int)⟩ s).dead] 67 (0, 0)), (some lb, .cells lcs1 9 (0, 0)), (uw1.ob, .cells uw1.cs 90 uw1.fz)] := by
 have hb := h.bd
 have hb1 := hb.n1
 have hb2 := hb.n4
 have hb3 := hb.ncs
 have hb4 := hb.ncap
 have hb5 := hb.cap
 have hb6 := hb.w
 have hb7 := hb.wc
 have hln := h.len
 have hm := manyS_room s.length
 have hpw := putK_W k (f : Int) (R : Int) x0.base s
 have hsw := sync_Wl (putK k (f : Int) (R : Int) x0.base s)
 refine ct_of Tryz.func31 rfl rfl (fun w0 => ?_)
 show G _ _ [(0, _), (1, _), (2, _)] _ _
 refine G_seq ?_
 refine G_region (l := [0, 1, 2]) rfl ?_
 refine G_new rfl rfl rfl rfl (N_boxA rfl rfl) (fun b3 => ?_)
 refine G_new rfl rfl rfl rfl (N_boxA rfl rfl) (fun b5 => ?_)
 refine G_val rfl rfl rfl rfl (V_assign rfl rfl) ?_
 refine G_done ?_
 refine G_seq ?_
 refine G_region (l := [0, 1, 2, 3]) rfl ?_
 refine G_val rfl rfl rfl rfl (V_move rfl rfl) ?_
 refine G_val rfl rfl rfl rfl (V_slen rfl rfl Tryz.underlying9 rfl) ?_
 refine G_val rfl rfl rfl rfl (V_fieldAddr (fo := 4) rfl Tryz.underlying74 rfl infJourW_3 rfl rfl rfl) ?_
 refine G_put (l1 := []) (L' := [_, _, _, _, _]) rfl rfl rfl rfl (P_store1 rfl rfl rfl (mem_at 0 rfl) (by first | exact of_decide_eq_true rfl | omega | (simp [spCells, pCells, wCells, kCells, rgC, lgC, rdC, Sl.v, zeroF, foundC, jC]; done) | (simp [spCells, pCells, wCells, kCells, rgC, lgC, rdC, Sl.v, zeroF, foundC, jC]; omega) | (simp [spCells, pCells, wCells, kCells, rgC, lgC, rdC, Sl.v, zeroF, foundC, jC] at *; omega)) infJourW_3 rfl rfl) rfl ?_
 refine G_done ?_
 refine G_seq ?_
 refine G_seq ?_
 show G _ _ _ [(some b5, .cells (spCells ⟨x0.seq, x0.base, x0.epoch, x0.slot, (s.length : Int)⟩).toArray 74 (0, 0)), _, _, _, _] _
 refine GH_start (Lq := [_, _]) (isq := [1, 0]) (m := 13) mixedK rfl rfl ?_
 refine GH_take 0 rfl rfl rfl rfl (by kernel_rfl) (by kernel_rfl) (by kernel_rfl) (fun _ _ => (V_fieldAddr (fo := 0) rfl Tryz.underlying70 rfl infJourW_26 rfl rfl rfl)) ?_
 refine GH_take 1 rfl rfl rfl rfl (by kernel_rfl) (by kernel_rfl) (by kernel_rfl) (fun _ _ => (V_load1 rfl rfl (mem_at 0 rfl) rfl Tryz.underlying26 rfl)) ?_
 refine GH_take 2 rfl rfl rfl rfl (by kernel_rfl) (by kernel_rfl) (by kernel_rfl) (fun _ _ => (V_loadW (s := 2) rfl rfl (mem_at 0 rfl) Tryz.underlying70 rfl infJourW_70 rfl (by rfl))) ?_
 refine GH_take 3 rfl rfl rfl rfl (by kernel_rfl) (by kernel_rfl) (by kernel_rfl) (fun _ _ => (V_fieldAddr (fo := 3) rfl Tryz.underlying74 rfl infJourW_3 rfl rfl rfl)) ?_
 refine GH_take 4 rfl rfl rfl rfl (by kernel_rfl) (by kernel_rfl) (by kernel_rfl) (fun _ _ => (V_load1 rfl rfl (mem_at 1 rfl) rfl Tryz.underlying3 rfl)) ?_
 refine GH_take 6 rfl rfl rfl rfl (by kernel_rfl) (by kernel_rfl) (by kernel_rfl) (fun _ _ => (V_fieldAddr (fo := 1) rfl Tryz.underlying70 rfl infJourW_3 rfl rfl rfl)) ?_
 refine GH_take 7 rfl rfl rfl rfl (by kernel_rfl) (by kernel_rfl) (by kernel_rfl) (fun _ _ => (V_load1 rfl rfl (mem_at 0 rfl) rfl Tryz.underlying3 rfl)) ?_
 refine GH_take 8 rfl rfl rfl rfl (by kernel_rfl) (by kernel_rfl) (by kernel_rfl) (fun _ _ => (V_fieldAddr (fo := 1) rfl Tryz.underlying74 rfl infJourW_50 rfl rfl rfl)) ?_
 refine GH_take 9 rfl rfl rfl rfl (by kernel_rfl) (by kernel_rfl) (by kernel_rfl) (fun _ _ => (V_load1 rfl rfl (mem_at 1 rfl) rfl Tryz.underlying50 rfl)) ?_
 refine GH_take 10 rfl rfl rfl rfl (by kernel_rfl) (by kernel_rfl) (by kernel_rfl) (fun _ _ => (V_move rfl rfl)) ?_
 refine GH_all [5] (by kernel_rfl) (by decide) ?_
 refine (And.intro ?_ trivial)
 ·
  refine GHop_call (L2 := [_, _, _, _, _]) rfl rfl rfl rfl rfl rfl Tryz.call53 (jn_slotZ (.pointer (some ⟨d, 0, none⟩)) rfl (R : Int) x0.slot (f : Int) hf (by omega) (by omega)) [] [] rfl rfl [1, 0] (by rintro v post ⟨rfl, rfl⟩; exact ⟨_, rfl⟩) ?_
  rintro v post ⟨rfl, rfl⟩
  show GH _ _ _ _ _ _ _ [_, _, _, _, _] _
  refine GH_all [11] (by kernel_rfl) (by decide) ?_
  refine (And.intro ?_ trivial)
  ·
   refine GHop_call (L2 := [_, _]) rfl rfl rfl rfl rfl rfl Tryz.call52 (sn_put d n lb lcap lcs uw k h (f : Int) (R : Int) x0.base (by omega) (by omega) (by omega) (by omega) hok.b1 s (by omega) hsl) [2, 2, 2] [] rfl rfl [4, 3] (by rintro v post ⟨rfl, lcs1, uw1, h1, rfl⟩; exact ⟨_, rfl⟩) ?_
   rintro v post ⟨rfl, lcs1, uw1, h1, rfl⟩
   show GH _ _ _ _ _ _ _ [_, _, _, _, _] _
   refine GH_take 12 rfl rfl rfl rfl (by kernel_rfl) (by kernel_rfl) (by kernel_rfl) (fun _ _ => (V_assign rfl rfl)) ?_
   refine GH_done (by kernel_rfl) ?_
   refine G_seq ?_
   refine G_region (l := [0, 1]) rfl ?_
   refine G_val rfl rfl rfl rfl (V_move rfl rfl) ?_
   refine G_val rfl rfl rfl rfl (V_neq rfl rfl rfl) ?_
   refine G_done ?_
   refine G_ifD rfl (fun hc1 => ?_) (fun hc1 => ?_)
   ·
    refine G_seq ?_
    refine G_region (l := [0, 1]) rfl ?_
    refine G_val rfl rfl rfl rfl (V_move rfl rfl) ?_
    refine G_val rfl rfl rfl rfl (V_assign rfl rfl) ?_
    refine G_done ?_
    refine G_ret (post := [_, _, _]) Tryz.func31 rfl (RVs_cons (RV_tmp rfl) RVs_nil) [0, 0, 0] rfl ?_
    dsimp only [packed]
    first
      | (obtain ⟨e1, e2⟩ := jput_1 (k := k) (f := (f : Int)) (b := (R : Int)) (t := ⟨x0.seq, x0.base, x0.epoch, x0.slot, (s.length : Int)⟩) (s := s) (by assumption); rw [e1, e2]; exact ⟨rfl, lcs1, uw1, h1, rfl⟩)
      | (obtain ⟨e1, e2⟩ := jput_2 (k := k) (f := (f : Int)) (b := (R : Int)) (t := ⟨x0.seq, x0.base, x0.epoch, x0.slot, (s.length : Int)⟩) (s := s) (by show putE k (f : Int) (R : Int) x0.base s = 0; omega) (by assumption); rw [e1, e2]; exact ⟨rfl, lcs1, uw1, h1, rfl⟩)
      | (obtain ⟨e1, e2⟩ := jput_3 (k := k) (f := (f : Int)) (b := (R : Int)) (t := ⟨x0.seq, x0.base, x0.epoch, x0.slot, (s.length : Int)⟩) (s := s) (by show putE k (f : Int) (R : Int) x0.base s = 0; omega) (by show (putK k (f : Int) (R : Int) x0.base s).syncE = 0; omega); rw [e1, e2]; exact ⟨rfl, lcs1, uw1, h1, rfl⟩)
   refine G_skip ?_
   refine G_seq ?_
   refine G_seq ?_
   refine G_region (l := [0, 1, 2, 3]) rfl ?_
   refine G_val rfl rfl rfl rfl (V_fieldAddr (fo := 0) rfl Tryz.underlying70 rfl infJourW_26 rfl rfl rfl) ?_
   refine G_val rfl rfl rfl rfl (V_load1 rfl rfl (mem_at 4 rfl) rfl Tryz.underlying26 rfl) ?_
   refine G_call (L2 := [_, _]) rfl rfl rfl rfl rfl rfl Tryz.call42 (dk_sync d n lb lcap lcs1 uw1 (putK k (f : Int) (R : Int) x0.base s) h1) [0, 0, 0] [] rfl rfl ?_
   rintro v post ⟨rfl, lcs1, uw1, h1, rfl⟩
   show G _ _ _ [_, _, _, _, _] _
   refine G_val rfl rfl rfl rfl (V_assign rfl rfl) ?_
   refine G_done ?_
   refine G_seq ?_
   refine G_region (l := [0, 1]) rfl ?_
   refine G_val rfl rfl rfl rfl (V_move rfl rfl) ?_
   refine G_val rfl rfl rfl rfl (V_neq rfl rfl rfl) ?_
   refine G_done ?_
   refine G_ifD rfl (fun hc2 => ?_) (fun hc2 => ?_)
   ·
    refine G_seq ?_
    refine G_region (l := [0, 1]) rfl ?_
    refine G_val rfl rfl rfl rfl (V_move rfl rfl) ?_
    refine G_val rfl rfl rfl rfl (V_assign rfl rfl) ?_
    refine G_done ?_
    refine G_ret (post := [_, _, _]) Tryz.func31 rfl (RVs_cons (RV_tmp rfl) RVs_nil) [0, 0, 0] rfl ?_
    dsimp only [packed]
    first
      | (obtain ⟨e1, e2⟩ := jput_1 (k := k) (f := (f : Int)) (b := (R : Int)) (t := ⟨x0.seq, x0.base, x0.epoch, x0.slot, (s.length : Int)⟩) (s := s) (by assumption); rw [e1, e2]; exact ⟨rfl, lcs1, uw1, h1, rfl⟩)
      | (obtain ⟨e1, e2⟩ := jput_2 (k := k) (f := (f : Int)) (b := (R : Int)) (t := ⟨x0.seq, x0.base, x0.epoch, x0.slot, (s.length : Int)⟩) (s := s) (by show putE k (f : Int) (R : Int) x0.base s = 0; omega) (by assumption); rw [e1, e2]; exact ⟨rfl, lcs1, uw1, h1, rfl⟩)
      | (obtain ⟨e1, e2⟩ := jput_3 (k := k) (f := (f : Int)) (b := (R : Int)) (t := ⟨x0.seq, x0.base, x0.epoch, x0.slot, (s.length : Int)⟩) (s := s) (by show putE k (f : Int) (R : Int) x0.base s = 0; omega) (by show (putK k (f : Int) (R : Int) x0.base s).syncE = 0; omega); rw [e1, e2]; exact ⟨rfl, lcs1, uw1, h1, rfl⟩)
   refine G_skip ?_
   refine G_seq ?_
   refine G_region (l := [0, 1, 2, 3, 4]) rfl ?_
   refine G_val rfl rfl rfl rfl (V_fieldAddr (fo := 0) rfl Tryz.underlying70 rfl infJourW_26 rfl rfl rfl) ?_
   refine G_val rfl rfl rfl rfl (V_load1 rfl rfl (mem_at 4 rfl) rfl Tryz.underlying26 rfl) ?_
   refine G_val rfl rfl rfl rfl (V_loadW (s := 5) rfl rfl (mem_at 3 rfl) Tryz.underlying74 rfl infJourW_74 rfl (by rfl)) ?_
   refine G_call (L2 := [_, _]) rfl rfl rfl rfl rfl rfl Tryz.call35 (sup_store d n lb lcap lcs1 uw1 (putK k (f : Int) (R : Int) x0.base s).sync h1 ⟨x0.seq, x0.base, x0.epoch, x0.slot, (s.length : Int)⟩ hok (by omega)) [0, 0, 0] [] rfl rfl ?_
   rintro v post ⟨rfl, lcs1, uw1, h1, rfl⟩
   show G _ _ _ [_, _, _, _, _] _
   refine G_val rfl rfl rfl rfl (V_assign rfl rfl) ?_
   refine G_done ?_
   refine G_ret (post := [_, _, _]) Tryz.func31 rfl (RVs_cons (RV_tmp rfl) RVs_nil) [0, 0, 0] rfl ?_
   dsimp only [packed]
   first
     | (obtain ⟨e1, e2⟩ := jput_1 (k := k) (f := (f : Int)) (b := (R : Int)) (t := ⟨x0.seq, x0.base, x0.epoch, x0.slot, (s.length : Int)⟩) (s := s) (by assumption); rw [e1, e2]; exact ⟨rfl, lcs1, uw1, h1, rfl⟩)
     | (obtain ⟨e1, e2⟩ := jput_2 (k := k) (f := (f : Int)) (b := (R : Int)) (t := ⟨x0.seq, x0.base, x0.epoch, x0.slot, (s.length : Int)⟩) (s := s) (by show putE k (f : Int) (R : Int) x0.base s = 0; omega) (by assumption); rw [e1, e2]; exact ⟨rfl, lcs1, uw1, h1, rfl⟩)
     | (obtain ⟨e1, e2⟩ := jput_3 (k := k) (f := (f : Int)) (b := (R : Int)) (t := ⟨x0.seq, x0.base, x0.epoch, x0.slot, (s.length : Int)⟩) (s := s) (by show putE k (f : Int) (R : Int) x0.base s = 0; omega) (by show (putK k (f : Int) (R : Int) x0.base s).syncE = 0; omega); rw [e1, e2]; exact ⟨rfl, lcs1, uw1, h1, rfl⟩)

end
end Go.Proofs.YtbblkgdejgoncaaGreatDoor
