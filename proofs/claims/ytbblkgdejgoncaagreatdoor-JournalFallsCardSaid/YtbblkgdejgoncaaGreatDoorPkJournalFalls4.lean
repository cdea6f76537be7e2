/- What the law JournalFalls needs, part 4. -/
import Derived.Test.YtbblkgdejgoncaaGreatDoorPkJournalFalls1
import Derived.Test.YtbblkgdejgoncaaGreatDoorPkJournalFalls2
import Derived.Test.YtbblkgdejgoncaaGreatDoorPkJournalFalls3


/- The walks of layer 25: texts joined, trimmed; the record of pieces. -/
set_option linter.unusedSimpArgs false
set_option linter.unusedVariables false
namespace Go.Proofs.YtbblkgdejgoncaaGreatDoor
open Go Go.RowKit

section
theorem infFrameX_9 : Tryz.prog.info? 9 = some Tryz.t9 := by kernel_rfl
theorem infFrameX_98 : Tryz.prog.info? 98 = some Tryz.t98 := by kernel_rfl


theorem flat_next {ls : List (List UInt8)} {i : Nat} {s : List UInt8} (h : ls[i]? = some s) : (ls.take (i + 1)).flatten = (ls.take i).flatten ++ s := by
  rw [take_succ_of h, List.flatten_append]; simp
theorem flat_le (ls : List (List UInt8)) (i : Nat) : (ls.take i).flatten.length ≤ ls.flatten.length := by
  conv => rhs; rw [← List.take_append_drop i ls, List.flatten_append, List.length_append]
  omega
theorem join_one {ls : List (List UInt8)} {s : List UInt8} (h : ls[0]? = some s) (h1 : ls.length = 1) : ls.flatten = s := by
  match ls, h1, h with
  | [x], _, h => simp at h; subst h; simp
theorem flat_first {ls : List (List UInt8)} {s : List UInt8} (h : ls[0]? = some s) : s = (ls.take (0 + 1)).flatten := by
  rw [flat_next h]; simp
def trimL (l : List UInt8) : List UInt8 := l.dropWhile (· == 0)
def trimR (l : List UInt8) : List UInt8 := (l.reverse.dropWhile (· == 0)).reverse
theorem trimL_drop {t : List UInt8} (h0 : 0 < t.length) (h1 : ((t.getD (Int.toNat 0) 0).toNat : Int) = 0) : trimL (t.drop 1) = trimL t := by
  match t, h0, h1 with
  | c :: r, _, h1 =>
    have hc : c = 0 := UInt8.toNat_inj.1 (by simpa using h1)
    subst hc; rfl
theorem trimL_stop {t : List UInt8} (h1 : ¬ ((t.getD (Int.toNat 0) 0).toNat : Int) = 0) : trimL t = t := by
  match t, h1 with
  | [], _ => rfl
  | c :: r, h1 =>
    have hc : ¬ c = 0 := fun e => h1 (by subst e; rfl)
    unfold trimL; rw [List.dropWhile_cons_of_neg (by simpa using hc)]
theorem trimL_nil {t : List UInt8} (h : t.length = 0) : trimL t = t := by
  rw [List.length_eq_zero_iff.1 h]; rfl
theorem trimR_take {t : List UInt8} (h0 : 0 < t.length) (h1 : ((t.getD (t.length - 1) 0).toNat : Int) = 0) : trimR (t.take (t.length - 1)) = trimR t := by
  obtain ⟨m, c, rfl⟩ : ∃ m c, t = m ++ [c] := ⟨t.dropLast, t.getLast (by intro h; simp [h] at h0), (List.dropLast_concat_getLast _).symm⟩
  have hc : c = 0 := UInt8.toNat_inj.1 (by simpa [List.getD] using h1)
  subst hc
  rw [List.length_append, List.length_singleton, Nat.add_sub_cancel, List.take_left' rfl]
  unfold trimR; simp
theorem trimR_stop {t : List UInt8} (h0 : 0 < t.length) (h1 : ¬ ((t.getD (t.length - 1) 0).toNat : Int) = 0) : trimR t = t := by
  obtain ⟨m, c, rfl⟩ : ∃ m c, t = m ++ [c] := ⟨t.dropLast, t.getLast (by intro h; simp [h] at h0), (List.dropLast_concat_getLast _).symm⟩
  have hc : ¬ c = 0 := fun e => h1 (by subst e; simp [List.getD])
  unfold trimR
  rw [List.reverse_append, List.reverse_singleton, List.singleton_append, List.dropWhile_cons_of_neg (by simpa using hc)]
  simp
theorem trimR_nil {t : List UInt8} (h : t.length = 0) : trimR t = t := by
  rw [List.length_eq_zero_iff.1 h]; rfl
theorem dropWhile_nil : ∀ l : List UInt8, l.dropWhile (· == 0) = [] ↔ ∀ x ∈ l, (x == 0) = true
  | [] => by simp
  | c :: r => by
    by_cases hc : c = 0
    · subst hc
      rw [List.dropWhile_cons_of_pos (by rfl), dropWhile_nil r]; simp
    · rw [List.dropWhile_cons_of_neg (by simpa using hc)]; simp [hc]
theorem drop_all : ∀ l : List UInt8, (∀ x ∈ l.dropWhile (· == 0), x = 0) → ∀ x ∈ l, x = 0
  | [], _ => by simp
  | c :: r, h => by
    by_cases hc : c = 0
    · subst hc
      rw [List.dropWhile_cons_of_pos (by rfl)] at h
      intro x hx
      rcases List.mem_cons.1 hx with rfl | hx
      · rfl
      · exact drop_all r h x hx
    · rwa [List.dropWhile_cons_of_neg (by simpa using hc)] at h
theorem trim_nil (l : List UInt8) : trimL (trimR l) = [] ↔ ∀ x ∈ l, x = 0 := by
  unfold trimL trimR
  rw [dropWhile_nil]
  constructor
  · intro h x hx
    exact drop_all l.reverse (fun y hy => by simpa using h y (List.mem_reverse.2 hy)) x (List.mem_reverse.2 hx)
  · intro h x hx
    have := h x (List.mem_reverse.1 ((List.dropWhile_sublist _).mem (List.mem_reverse.1 hx)))
    simpa using this

set_option maxRecDepth 100000 in
set_option maxHeartbeats 1000000 in
theorem str_trimL (l : List UInt8) (h : l.length ≤ 9223372036854775807) :
    Ct Tryz.prog 90 [.string (bs l), .int .u8 0] [] [] fun v post => v = .string (bs (trimL l)) ∧ post = [] := by
 refine ct_of Tryz.func90 rfl rfl (fun w0 => ?_)
 show G _ _ [(0, _), (1, _)] _ _
 refine G_seq ?_
 refine G_region (l := [0]) rfl ?_
 refine G_val rfl rfl rfl rfl (V_assign rfl rfl) ?_
 refine G_done ?_
 refine G_seq ?_
 refine G_block ?_
 refine G_sub ?he1 [] ?hl1 (G_loop (X := List UInt8) (fun t => trimL t = trimL l ∧ t.length ≤ l.length) (fun t => t.length) (fun t => [(0, .string (bs t)), (1, .int .u8 0)]) (fun t => []) ?round1 l ?h01)
 case he1 => exact (And.intro rfl (And.intro rfl trivial))
 case hl1 => exact ⟨_, rfl⟩
 case h01 => exact ⟨rfl, Nat.le_refl _⟩
 case round1 =>
  intro t hJ ih
  try dsimp only at hJ ih
  obtain ⟨hJ1, hJ2⟩ := hJ
  refine G_seq ?_
  refine G_seq ?_
  refine G_region (l := [0, 1, 2, 3, 4, 5, 6, 7, 8]) rfl ?_
  refine G_val rfl rfl rfl rfl (V_move rfl rfl) ?_
  refine G_val rfl rfl rfl rfl (V_slen rfl rfl Tryz.underlying9 rfl) ?_
  refine G_val rfl rfl rfl rfl (V_gtr rfl rfl rfl) ?_
  refine G_val rfl rfl rfl rfl (V_move rfl rfl) ?_
  refine G_splitD 8 rfl (fun hc1 => ?_) (fun hc1 => ?_)
  ·
   refine G_val rfl rfl rfl rfl (V_move rfl rfl) ?_
   refine G_val rfl rfl rfl rfl (V_sindexD rfl Tryz.underlying9 rfl rfl (by omega) (by first | omega | (simp; done) | (simp; omega) | (simp at *; omega))) ?_
   refine G_val rfl rfl rfl rfl (V_move rfl rfl) ?_
   refine G_val rfl rfl rfl rfl (V_eql rfl rfl rfl) ?_
   refine G_val rfl rfl rfl rfl (V_pickT rfl rfl rfl) ?_
   refine G_done ?_
   refine G_ifD rfl (fun hc2 => ?_) (fun hc2 => ?_)
   ·
    refine G_skip ?_
    refine G_block ?_
    refine G_region (l := [0, 1, 2]) rfl ?_
    refine G_val rfl rfl rfl rfl (V_move rfl rfl) ?_
    refine G_val rfl rfl rfl rfl (V_ssliceLN (lo := 1) rfl Tryz.underlying9 rfl rfl rfl (by first | omega | (simp; done) | (simp; omega) | (simp at *; omega))) ?_
    refine G_val rfl rfl rfl rfl (V_assign rfl rfl) ?_
    refine G_done ?_
    refine G_inBlock ?_
    refine G_sub ?_ [] ?_ (ih (t.drop 1) ?_ ?_)
    · (refine (And.intro ?_ (And.intro ?_ trivial)) <;> first | rfl | exact slot_int (by omega) | exact slot_int (by simp))
    · exact ⟨_, rfl⟩
    · exact ⟨by rw [trimL_drop (by omega) (by assumption)]; exact hJ1, by simp; omega⟩
    · (simp; omega)
   refine G_exit rfl ?_
   refine G_seq ?_
   refine G_region (l := [0, 1]) rfl ?_
   refine G_val rfl rfl rfl rfl (V_move rfl rfl) ?_
   refine G_val rfl rfl rfl rfl (V_assign rfl rfl) ?_
   refine G_done ?_
   refine G_ret (post := []) Tryz.func90 rfl (RVs_cons (RV_tmp rfl) RVs_nil) [] rfl ?_
   dsimp only [packed]
   first | exact ⟨by rw [← hJ1, trimL_nil (by omega)], rfl⟩ | exact ⟨by rw [← hJ1, trimL_stop (by assumption)], rfl⟩
  refine G_off rfl rfl rfl rfl ?_
  refine G_off rfl rfl rfl rfl ?_
  refine G_off rfl rfl rfl rfl ?_
  refine G_off rfl rfl rfl rfl ?_
  refine G_val rfl rfl rfl rfl (V_pickF rfl rfl rfl) ?_
  refine G_done ?_
  refine G_else rfl ?_
  refine G_exit rfl ?_
  refine G_seq ?_
  refine G_region (l := [0, 1]) rfl ?_
  refine G_val rfl rfl rfl rfl (V_move rfl rfl) ?_
  refine G_val rfl rfl rfl rfl (V_assign rfl rfl) ?_
  refine G_done ?_
  refine G_ret (post := []) Tryz.func90 rfl (RVs_cons (RV_tmp rfl) RVs_nil) [] rfl ?_
  dsimp only [packed]
  first | exact ⟨by rw [← hJ1, trimL_nil (by omega)], rfl⟩ | exact ⟨by rw [← hJ1, trimL_stop (by assumption)], rfl⟩

set_option maxRecDepth 100000 in
set_option maxHeartbeats 1000000 in
theorem str_trimR (l : List UInt8) (h : l.length ≤ 9223372036854775807) :
    Ct Tryz.prog 91 [.string (bs l), .int .u8 0] [] [] fun v post => v = .string (bs (trimR l)) ∧ post = [] := by
 refine ct_of Tryz.func91 rfl rfl (fun w0 => ?_)
 show G _ _ [(0, _), (1, _)] _ _
 refine G_seq ?_
 refine G_region (l := [0]) rfl ?_
 refine G_val rfl rfl rfl rfl (V_assign rfl rfl) ?_
 refine G_done ?_
 refine G_seq ?_
 refine G_block ?_
 refine G_sub ?he1 [] ?hl1 (G_loop (X := List UInt8) (fun t => trimR t = trimR l ∧ t.length ≤ l.length) (fun t => t.length) (fun t => [(0, .string (bs t)), (1, .int .u8 0)]) (fun t => []) ?round1 l ?h01)
 case he1 => exact (And.intro rfl (And.intro rfl trivial))
 case hl1 => exact ⟨_, rfl⟩
 case h01 => exact ⟨rfl, Nat.le_refl _⟩
 case round1 =>
  intro t hJ ih
  try dsimp only at hJ ih
  obtain ⟨hJ1, hJ2⟩ := hJ
  refine G_seq ?_
  refine G_seq ?_
  refine G_region (l := [0, 1, 2, 3, 4, 5, 6, 7, 8, 9, 10, 11]) rfl ?_
  refine G_val rfl rfl rfl rfl (V_move rfl rfl) ?_
  refine G_val rfl rfl rfl rfl (V_slen rfl rfl Tryz.underlying9 rfl) ?_
  refine G_val rfl rfl rfl rfl (V_gtr rfl rfl rfl) ?_
  refine G_val rfl rfl rfl rfl (V_move rfl rfl) ?_
  refine G_splitD 8 rfl (fun hc1 => ?_) (fun hc1 => ?_)
  ·
   refine G_val rfl rfl rfl rfl (V_move rfl rfl) ?_
   refine G_val rfl rfl rfl rfl (V_move rfl rfl) ?_
   refine G_val rfl rfl rfl rfl (V_slen rfl rfl Tryz.underlying9 rfl) ?_
   refine G_val rfl rfl rfl rfl (Val.int (e' := ((t.length - 1 : Nat) : Int)) (V_sub rfl rfl rfl) (by rw [wrap_i64 (by omega)]; omega)) ?_
   refine G_val rfl rfl rfl rfl (V_sindexN rfl Tryz.underlying9 rfl rfl rfl (by omega)) ?_
   refine G_val rfl rfl rfl rfl (V_move rfl rfl) ?_
   refine G_val rfl rfl rfl rfl (V_eql rfl rfl rfl) ?_
   refine G_val rfl rfl rfl rfl (V_pickT rfl rfl rfl) ?_
   refine G_done ?_
   refine G_ifD rfl (fun hc2 => ?_) (fun hc2 => ?_)
   ·
    refine G_skip ?_
    refine G_block ?_
    refine G_region (l := [0, 1, 2, 3, 4, 5]) rfl ?_
    refine G_val rfl rfl rfl rfl (V_move rfl rfl) ?_
    refine G_val rfl rfl rfl rfl (V_move rfl rfl) ?_
    refine G_val rfl rfl rfl rfl (V_slen rfl rfl Tryz.underlying9 rfl) ?_
    refine G_val rfl rfl rfl rfl (Val.int (e' := ((t.length - 1 : Nat) : Int)) (V_sub rfl rfl rfl) (by rw [wrap_i64 (by omega)]; omega)) ?_
    refine G_val rfl rfl rfl rfl (V_ssliceHN (hi := _) rfl Tryz.underlying9 rfl rfl rfl (by first | omega | (simp; done) | (simp; omega) | (simp at *; omega))) ?_
    refine G_val rfl rfl rfl rfl (V_assign rfl rfl) ?_
    refine G_done ?_
    refine G_inBlock ?_
    refine G_sub ?_ [] ?_ (ih (t.take (t.length - 1)) ?_ ?_)
    · (refine (And.intro ?_ (And.intro ?_ trivial)) <;> first | rfl | exact slot_int (by omega) | exact slot_int (by simp))
    · exact ⟨_, rfl⟩
    · exact ⟨by rw [trimR_take (by omega) (by assumption)]; exact hJ1, by simp; omega⟩
    · (simp; omega)
   refine G_exit rfl ?_
   refine G_seq ?_
   refine G_region (l := [0, 1]) rfl ?_
   refine G_val rfl rfl rfl rfl (V_move rfl rfl) ?_
   refine G_val rfl rfl rfl rfl (V_assign rfl rfl) ?_
   refine G_done ?_
   refine G_ret (post := []) Tryz.func91 rfl (RVs_cons (RV_tmp rfl) RVs_nil) [] rfl ?_
   dsimp only [packed]
   first | exact ⟨by rw [← hJ1, trimR_nil (by omega)], rfl⟩ | exact ⟨by rw [← hJ1, trimR_stop (by omega) (by assumption)], rfl⟩
  refine G_off rfl rfl rfl rfl ?_
  refine G_off rfl rfl rfl rfl ?_
  refine G_off rfl rfl rfl rfl ?_
  refine G_off rfl rfl rfl rfl ?_
  refine G_off rfl rfl rfl rfl ?_
  refine G_off rfl rfl rfl rfl ?_
  refine G_off rfl rfl rfl rfl ?_
  refine G_val rfl rfl rfl rfl (V_pickF rfl rfl rfl) ?_
  refine G_done ?_
  refine G_else rfl ?_
  refine G_exit rfl ?_
  refine G_seq ?_
  refine G_region (l := [0, 1]) rfl ?_
  refine G_val rfl rfl rfl rfl (V_move rfl rfl) ?_
  refine G_val rfl rfl rfl rfl (V_assign rfl rfl) ?_
  refine G_done ?_
  refine G_ret (post := []) Tryz.func91 rfl (RVs_cons (RV_tmp rfl) RVs_nil) [] rfl ?_
  dsimp only [packed]
  first | exact ⟨by rw [← hJ1, trimR_nil (by omega)], rfl⟩ | exact ⟨by rw [← hJ1, trimR_stop (by omega) (by assumption)], rfl⟩


theorem trimR_len (l : List UInt8) : (trimR l).length ≤ l.length := by
  unfold trimR
  have := (List.dropWhile_sublist (p := (· == (0 : UInt8))) (l := l.reverse)).length_le
  rw [List.length_reverse] at this ⊢
  exact this

set_option maxRecDepth 100000 in
set_option maxHeartbeats 1000000 in
theorem str_trim (l : List UInt8) (h : l.length ≤ 9223372036854775807) :
    Ct Tryz.prog 76 [.string (bs l), .string (bs [0])] [] [] fun v post => v = .string (bs (trimL (trimR l))) ∧ post = [] := by
 have hr := trimR_len l
 refine ct_of Tryz.func76 rfl rfl (fun w0 => ?_)
 show G _ _ [(0, _), (1, _)] _ _
 refine G_seq ?_
 refine G_region (l := [0]) rfl ?_
 refine G_val rfl rfl rfl rfl (V_assign rfl rfl) ?_
 refine G_done ?_
 refine G_seq ?_
 refine G_seq ?_
 refine G_region (l := [0, 1, 2, 3, 4, 5]) rfl ?_
 refine G_val rfl rfl rfl rfl (V_move rfl rfl) ?_
 refine G_val rfl rfl rfl rfl (V_seql rfl rfl rfl) ?_
 refine G_val rfl rfl rfl rfl (V_move rfl rfl) ?_
 refine G_splitD 9 rfl (fun hc1 => ?_) (fun hc1 => ?_)
 ·
  refine G_off rfl rfl rfl rfl ?_
  refine G_off rfl rfl rfl rfl ?_
  refine G_val rfl rfl rfl rfl (V_pickT rfl rfl rfl) ?_
  refine G_done ?_
  refine G_then rfl ?_
  refine G_seq ?_
  refine G_region (l := [0, 1]) rfl ?_
  refine G_val rfl rfl rfl rfl (V_move rfl rfl) ?_
  refine G_val rfl rfl rfl rfl (V_assign rfl rfl) ?_
  refine G_done ?_
  refine G_ret (post := []) Tryz.func76 rfl (RVs_cons (RV_tmp rfl) RVs_nil) [] rfl ?_
  dsimp only [packed]
  first | exact ⟨rfl, rfl⟩ | (subst hc1; exact ⟨rfl, rfl⟩)
 refine G_val rfl rfl rfl rfl (V_move rfl rfl) ?_
 refine G_val rfl rfl rfl rfl (V_seql rfl rfl rfl) ?_
 refine G_val rfl rfl rfl rfl (V_pickF rfl rfl rfl) ?_
 refine G_done ?_
 refine G_ifD rfl (fun hc2 => ?_) (fun hc2 => ?_)
 · (first | (exact absurd rfl hc2) | (exfalso; simp at hc2; done) | (exfalso; omega))
 refine G_skip ?_
 refine G_seq ?_
 refine G_seq ?_
 refine G_region (l := [0, 1, 2, 3, 4, 5, 6, 7]) rfl ?_
 refine G_val rfl rfl rfl rfl (V_move rfl rfl) ?_
 refine G_val rfl rfl rfl rfl (Val.int (e' := 1) (V_slen rfl rfl Tryz.underlying9 rfl) (rfl)) ?_
 refine G_val rfl rfl rfl rfl (V_eql rfl rfl rfl) ?_
 refine G_val rfl rfl rfl rfl (V_move rfl rfl) ?_
 refine G_splitD 17 rfl (fun hc3 => ?_) (fun hc3 => ?_)
 rotate_left
 · (first | (exact absurd rfl hc3) | (exfalso; simp at hc3; done) | (exfalso; omega))
 refine G_val rfl rfl rfl rfl (V_move rfl rfl) ?_
 refine G_val rfl rfl rfl rfl (Val.int (e' := 0) (V_sindexN (j := 0) rfl Tryz.underlying9 rfl rfl rfl (by decide)) (rfl)) ?_
 refine G_val rfl rfl rfl rfl (V_lss rfl rfl rfl) ?_
 refine G_val rfl rfl rfl rfl (V_pickT rfl rfl rfl) ?_
 refine G_done ?_
 refine G_ifD rfl (fun hc4 => ?_) (fun hc4 => ?_)
 rotate_left
 · (first | (exact absurd rfl hc4) | (exfalso; simp at hc4; done) | (exfalso; omega))
 refine G_seq ?_
 refine G_draw mixedK (by kernel_rfl) ?_
 refine GQ_val rfl rfl rfl rfl (V_move rfl rfl) ?_
 refine GQ_val rfl rfl rfl rfl (V_move rfl rfl) ?_
 refine GQ_val rfl rfl rfl rfl (Val.int (e' := 0) (V_sindexN (j := 0) rfl Tryz.underlying9 rfl rfl rfl (by decide)) (rfl)) ?_
 refine GQ_call rfl rfl rfl rfl rfl rfl Tryz.call91 (str_trimR _ (by first | omega | (simp; done) | (simp; omega) | (simp at *; omega))) [] rfl (fun v post hp => (hp : _ ∧ _).1) ?_
 refine GQ_val rfl rfl rfl rfl (V_move rfl rfl) ?_
 refine GQ_val rfl rfl rfl rfl (Val.int (e' := 0) (V_sindexN (j := 0) rfl Tryz.underlying9 rfl rfl rfl (by decide)) (rfl)) ?_
 refine GQ_call rfl rfl rfl rfl rfl rfl Tryz.call90 (str_trimL _ (by first | omega | (simp; done) | (simp; omega) | (simp at *; omega))) [] rfl (fun v post hp => (hp : _ ∧ _).1) ?_
 refine GQ_val rfl rfl rfl rfl (V_assign rfl rfl) ?_
 refine GQ_done rfl ?_
 refine G_ret (post := []) Tryz.func76 rfl (RVs_cons (RV_tmp rfl) RVs_nil) [] rfl ?_
 dsimp only [packed]
 first | exact ⟨rfl, rfl⟩ | (subst hc1; exact ⟨rfl, rfl⟩)

set_option maxRecDepth 100000 in
set_option maxHeartbeats 1000000 in
theorem str_join (o1 : Option Nat) (p1 q1 : Nat) (c1 : Array Value) (T1 : TypeId) (f1 : Nat × Nat) (ls : List (List UInt8)) (n : Nat) (hn : ls.length = n) (hs : Sees 1 o1 p1 q1 c1 (ls.map strC) ls.length) (h0 : 1 ≤ ls.flatten.length) (h8 : ls.flatten.length ≤ 8192) :
    Ct Tryz.prog 112 [sv o1 p1 n q1, .string (bs [])] [(o1, .cells c1 T1 f1)] [] fun v post => v = .string (bs ls.flatten) ∧ post = [] := by
 subst hn
 have hk1 := hs.le
 have hk2 := hs.max
 refine ct_of Tryz.func112 rfl rfl (fun w0 => ?_)
 show G _ _ [(0, _), (1, _)] _ _
 refine G_seq ?_
 refine G_region (l := [0]) rfl ?_
 refine G_val rfl rfl rfl rfl (V_assign rfl rfl) ?_
 refine G_done ?_
 refine G_seq ?_
 refine G_seq ?_
 refine G_region (l := [0, 1]) rfl ?_
 refine G_val rfl rfl rfl rfl (V_move rfl rfl) ?_
 refine G_val rfl rfl rfl rfl (V_len rfl rfl Tryz.underlying34 rfl) ?_
 refine G_done ?_
 refine G_block ?_
 refine G_seq ?_
 refine G_region (l := [0, 1]) rfl ?_
 refine G_val rfl rfl rfl rfl (V_eql rfl rfl rfl) ?_
 refine G_val rfl rfl rfl rfl (V_assign rfl rfl) ?_
 refine G_done ?_
 refine G_ifD rfl (fun hc1 => ?_) (fun hc1 => ?_)
 ·
  refine G_seq ?_
  refine G_region (l := [0]) rfl ?_
  refine G_val rfl rfl rfl rfl (V_assign rfl rfl) ?_
  refine G_done ?_
  refine G_ret (post := []) Tryz.func112 rfl (RVs_cons (RV_tmp rfl) RVs_nil) [] rfl ?_
  dsimp only [packed]
  first
    | exact ⟨by rw [List.take_of_length_le (show ls.length ≤ i + 1 by omega)], rfl⟩
    | exact ⟨by rw [join_one hx0 (by omega)]; rfl, rfl⟩
    | (exfalso; rw [List.length_eq_zero_iff.1 (show ls.length = 0 by omega)] at h0; simp at h0; done)
 refine G_seq ?_
 refine G_region (l := [0, 1]) rfl ?_
 refine G_val rfl rfl rfl rfl (V_eql rfl rfl rfl) ?_
 refine G_val rfl rfl rfl rfl (V_assign rfl rfl) ?_
 refine G_done ?_
 refine G_ifD rfl (fun hc2 => ?_) (fun hc2 => ?_)
 ·
  refine G_seq ?_
  obtain ⟨s0, hx0⟩ := getI (show 0 < ls.length by omega)
  obtain ⟨b1, rfl⟩ := hs.isSome (by omega)
  refine G_region (l := [0, 1, 2, 3]) rfl ?_
  refine G_val rfl rfl rfl rfl (V_move rfl rfl) ?_
  refine G_val rfl rfl rfl rfl (V_indexAddr (s := 1) rfl Tryz.underlying34 infFrameX_9 rfl rfl rfl (by omega) (by first | omega | (simp; done) | (simp; omega) | (simp at *; omega))) ?_
  refine G_val rfl rfl rfl rfl (V_load1 rfl rfl (mem_at 0 rfl) (nth_of (hs.cell hx0)) Tryz.underlying9 rfl) ?_
  refine G_val rfl rfl rfl rfl (V_assign rfl rfl) ?_
  refine G_done ?_
  refine G_ret (post := []) Tryz.func112 rfl (RVs_cons (RV_tmp rfl) RVs_nil) [] rfl ?_
  dsimp only [packed]
  first
    | exact ⟨by rw [List.take_of_length_le (show ls.length ≤ i + 1 by omega)], rfl⟩
    | exact ⟨by rw [join_one hx0 (by omega)]; rfl, rfl⟩
    | (exfalso; rw [List.length_eq_zero_iff.1 (show ls.length = 0 by omega)] at h0; simp at h0; done)
 refine G_skip ?_
 refine G_inBlock ?_
 refine G_seq ?_
 obtain ⟨s0, hx0⟩ := getI (show 0 < ls.length by omega)
 obtain ⟨b1, rfl⟩ := hs.isSome (by omega)
 refine G_region (l := [0]) rfl ?_
 refine G_val rfl rfl rfl rfl (V_assign rfl rfl) ?_
 refine G_done ?_
 refine G_seq ?_
 refine G_seq ?_
 refine G_region (l := [0, 1, 2]) rfl ?_
 refine G_val rfl rfl rfl rfl (V_move rfl rfl) ?_
 refine G_val rfl rfl rfl rfl (V_slen rfl rfl Tryz.underlying9 rfl) ?_
 refine G_val rfl rfl rfl rfl (V_gtr rfl rfl rfl) ?_
 refine G_done ?_
 refine G_ifD rfl (fun hc3 => ?_) (fun hc3 => ?_)
 · (first | (exact absurd rfl hc3) | (exfalso; simp at hc3; done) | (exfalso; omega))
 refine G_skip ?_
 refine G_seq ?_
 refine G_seq ?_
 refine G_region (l := [0, 1, 2]) rfl ?_
 refine G_val rfl rfl rfl rfl (V_move rfl rfl) ?_
 refine G_val rfl rfl rfl rfl (V_len rfl rfl Tryz.underlying34 rfl) ?_
 refine G_val rfl rfl rfl rfl (V_move rfl rfl) ?_
 refine G_done ?_
 refine G_block ?_
 refine G_sub ?he12 [] ?hl12 (G_loop (X := Nat) (fun i => i ≤ ls.length) (fun i => ls.length - i) (fun i => [(0, sv (some b1) p1 ls.length q1), (1, .string (bs [])), (5, .int .i64 ((ls.take i).flatten.length : Int)), (39, sv (some b1) p1 ls.length q1), (40, .int .i64 (ls.length : Int)), (41, .int .i64 (i : Int))]) (fun i => []) ?round12 0 ?h012)
 case he12 => exact (And.intro rfl (And.intro rfl (And.intro rfl (And.intro rfl (And.intro rfl (And.intro rfl trivial))))))
 case hl12 => exact ⟨_, rfl⟩
 case h012 => exact Nat.zero_le _
 case round12 =>
  intro i hJ ih
  try dsimp only at hJ ih
  refine G_seq ?_
  refine G_region (l := [0]) rfl ?_
  refine G_val rfl rfl rfl rfl (V_lss rfl rfl rfl) ?_
  refine G_done ?_
  refine G_seq ?_
  refine G_ifD rfl (fun hc4 => ?_) (fun hc4 => ?_)
  ·
   refine G_skip ?_
   refine G_seq ?_
   refine G_block ?_
   refine G_seq ?_
   obtain ⟨s, hx⟩ := getI (show i < ls.length by omega)
   have hf1 := flat_le ls (i + 1)
   have hf2 := congrArg List.length (flat_next hx)
   rw [List.length_append] at hf2
   refine G_region (l := [0, 1, 2]) rfl ?_
   refine G_val rfl rfl rfl rfl (V_indexAddrN (s := 1) rfl Tryz.underlying34 infFrameX_9 rfl rfl rfl rfl (by omega)) ?_
   refine G_val rfl rfl rfl rfl (V_load1 rfl rfl (mem_at 0 rfl) (nth_of (hs.cell hx)) Tryz.underlying9 rfl) ?_
   refine G_val rfl rfl rfl rfl (V_assign rfl rfl) ?_
   refine G_done ?_
   refine G_seq ?_
   refine G_seq ?_
   refine G_region (l := [0, 1, 2, 3, 4]) rfl ?_
   refine G_val rfl rfl rfl rfl (V_move rfl rfl) ?_
   refine G_val rfl rfl rfl rfl (V_slen rfl rfl Tryz.underlying9 rfl) ?_
   refine G_val rfl rfl rfl rfl (V_move rfl rfl) ?_
   refine G_val rfl rfl rfl rfl ((V_sub rfl rfl rfl).int (wrap_i64 (by omega))) ?_
   refine G_val rfl rfl rfl rfl (V_gtr rfl rfl rfl) ?_
   refine G_done ?_
   refine G_ifD rfl (fun hc5 => ?_) (fun hc5 => ?_)
   · (first | (exact absurd rfl hc5) | (exfalso; simp at hc5; done) | (exfalso; omega))
   refine G_skip ?_
   refine G_region (l := [0, 1, 2, 3, 4]) rfl ?_
   refine G_val rfl rfl rfl rfl (V_move rfl rfl) ?_
   refine G_val rfl rfl rfl rfl (V_move rfl rfl) ?_
   refine G_val rfl rfl rfl rfl (V_slen rfl rfl Tryz.underlying9 rfl) ?_
   refine G_val rfl rfl rfl rfl ((V_add rfl rfl rfl).int (wrap_i64 (by omega))) ?_
   rw [show (((ls.take i).flatten.length : Int) + (s.length : Int)) = (((ls.take (i + 1)).flatten.length : Nat) : Int) by rw [hf2]; omega]
   refine G_val rfl rfl rfl rfl (V_assign rfl rfl) ?_
   refine G_done ?_
   refine G_inBlock ?_
   refine G_region (l := [0, 1]) rfl ?_
   refine G_val rfl rfl rfl rfl ((V_add rfl rfl rfl).int (wrap_i64 (by omega))) ?_
   refine G_val rfl rfl rfl rfl (V_move rfl rfl) ?_
   refine G_done ?_
   refine G_sub ?_ [] ?_ (ih (i + 1) ?_ ?_)
   · (refine (And.intro ?_ (And.intro ?_ (And.intro ?_ (And.intro ?_ (And.intro ?_ (And.intro ?_ trivial)))))) <;> first | rfl | exact slot_int (by omega) | exact slot_int (by simp))
   · exact ⟨_, rfl⟩
   · omega
   · (first | omega | (dsimp only; omega))
  refine G_exit rfl ?_
  refine G_seq ?_
  obtain rfl : i = ls.length := by omega
  rw [List.take_length]
  refine G_region (l := [0]) rfl ?_
  refine G_new rfl rfl rfl rfl (N_allocA rfl infFrameX_98 rfl) (fun b8 => ?_)
  refine G_done ?_
  refine G_seq ?_
  refine G_region (l := [0, 1]) rfl ?_
  refine G_val rfl rfl rfl rfl (V_move rfl rfl) ?_
  refine G_call (L2 := []) rfl rfl rfl rfl rfl rfl Tryz.call47 (bld_grow _ _ (by omega) (by omega)) [0] [] rfl rfl ?_
  rintro v post ⟨rfl, u1, hu1, rfl⟩
  show G _ _ _ [_, _] _
  refine G_done ?_
  refine G_seq ?_
  have hf1 := flat_le ls (0 + 1)
  have hf2 := flat_first hx0
  have hf3 := congrArg List.length hf2
  refine G_region (l := [0, 1, 2, 3]) rfl ?_
  refine G_val rfl rfl rfl rfl (V_move rfl rfl) ?_
  refine G_val rfl rfl rfl rfl (V_indexAddr (s := 1) rfl Tryz.underlying34 infFrameX_9 rfl rfl rfl (by omega) (by first | omega | (simp; done) | (simp; omega) | (simp at *; omega))) ?_
  refine G_val rfl rfl rfl rfl (V_load1 rfl rfl (mem_at 0 rfl) (nth_of (hs.cell hx0)) Tryz.underlying9 rfl) ?_
  refine G_call (L2 := []) rfl rfl rfl rfl rfl rfl Tryz.call48 (bld_write _ _ _ [] s0 (.inr rfl) hu1 (by simp; omega)) [0, 0] [] rfl rfl ?_
  rintro v post ⟨rfl, u1, hu1, rfl⟩
  show G _ _ _ [_, _] _
  rw [List.nil_append, hf2] at hu1
  rw [List.nil_append, hf2]
  refine G_done ?_
  refine G_seq ?_
  refine G_seq ?_
  refine G_region (l := [0, 1, 2, 3]) rfl ?_
  refine G_val rfl rfl rfl rfl (V_move rfl rfl) ?_
  refine G_val rfl rfl rfl rfl (V_sliceLo (lo := 1) rfl Tryz.underlying34 infFrameX_9 rfl rfl rfl rfl (by first | omega | (simp; done) | (simp; omega) | (simp at *; omega)) (by first | omega | (simp; done) | (simp; omega) | (simp at *; omega))) ?_
  rw [if_neg (show ¬ q1 = 1 by omega)]
  refine G_val rfl rfl rfl rfl (V_len rfl rfl Tryz.underlying34 rfl) ?_
  refine G_val rfl rfl rfl rfl (V_move rfl rfl) ?_
  refine G_done ?_
  refine G_block ?_
  refine G_sub ?he22 [0, 0] ?hl22 (G_loop (X := Nat × Sl) (fun x => match x with | ⟨i, u⟩ => i + 1 ≤ ls.length ∧ Txt u (ls.take (i + 1)).flatten) (fun x => match x with | ⟨i, u⟩ => ls.length - i) (fun x => match x with | ⟨i, u⟩ => [(1, .string (bs [])), (8, .pointer (some ⟨b8, 0, none⟩)), (63, .slice (some ⟨b1, p1 + 1 * 1, none⟩) (ls.length - 1) (q1 - 1)), (64, .int .i64 ((ls.length - 1 : Nat) : Int)), (65, .int .i64 (i : Int))]) (fun x => match x with | ⟨i, u⟩ => [(some b8, .cells #[.pointer (some ⟨b8, 0, none⟩), u.v (ls.take (i + 1)).flatten.length] 98 (0, 0)), (u.ob, .cells u.cs 5 u.fz)]) ?round22 (0, u1) ?h022)
  case he22 => exact (And.intro rfl (And.intro rfl (And.intro rfl (And.intro rfl (And.intro rfl trivial)))))
  case hl22 => exact ⟨_, rfl⟩
  case h022 => exact ⟨by omega, hu1⟩
  case round22 =>
   intro x hJ ih
   try dsimp only at hJ ih
   obtain ⟨i, u⟩ := x
   try dsimp only at hJ ih
   obtain ⟨hi, hux⟩ := hJ
   show G _ _ [(1, .string (bs [])), (8, .pointer (some ⟨b8, 0, none⟩)), (63, .slice (some ⟨b1, p1 + 1 * 1, none⟩) (ls.length - 1) (q1 - 1)), (64, .int .i64 ((ls.length - 1 : Nat) : Int)), (65, .int .i64 (i : Int))] [(some b8, .cells #[.pointer (some ⟨b8, 0, none⟩), u.v (ls.take (i + 1)).flatten.length] 98 (0, 0)), (u.ob, .cells u.cs 5 u.fz)] _
   have hf0 := flat_le ls (i + 1)
   refine G_seq ?_
   refine G_region (l := [0]) rfl ?_
   refine G_val rfl rfl rfl rfl (V_lss rfl rfl rfl) ?_
   refine G_done ?_
   refine G_seq ?_
   refine G_ifD rfl (fun hc5 => ?_) (fun hc5 => ?_)
   ·
    refine G_skip ?_
    refine G_seq ?_
    refine G_block ?_
    refine G_seq ?_
    obtain ⟨s, hx⟩ := getI (show i + 1 < ls.length by omega)
    have hf1 := flat_le ls (i + 1 + 1)
    have hf2 := congrArg List.length (flat_next hx)
    rw [List.length_append] at hf2
    refine G_region (l := [0, 1, 2]) rfl ?_
    refine G_val rfl rfl rfl rfl (V_indexAddrN (s := 1) rfl Tryz.underlying34 infFrameX_9 rfl rfl rfl rfl (by omega)) ?_
    refine G_val rfl rfl rfl rfl (V_load1 rfl rfl (mem_at 0 rfl) (nth_of (by have := hs.cell hx; rwa [show p1 + (i + 1) * 1 = p1 + 1 * 1 + i * 1 by omega] at this)) Tryz.underlying9 rfl) ?_
    refine G_val rfl rfl rfl rfl (V_assign rfl rfl) ?_
    refine G_done ?_
    refine G_seq ?_
    refine G_region (l := [0, 1]) rfl ?_
    refine G_val rfl rfl rfl rfl (V_move rfl rfl) ?_
    refine G_call (L2 := []) rfl rfl rfl rfl rfl rfl Tryz.call48 (bld_write _ _ _ _ [] (.inr rfl) hux (by simp only [List.length_nil]; omega)) [0, 0] [] rfl rfl ?_
    rintro v post ⟨rfl, u1, hu1, rfl⟩
    show G _ _ _ [_, _] _
    rw [List.append_nil] at hu1 ⊢
    refine G_done ?_
    refine G_region (l := [0, 1]) rfl ?_
    refine G_val rfl rfl rfl rfl (V_move rfl rfl) ?_
    refine G_call (L2 := []) rfl rfl rfl rfl rfl rfl Tryz.call48 (bld_write _ _ _ _ s (.inr rfl) hu1 (by omega)) [0, 0] [] rfl rfl ?_
    rintro v post ⟨rfl, u1, hu1, rfl⟩
    show G _ _ _ [_, _] _
    rw [← flat_next hx] at hu1 ⊢
    refine G_done ?_
    refine G_inBlock ?_
    refine G_region (l := [0, 1]) rfl ?_
    refine G_val rfl rfl rfl rfl ((V_add rfl rfl rfl).int (wrap_i64 (by omega))) ?_
    refine G_val rfl rfl rfl rfl (V_move rfl rfl) ?_
    refine G_done ?_
    refine G_sub ?_ [0, 0] ?_ (ih (i + 1, u1) ?_ ?_)
    · (refine (And.intro ?_ (And.intro ?_ (And.intro ?_ (And.intro ?_ (And.intro ?_ trivial))))) <;> first | rfl | exact slot_int (by omega) | exact slot_int (by simp))
    · exact ⟨_, rfl⟩
    · exact ⟨by omega, hu1⟩
    · (first | omega | (dsimp only; omega))
   refine G_exit rfl ?_
   refine G_seq ?_
   refine G_region (l := [0, 1]) rfl ?_
   refine G_call (L2 := []) rfl rfl rfl rfl rfl rfl Tryz.call50 (bld_string _ _ _ _ hux (by have := flat_le ls (i + 1); omega)) [0, 0] [] rfl rfl ?_
   rintro v post ⟨rfl, u1, hu1, rfl⟩
   show G _ _ _ [_, _] _
   refine G_val rfl rfl rfl rfl (V_assign rfl rfl) ?_
   refine G_done ?_
   refine G_ret (post := []) Tryz.func112 rfl (RVs_cons (RV_tmp rfl) RVs_nil) [] rfl ?_
   dsimp only [packed]
   first
     | exact ⟨by rw [List.take_of_length_le (show ls.length ≤ i + 1 by omega)], rfl⟩
     | exact ⟨by rw [join_one hx0 (by omega)]; rfl, rfl⟩
     | (exfalso; rw [List.length_eq_zero_iff.1 (show ls.length = 0 by omega)] at h0; simp at h0; done)

end
end Go.Proofs.YtbblkgdejgoncaaGreatDoor

/- The walks of layer 25: the record with whose pieces a list begins; two lists of texts. -/
set_option linter.unusedSimpArgs false
set_option linter.unusedVariables false
namespace Go.Proofs.YtbblkgdejgoncaaGreatDoor
open Go Go.RowKit

section
theorem infFrameD_9 : Tryz.prog.info? 9 = some Tryz.t9 := by kernel_rfl


theorem first_at {ls : List (List UInt8)} (h : 0 < ls.length) : ls[0]? = some (firstF ls) := by
  match ls, h with
  | a :: r, _ => rfl
theorem dec_nil {ls : List (List UInt8)} (h : ls.length = 0) : decS ls = [] ∧ decM ls = 0 ∧ decE ls = 2 := by
  have e : decE ls = 2 := by unfold decE; rw [if_pos (List.length_eq_zero_iff.1 h)]
  exact ⟨by unfold decS; rw [if_neg (by omega)], by unfold decM; rw [if_neg (by omega)], e⟩
theorem dec_size {ls : List (List UInt8)} (h : 0 < ls.length) (h1 : ¬ sizeFE (firstF ls) = 0) : decS ls = [] ∧ decM ls = 0 ∧ decE ls = sizeFE (firstF ls) := by
  have e : decE ls = sizeFE (firstF ls) := by
    unfold decE; rw [if_neg (fun e => by rw [e] at h; cases h), if_pos h1]
  exact ⟨by unfold decS; rw [if_neg (by omega)], by unfold decM; rw [if_neg (by omega)], e⟩
theorem dec_short {ls : List (List UInt8)} (h : 0 < ls.length) (h1 : sizeFE (firstF ls) = 0) (h2 : ls.length < mF ls) : decS ls = [] ∧ decM ls = 0 ∧ decE ls = 2 := by
  have e : decE ls = 2 := by
    unfold decE; rw [if_neg (fun e => by rw [e] at h; cases h), if_neg (by omega), if_pos h2]
  exact ⟨by unfold decS; rw [if_neg (by omega)], by unfold decM; rw [if_neg (by omega)], e⟩
theorem dec_part {ls : List (List UInt8)} (h : 0 < ls.length) (h1 : sizeFE (firstF ls) = 0) (h2 : mF ls ≤ ls.length) (h3 : fullF ls = false) : decS ls = [] ∧ decM ls = 0 ∧ decE ls = 2 := by
  have e : decE ls = 2 := by
    unfold decE; rw [if_neg (fun e => by rw [e] at h; cases h), if_neg (by omega), if_neg (by omega), if_pos h3]
  exact ⟨by unfold decS; rw [if_neg (by omega)], by unfold decM; rw [if_neg (by omega)], e⟩
theorem dec_form {ls : List (List UInt8)} (h : 0 < ls.length) (h1 : sizeFE (firstF ls) = 0) (h2 : mF ls ≤ ls.length) (h3 : fullF ls = true) (h4 : ¬ allF ls = padF (recF ls)) : decS ls = [] ∧ decM ls = 0 ∧ decE ls = 3 := by
  have e : decE ls = 3 := by
    unfold decE; rw [if_neg (fun e => by rw [e] at h; cases h), if_neg (by omega), if_neg (by omega), if_neg (by simp [h3]), if_neg h4]
  exact ⟨by unfold decS; rw [if_neg (by omega)], by unfold decM; rw [if_neg (by omega)], e⟩
theorem dec_ok {ls : List (List UInt8)} (h : 0 < ls.length) (h1 : sizeFE (firstF ls) = 0) (h2 : mF ls ≤ ls.length) (h3 : fullF ls = true) (h4 : allF ls = padF (recF ls)) : decS ls = recF ls ∧ decM ls = mF ls ∧ decE ls = 0 := by
  have e : decE ls = 0 := by
    unfold decE; rw [if_neg (fun e => by rw [e] at h; cases h), if_neg (by omega), if_neg (by omega), if_neg (by simp [h3]), if_pos h4]
  exact ⟨by unfold decS; rw [if_pos e], by unfold decM; rw [if_pos e], e⟩
theorem rec_cut (ls : List (List UInt8)) : ((allF ls).take (6 + nF ls)).drop 6 = recF ls := by
  unfold recF; rw [List.drop_take]; congr 1; omega
theorem sum_cut (ls : List (List UInt8)) : ((allF ls).take 6).drop 2 = ((allF ls).drop 2).take 4 := by rw [List.drop_take]
theorem num_four (l : List UInt8) : num (l.take 4) < 4294967296 := by
  have h1 := num_lt (l.take 4)
  have : (256 : Nat) ^ (l.take 4).length ≤ 256 ^ 4 := Nat.pow_le_pow_right (by omega) (by simp; omega)
  omega
theorem take_at {α : Type} {l : List α} {i m : Nat} {x : α} (h : l[i]? = some x) (hi : i < m) : (l.take m)[i]? = some x := by rw [List.getElem?_take, if_pos hi]; exact h
theorem mF_le (ls : List (List UInt8)) : mF ls ≤ 21 := by
  have h := sizeF_le (firstF ls)
  have e : mF ls = manyN (sizeF (firstF ls)) := rfl
  rw [e]; unfold manyN; omega
theorem Sees.cut {ob : Option Nat} {off cap : Nat} {cs : Array Value} {ls : List (List UInt8)} (h : Sees 1 ob off cap cs (ls.map strC) ls.length) {m : Nat} (hm : m ≤ ls.length) : Sees 1 ob off cap cs ((ls.take m).map strC) (ls.take m).length := by
  refine ⟨by simp, by have := h.le; simp; omega, h.max, ?_, h.isNil⟩
  have h1 := congrArg (List.take m) h.part
  rw [List.take_take] at h1
  rw [List.map_take, ← h1, List.length_take]
  congr 1
  omega
/-- The pieces are those of the record just if all the bytes are its own. -/
theorem pieces_all {ls : List (List UInt8)} (h2 : mF ls ≤ ls.length) (h3 : fullF ls = true) : piecesF (recF ls) = ls.take (mF ls) ↔ allF ls = padF (recF ls) := by
  have h4 := recF_len h3 h2
  have h5 := allF_len h3 h2
  have h6 := fullF_all h3
  have hl : (ls.take (mF ls)).length = mF ls := by rw [List.length_take]; omega
  have e1 : chunks (mF ls) (allF ls) = ls.take (mF ls) := by
    have := chunks_flat _ h6
    rw [hl] at this
    exact this
  have e2 : piecesF (recF ls) = chunks (mF ls) (padF (recF ls)) := by unfold piecesF; rw [h4]; rfl
  rw [e2]
  constructor
  · intro e
    have h7 := padF_len (recF ls)
    rw [h4] at h7
    have := congrArg List.flatten e
    rw [flat_chunks (mF ls) _ h7] at this
    exact this.symm
  · intro e; rw [← e, e1]
theorem enc_rec {ls : List (List UInt8)} (h2 : mF ls ≤ ls.length) (h3 : fullF ls = true) : encF (recF ls) = piecesF (recF ls) ∧ (piecesF (recF ls)).length = mF ls := by
  have h4 := recF_len h3 h2
  have h5 := sizeF_le (firstF ls)
  have h6 : nF ls = sizeF (firstF ls) := rfl
  refine ⟨(encF_yes (by omega)).1, ?_⟩
  rw [piecesF_len, h4]; rfl

set_option maxRecDepth 100000 in
set_option maxHeartbeats 1000000 in
theorem fr_decode (o1 : Option Nat) (p1 q1 : Nat) (c1 : Array Value) (T1 : TypeId) (f1 : Nat × Nat) (ls : List (List UInt8)) (hs : Sees 1 o1 p1 q1 c1 (ls.map strC) ls.length) (hl : ∀ x ∈ ls, x.length ≤ 9223372036854775807) :
    Ct Tryz.prog 108 [sv o1 p1 ls.length q1] [(o1, .cells c1 T1 f1)] [] fun v post => v = .tuple #[.string (bs (decS ls)), .int .i64 (decM ls : Int), .int .i64 (decE ls)] ∧ post = [] := by
 have hk1 := hs.le
 have hk2 := hs.max
 have hmm : mF ls = manyN (nF ls) := rfl
 have hn1 : nF ls ≤ 1000 := sizeF_le _
 have hroom := manyN_room (nF ls)
 have hm21 := mF_le ls
 refine ct_of Tryz.func108 rfl rfl (fun w0 => ?_)
 show G _ _ [(0, _)] _ _
 refine G_seq ?_
 refine G_region (l := [0, 1, 2]) rfl ?_
 refine G_val rfl rfl rfl rfl (V_assign rfl rfl) ?_
 refine G_val rfl rfl rfl rfl (V_assign rfl rfl) ?_
 refine G_val rfl rfl rfl rfl (V_assign rfl rfl) ?_
 refine G_done ?_
 refine G_seq ?_
 refine G_seq ?_
 refine G_region (l := [0, 1, 2]) rfl ?_
 refine G_val rfl rfl rfl rfl (V_move rfl rfl) ?_
 refine G_val rfl rfl rfl rfl (V_len rfl rfl Tryz.underlying34 rfl) ?_
 refine G_val rfl rfl rfl rfl (V_eql rfl rfl rfl) ?_
 refine G_done ?_
 refine G_ifD rfl (fun hc1 => ?_) (fun hc1 => ?_)
 ·
  refine G_seq ?_
  refine G_region (l := [0, 1, 2]) rfl ?_
  refine G_val rfl rfl rfl rfl (V_assign rfl rfl) ?_
  refine G_val rfl rfl rfl rfl (V_assign rfl rfl) ?_
  refine G_val rfl rfl rfl rfl (V_assign rfl rfl) ?_
  refine G_done ?_
  refine G_ret (post := []) Tryz.func108 rfl (RVs_cons (RV_tmp rfl) (RVs_cons (RV_tmp rfl) (RVs_cons (RV_tmp rfl) RVs_nil))) [] rfl ?_
  dsimp only [packed]
  first
    | (suffices hz : ls.length = 0 by (obtain ⟨e1, e2, e3⟩ := dec_nil hz; rw [e1, e2, e3]; exact ⟨rfl, rfl⟩)
       omega)
    | (suffices hz : ¬ sizeFE (firstF ls) = 0 by (obtain ⟨e1, e2, e3⟩ := dec_size (ls := ls) (by omega) hz; rw [e1, e2, e3]; exact ⟨rfl, rfl⟩)
       omega)
    | (suffices hz : sizeFE (firstF ls) = 0 ∧ 0 < ls.length ∧ ls.length < mF ls by (obtain ⟨e1, e2, e3⟩ := dec_short hz.2.1 hz.1 hz.2.2; rw [e1, e2, e3]; exact ⟨rfl, rfl⟩)
       omega)
    | (suffices hz : sizeFE (firstF ls) = 0 ∧ 0 < ls.length ∧ mF ls ≤ ls.length ∧ ¬ s.length = 48 by (obtain ⟨e1, e2, e3⟩ := dec_part hz.2.1 hz.1 hz.2.2.1 (all_not (take_at hx (by omega)) (decide_eq_false hz.2.2.2)); rw [e1, e2, e3]; exact ⟨rfl, rfl⟩)
       omega)
    | (suffices hz : ¬ num (((allF ls).drop 2).take 4) = crcN ((allF ls).take 2 ++ recF ls) by (obtain ⟨e1, e2, e3⟩ := dec_form (ls := ls) (by omega) hse (by omega) hfu (fun e => hz (hpc.1 e).1); rw [e1, e2, e3]; exact ⟨rfl, rfl⟩)
       omega)
    | (suffices hz : ¬ trimL (trimR ((allF ls).drop (6 + nF ls))) = [] by (obtain ⟨e1, e2, e3⟩ := dec_form (ls := ls) (by omega) hse (by omega) hfu (fun e => hz ((trim_nil _).2 (hpc.1 e).2)); rw [e1, e2, e3]; exact ⟨rfl, rfl⟩)
       assumption)
    | (suffices hz : num (((allF ls).drop 2).take 4) = crcN ((allF ls).take 2 ++ recF ls) ∧ trimL (trimR ((allF ls).drop (6 + nF ls))) = [] by (obtain ⟨e1, e2, e3⟩ := dec_ok (ls := ls) (by omega) hse (by omega) hfu (hpc.2 ⟨hz.1, (trim_nil _).1 hz.2⟩); rw [e1, e2, e3]; exact ⟨rfl, rfl⟩)
       exact ⟨by omega, Classical.not_not.1 (by assumption)⟩)
 refine G_skip ?_
 refine G_seq ?_
 have hx0 := first_at (show 0 < ls.length by omega)
 have hl0 := hl _ (List.mem_of_getElem? hx0)
 obtain ⟨b1, rfl⟩ := hs.isSome (by omega)
 refine G_region (l := [0, 1, 2, 3, 4, 5, 6, 7, 8]) rfl ?_
 refine G_val rfl rfl rfl rfl (V_move rfl rfl) ?_
 refine G_val rfl rfl rfl rfl (V_indexAddr (s := 1) rfl Tryz.underlying34 infFrameD_9 rfl rfl rfl (by omega) (by first | omega | (simp; done) | (simp; omega) | (simp at *; omega))) ?_
 refine G_val rfl rfl rfl rfl (V_load1 rfl rfl (mem_at 0 rfl) (nth_of (hs.cell hx0)) Tryz.underlying9 rfl) ?_
 refine G_call (L2 := []) rfl rfl rfl rfl rfl rfl Tryz.call107 (fr_size (firstF ls) hl0) [] [] rfl rfl ?_
 rintro v post ⟨rfl, rfl⟩
 rw [show sizeF (firstF ls) = nF ls from rfl]
 refine G_val rfl rfl rfl rfl (V_move rfl rfl) ?_
 refine G_val rfl rfl rfl rfl (V_extract rfl rfl rfl) ?_
 refine G_val rfl rfl rfl rfl (V_extract rfl rfl rfl) ?_
 refine G_val rfl rfl rfl rfl (V_assign rfl rfl) ?_
 refine G_val rfl rfl rfl rfl (V_assign rfl rfl) ?_
 refine G_done ?_
 refine G_seq ?_
 refine G_seq ?_
 refine G_region (l := [0, 1]) rfl ?_
 refine G_val rfl rfl rfl rfl (V_move rfl rfl) ?_
 refine G_val rfl rfl rfl rfl (V_neq rfl rfl rfl) ?_
 refine G_done ?_
 refine G_ifD rfl (fun hc2 => ?_) (fun hc2 => ?_)
 ·
  refine G_seq ?_
  refine G_region (l := [0, 1, 2, 3]) rfl ?_
  refine G_val rfl rfl rfl rfl (V_move rfl rfl) ?_
  refine G_val rfl rfl rfl rfl (V_assign rfl rfl) ?_
  refine G_val rfl rfl rfl rfl (V_assign rfl rfl) ?_
  refine G_val rfl rfl rfl rfl (V_assign rfl rfl) ?_
  refine G_done ?_
  refine G_ret (post := []) Tryz.func108 rfl (RVs_cons (RV_tmp rfl) (RVs_cons (RV_tmp rfl) (RVs_cons (RV_tmp rfl) RVs_nil))) [] rfl ?_
  dsimp only [packed]
  first
    | (suffices hz : ls.length = 0 by (obtain ⟨e1, e2, e3⟩ := dec_nil hz; rw [e1, e2, e3]; exact ⟨rfl, rfl⟩)
       omega)
    | (suffices hz : ¬ sizeFE (firstF ls) = 0 by (obtain ⟨e1, e2, e3⟩ := dec_size (ls := ls) (by omega) hz; rw [e1, e2, e3]; exact ⟨rfl, rfl⟩)
       omega)
    | (suffices hz : sizeFE (firstF ls) = 0 ∧ 0 < ls.length ∧ ls.length < mF ls by (obtain ⟨e1, e2, e3⟩ := dec_short hz.2.1 hz.1 hz.2.2; rw [e1, e2, e3]; exact ⟨rfl, rfl⟩)
       omega)
    | (suffices hz : sizeFE (firstF ls) = 0 ∧ 0 < ls.length ∧ mF ls ≤ ls.length ∧ ¬ s.length = 48 by (obtain ⟨e1, e2, e3⟩ := dec_part hz.2.1 hz.1 hz.2.2.1 (all_not (take_at hx (by omega)) (decide_eq_false hz.2.2.2)); rw [e1, e2, e3]; exact ⟨rfl, rfl⟩)
       omega)
    | (suffices hz : ¬ num (((allF ls).drop 2).take 4) = crcN ((allF ls).take 2 ++ recF ls) by (obtain ⟨e1, e2, e3⟩ := dec_form (ls := ls) (by omega) hse (by omega) hfu (fun e => hz (hpc.1 e).1); rw [e1, e2, e3]; exact ⟨rfl, rfl⟩)
       omega)
    | (suffices hz : ¬ trimL (trimR ((allF ls).drop (6 + nF ls))) = [] by (obtain ⟨e1, e2, e3⟩ := dec_form (ls := ls) (by omega) hse (by omega) hfu (fun e => hz ((trim_nil _).2 (hpc.1 e).2)); rw [e1, e2, e3]; exact ⟨rfl, rfl⟩)
       assumption)
    | (suffices hz : num (((allF ls).drop 2).take 4) = crcN ((allF ls).take 2 ++ recF ls) ∧ trimL (trimR ((allF ls).drop (6 + nF ls))) = [] by (obtain ⟨e1, e2, e3⟩ := dec_ok (ls := ls) (by omega) hse (by omega) hfu (hpc.2 ⟨hz.1, (trim_nil _).1 hz.2⟩); rw [e1, e2, e3]; exact ⟨rfl, rfl⟩)
       exact ⟨by omega, Classical.not_not.1 (by assumption)⟩)
 refine G_skip ?_
 refine G_seq ?_
 refine G_region (l := [0, 1, 2]) rfl ?_
 refine G_val rfl rfl rfl rfl (V_move rfl rfl) ?_
 refine G_call (L2 := []) rfl rfl rfl rfl rfl rfl Tryz.call61 (fr_many _ (by omega)) [] [] rfl rfl ?_
 rintro v post ⟨rfl, rfl⟩
 rw [show manyN (nF ls) = mF ls from rfl]
 refine G_val rfl rfl rfl rfl (V_assign rfl rfl) ?_
 refine G_done ?_
 refine G_seq ?_
 refine G_seq ?_
 refine G_region (l := [0, 1, 2, 3]) rfl ?_
 refine G_val rfl rfl rfl rfl (V_move rfl rfl) ?_
 refine G_val rfl rfl rfl rfl (V_len rfl rfl Tryz.underlying34 rfl) ?_
 refine G_val rfl rfl rfl rfl (V_move rfl rfl) ?_
 refine G_val rfl rfl rfl rfl (V_lss rfl rfl rfl) ?_
 refine G_done ?_
 refine G_ifD rfl (fun hc3 => ?_) (fun hc3 => ?_)
 ·
  refine G_seq ?_
  refine G_region (l := [0, 1, 2]) rfl ?_
  refine G_val rfl rfl rfl rfl (V_assign rfl rfl) ?_
  refine G_val rfl rfl rfl rfl (V_assign rfl rfl) ?_
  refine G_val rfl rfl rfl rfl (V_assign rfl rfl) ?_
  refine G_done ?_
  refine G_ret (post := []) Tryz.func108 rfl (RVs_cons (RV_tmp rfl) (RVs_cons (RV_tmp rfl) (RVs_cons (RV_tmp rfl) RVs_nil))) [] rfl ?_
  dsimp only [packed]
  first
    | (suffices hz : ls.length = 0 by (obtain ⟨e1, e2, e3⟩ := dec_nil hz; rw [e1, e2, e3]; exact ⟨rfl, rfl⟩)
       omega)
    | (suffices hz : ¬ sizeFE (firstF ls) = 0 by (obtain ⟨e1, e2, e3⟩ := dec_size (ls := ls) (by omega) hz; rw [e1, e2, e3]; exact ⟨rfl, rfl⟩)
       omega)
    | (suffices hz : sizeFE (firstF ls) = 0 ∧ 0 < ls.length ∧ ls.length < mF ls by (obtain ⟨e1, e2, e3⟩ := dec_short hz.2.1 hz.1 hz.2.2; rw [e1, e2, e3]; exact ⟨rfl, rfl⟩)
       omega)
    | (suffices hz : sizeFE (firstF ls) = 0 ∧ 0 < ls.length ∧ mF ls ≤ ls.length ∧ ¬ s.length = 48 by (obtain ⟨e1, e2, e3⟩ := dec_part hz.2.1 hz.1 hz.2.2.1 (all_not (take_at hx (by omega)) (decide_eq_false hz.2.2.2)); rw [e1, e2, e3]; exact ⟨rfl, rfl⟩)
       omega)
    | (suffices hz : ¬ num (((allF ls).drop 2).take 4) = crcN ((allF ls).take 2 ++ recF ls) by (obtain ⟨e1, e2, e3⟩ := dec_form (ls := ls) (by omega) hse (by omega) hfu (fun e => hz (hpc.1 e).1); rw [e1, e2, e3]; exact ⟨rfl, rfl⟩)
       omega)
    | (suffices hz : ¬ trimL (trimR ((allF ls).drop (6 + nF ls))) = [] by (obtain ⟨e1, e2, e3⟩ := dec_form (ls := ls) (by omega) hse (by omega) hfu (fun e => hz ((trim_nil _).2 (hpc.1 e).2)); rw [e1, e2, e3]; exact ⟨rfl, rfl⟩)
       assumption)
    | (suffices hz : num (((allF ls).drop 2).take 4) = crcN ((allF ls).take 2 ++ recF ls) ∧ trimL (trimR ((allF ls).drop (6 + nF ls))) = [] by (obtain ⟨e1, e2, e3⟩ := dec_ok (ls := ls) (by omega) hse (by omega) hfu (hpc.2 ⟨hz.1, (trim_nil _).1 hz.2⟩); rw [e1, e2, e3]; exact ⟨rfl, rfl⟩)
       exact ⟨by omega, Classical.not_not.1 (by assumption)⟩)
 refine G_skip ?_
 refine G_seq ?_
 refine G_seq ?_
 refine G_region (l := [0, 1, 2, 3, 4]) rfl ?_
 refine G_val rfl rfl rfl rfl (V_move rfl rfl) ?_
 refine G_val rfl rfl rfl rfl (V_move rfl rfl) ?_
 refine G_val rfl rfl rfl rfl (V_sliceH rfl Tryz.underlying34 infFrameD_9 rfl rfl rfl (by first | omega | (simp; done) | (simp; omega) | (simp at *; omega))) ?_
 refine G_val rfl rfl rfl rfl (V_len rfl rfl Tryz.underlying34 rfl) ?_
 refine G_val rfl rfl rfl rfl (V_move rfl rfl) ?_
 refine G_done ?_
 refine G_block ?_
 refine G_sub ?he10 [] ?hl10 (G_loop (X := Nat) (fun i => i ≤ mF ls ∧ ((ls.take (mF ls)).take i).all (fun x => decide (x.length = 48)) = true) (fun i => mF ls - i) (fun i => [(0, sv (some b1) p1 ls.length q1), (5, .int .i64 (nF ls : Int)), (7, .int .i64 (mF ls : Int)), (36, .slice (some ⟨b1, p1, none⟩) (mF ls) q1), (37, .int .i64 (mF ls : Int)), (38, .int .i64 (i : Int))]) (fun i => []) ?round10 0 ?h010)
 case he10 => exact (And.intro rfl (And.intro rfl (And.intro rfl (And.intro rfl (And.intro rfl (And.intro rfl trivial))))))
 case hl10 => exact ⟨_, rfl⟩
 case h010 => exact ⟨Nat.zero_le _, rfl⟩
 case round10 =>
  intro i hJ ih
  try dsimp only at hJ ih
  obtain ⟨hi, ht⟩ := hJ
  refine G_seq ?_
  refine G_region (l := [0]) rfl ?_
  refine G_val rfl rfl rfl rfl (V_lss rfl rfl rfl) ?_
  refine G_done ?_
  refine G_seq ?_
  refine G_ifD rfl (fun hc4 => ?_) (fun hc4 => ?_)
  ·
   refine G_skip ?_
   refine G_seq ?_
   refine G_block ?_
   refine G_seq ?_
   obtain ⟨s, hx⟩ := getI (show i < ls.length by omega)
   have hls := hl _ (List.mem_of_getElem? hx)
   refine G_region (l := [0, 1, 2]) rfl ?_
   refine G_val rfl rfl rfl rfl (V_indexAddrN (s := 1) rfl Tryz.underlying34 infFrameD_9 rfl rfl rfl rfl (by omega)) ?_
   refine G_val rfl rfl rfl rfl (V_load1 rfl rfl (mem_at 0 rfl) (nth_of (hs.cell hx)) Tryz.underlying9 rfl) ?_
   refine G_val rfl rfl rfl rfl (V_assign rfl rfl) ?_
   refine G_done ?_
   refine G_seq ?_
   refine G_region (l := [0, 1, 2]) rfl ?_
   refine G_val rfl rfl rfl rfl (V_move rfl rfl) ?_
   refine G_val rfl rfl rfl rfl (V_slen rfl rfl Tryz.underlying9 rfl) ?_
   refine G_val rfl rfl rfl rfl (V_neq rfl rfl rfl) ?_
   refine G_done ?_
   refine G_ifD rfl (fun hc5 => ?_) (fun hc5 => ?_)
   ·
    refine G_seq ?_
    refine G_region (l := [0, 1, 2]) rfl ?_
    refine G_val rfl rfl rfl rfl (V_assign rfl rfl) ?_
    refine G_val rfl rfl rfl rfl (V_assign rfl rfl) ?_
    refine G_val rfl rfl rfl rfl (V_assign rfl rfl) ?_
    refine G_done ?_
    refine G_ret (post := []) Tryz.func108 rfl (RVs_cons (RV_tmp rfl) (RVs_cons (RV_tmp rfl) (RVs_cons (RV_tmp rfl) RVs_nil))) [] rfl ?_
    dsimp only [packed]
    first
      | (suffices hz : ls.length = 0 by (obtain ⟨e1, e2, e3⟩ := dec_nil hz; rw [e1, e2, e3]; exact ⟨rfl, rfl⟩)
         omega)
      | (suffices hz : ¬ sizeFE (firstF ls) = 0 by (obtain ⟨e1, e2, e3⟩ := dec_size (ls := ls) (by omega) hz; rw [e1, e2, e3]; exact ⟨rfl, rfl⟩)
         omega)
      | (suffices hz : sizeFE (firstF ls) = 0 ∧ 0 < ls.length ∧ ls.length < mF ls by (obtain ⟨e1, e2, e3⟩ := dec_short hz.2.1 hz.1 hz.2.2; rw [e1, e2, e3]; exact ⟨rfl, rfl⟩)
         omega)
      | (suffices hz : sizeFE (firstF ls) = 0 ∧ 0 < ls.length ∧ mF ls ≤ ls.length ∧ ¬ s.length = 48 by (obtain ⟨e1, e2, e3⟩ := dec_part hz.2.1 hz.1 hz.2.2.1 (all_not (take_at hx (by omega)) (decide_eq_false hz.2.2.2)); rw [e1, e2, e3]; exact ⟨rfl, rfl⟩)
         omega)
      | (suffices hz : ¬ num (((allF ls).drop 2).take 4) = crcN ((allF ls).take 2 ++ recF ls) by (obtain ⟨e1, e2, e3⟩ := dec_form (ls := ls) (by omega) hse (by omega) hfu (fun e => hz (hpc.1 e).1); rw [e1, e2, e3]; exact ⟨rfl, rfl⟩)
         omega)
      | (suffices hz : ¬ trimL (trimR ((allF ls).drop (6 + nF ls))) = [] by (obtain ⟨e1, e2, e3⟩ := dec_form (ls := ls) (by omega) hse (by omega) hfu (fun e => hz ((trim_nil _).2 (hpc.1 e).2)); rw [e1, e2, e3]; exact ⟨rfl, rfl⟩)
         assumption)
      | (suffices hz : num (((allF ls).drop 2).take 4) = crcN ((allF ls).take 2 ++ recF ls) ∧ trimL (trimR ((allF ls).drop (6 + nF ls))) = [] by (obtain ⟨e1, e2, e3⟩ := dec_ok (ls := ls) (by omega) hse (by omega) hfu (hpc.2 ⟨hz.1, (trim_nil _).1 hz.2⟩); rw [e1, e2, e3]; exact ⟨rfl, rfl⟩)
         exact ⟨by omega, Classical.not_not.1 (by assumption)⟩)
   refine G_skip ?_
   refine G_inBlock ?_
   refine G_region (l := [0, 1]) rfl ?_
   refine G_val rfl rfl rfl rfl ((V_add rfl rfl rfl).int (wrap_i64 (by omega))) ?_
   refine G_val rfl rfl rfl rfl (V_move rfl rfl) ?_
   refine G_done ?_
   refine G_sub ?_ [] ?_ (ih (i + 1) ?_ ?_)
   · (refine (And.intro ?_ (And.intro ?_ (And.intro ?_ (And.intro ?_ (And.intro ?_ (And.intro ?_ trivial)))))) <;> first | rfl | exact slot_int (by omega) | exact slot_int (by simp))
   · exact ⟨_, rfl⟩
   · exact ⟨by omega, all_next ht (take_at hx (by omega)) (decide_eq_true (by omega))⟩
   · (first | omega | (dsimp only; omega))
  refine G_exit rfl ?_
  refine G_seq ?_
  obtain rfl : i = mF ls := by omega
  have hfu : fullF ls = true := all_end ht (by rw [List.length_take]; omega)
  have hal := allF_len hfu (by omega)
  have hrl := recF_len hfu (by omega)
  have hse : sizeFE (firstF ls) = 0 := by omega
  refine G_region (l := [0, 1, 2, 3, 4]) rfl ?_
  refine G_val rfl rfl rfl rfl (V_move rfl rfl) ?_
  refine G_val rfl rfl rfl rfl (V_move rfl rfl) ?_
  refine G_val rfl rfl rfl rfl (V_sliceH rfl Tryz.underlying34 infFrameD_9 rfl rfl rfl (by first | omega | (simp; done) | (simp; omega) | (simp at *; omega))) ?_
  refine G_call (L2 := []) rfl rfl rfl rfl rfl rfl Tryz.call112 (str_join (some b1) p1 q1 c1 T1 f1 (ls.take (mF ls)) (mF ls) (by rw [List.length_take]; omega) (hs.cut (by omega)) (by rw [show (ls.take (mF ls)).flatten = allF ls from rfl]; omega) (by rw [show (ls.take (mF ls)).flatten = allF ls from rfl]; omega)) [] [0] rfl rfl ?_
  rintro v post ⟨rfl, rfl⟩
  rw [show (ls.take (mF ls)).flatten = allF ls from rfl]
  refine G_val rfl rfl rfl rfl (V_assign rfl rfl) ?_
  refine G_done ?_
  refine G_seq ?_
  refine G_draw mixedK (by kernel_rfl) ?_
  refine GQ_val rfl rfl rfl rfl (V_move rfl rfl) ?_
  refine GQ_val rfl rfl rfl rfl (V_move rfl rfl) ?_
  refine GQ_val rfl rfl rfl rfl (Val.int (e' := ((6 + nF ls : Nat) : Int)) (V_add rfl rfl rfl) (add6 _ (by omega))) ?_
  refine GQ_val rfl rfl rfl rfl (V_ssliceN (lo := 6) (hi := _) rfl Tryz.underlying9 rfl rfl rfl rfl rfl (by first | omega | (simp; done) | (simp; omega) | (simp at *; omega)) (by first | omega | (simp; done) | (simp; omega) | (simp at *; omega))) ?_
  refine GQ_val rfl rfl rfl rfl (V_move rfl rfl) ?_
  refine GQ_val rfl rfl rfl rfl (V_move rfl rfl) ?_
  refine GQ_val rfl rfl rfl rfl (Val.int (e' := ((6 + nF ls : Nat) : Int)) (V_add rfl rfl rfl) (add6 _ (by omega))) ?_
  refine GQ_val rfl rfl rfl rfl (V_ssliceLN (lo := _) rfl Tryz.underlying9 rfl rfl rfl (by first | omega | (simp; done) | (simp; omega) | (simp at *; omega))) ?_
  refine GQ_val rfl rfl rfl rfl (V_assign rfl rfl) ?_
  refine GQ_val rfl rfl rfl rfl (V_assign rfl rfl) ?_
  refine GQ_done rfl ?_
  refine G_seq ?_
  rw [rec_cut]
  refine G_region (l := [0, 1, 2, 3, 4, 5, 6, 7]) rfl ?_
  refine G_val rfl rfl rfl rfl (V_move rfl rfl) ?_
  refine G_val rfl rfl rfl rfl (V_ssliceN (lo := 2) (hi := 6) rfl Tryz.underlying9 rfl rfl rfl rfl rfl (by first | omega | (simp; done) | (simp; omega) | (simp at *; omega)) (by first | omega | (simp; done) | (simp; omega) | (simp at *; omega))) ?_
  rw [sum_cut]
  refine G_call (L2 := []) rfl rfl rfl rfl rfl rfl Tryz.call101 (ct_number (((allF ls).drop 2).take 4) (by simp; omega) (by simp; omega)) [] [] rfl rfl ?_
  rintro v post ⟨rfl, rfl⟩
  refine G_val rfl rfl rfl rfl (V_move rfl rfl) ?_
  refine G_val rfl rfl rfl rfl (V_extract rfl rfl rfl) ?_
  refine G_val rfl rfl rfl rfl (V_extract rfl rfl rfl) ?_
  refine G_val rfl rfl rfl rfl (V_assign rfl rfl) ?_
  refine G_val rfl rfl rfl rfl (V_assign rfl rfl) ?_
  refine G_done ?_
  refine G_seq ?_
  refine G_seq ?_
  have hn4 := num_four ((allF ls).drop 2)
  have hpc := pad_cases hfu (by omega) hse (fun e => by rw [e] at hx0; cases hx0)
  refine G_region (l := [0, 1, 2, 3, 4, 5, 6, 7, 8, 9, 10, 11, 12]) rfl ?_
  refine G_val rfl rfl rfl rfl (V_move rfl rfl) ?_
  refine G_val rfl rfl rfl rfl ((V_conv rfl rfl Tryz.underlying124 Tryz.underlying50).int (wrap_u32 (by omega))) ?_
  refine G_val rfl rfl rfl rfl (V_move rfl rfl) ?_
  refine G_val rfl rfl rfl rfl (V_ssliceHN (hi := 2) rfl Tryz.underlying9 rfl rfl rfl (by first | omega | (simp; done) | (simp; omega) | (simp at *; omega))) ?_
  refine G_val rfl rfl rfl rfl (V_move rfl rfl) ?_
  refine G_new rfl rfl rfl rfl (N_buildAll (s := 1) (cs := [_, _]) rfl Tryz.underlying34 infFrameD_9 rfl rfl rfl rfl rfl rfl rfl rfl rfl) (fun b69 => ?_)
  refine G_call (L2 := [_]) rfl rfl rfl rfl rfl rfl Tryz.call80 (sum_of (some b69) 0 2 _ _ _ [(allF ls).take 2, recF ls] (sees_strs b69 2 [(allF ls).take 2, recF ls] rfl (by omega)) (by intro x hx; simp only [List.mem_cons, List.not_mem_nil, or_false] at hx; rcases hx with rfl | rfl <;> first | omega | (simp; omega))) [] [1] rfl rfl ?_
  rintro v post ⟨rfl, rfl⟩
  show G _ _ _ [_] _
  rw [crcW_two]
  refine G_val rfl rfl rfl rfl (V_neq rfl rfl rfl) ?_
  refine G_val rfl rfl rfl rfl (V_move rfl rfl) ?_
  refine G_splitD 72 rfl (fun hc5 => ?_) (fun hc5 => ?_)
  ·
   refine G_off rfl rfl rfl rfl ?_
   refine G_off rfl rfl rfl rfl ?_
   refine G_off rfl rfl rfl rfl ?_
   refine G_val rfl rfl rfl rfl (V_pickT rfl rfl rfl) ?_
   refine G_done ?_
   refine G_then rfl ?_
   refine G_seq ?_
   refine G_region (l := [0, 1, 2]) rfl ?_
   refine G_val rfl rfl rfl rfl (V_assign rfl rfl) ?_
   refine G_val rfl rfl rfl rfl (V_assign rfl rfl) ?_
   refine G_val rfl rfl rfl rfl (V_assign rfl rfl) ?_
   refine G_done ?_
   refine G_ret (post := []) Tryz.func108 rfl (RVs_cons (RV_tmp rfl) (RVs_cons (RV_tmp rfl) (RVs_cons (RV_tmp rfl) RVs_nil))) [] rfl ?_
   dsimp only [packed]
   first
     | (suffices hz : ls.length = 0 by (obtain ⟨e1, e2, e3⟩ := dec_nil hz; rw [e1, e2, e3]; exact ⟨rfl, rfl⟩)
        omega)
     | (suffices hz : ¬ sizeFE (firstF ls) = 0 by (obtain ⟨e1, e2, e3⟩ := dec_size (ls := ls) (by omega) hz; rw [e1, e2, e3]; exact ⟨rfl, rfl⟩)
        omega)
     | (suffices hz : sizeFE (firstF ls) = 0 ∧ 0 < ls.length ∧ ls.length < mF ls by (obtain ⟨e1, e2, e3⟩ := dec_short hz.2.1 hz.1 hz.2.2; rw [e1, e2, e3]; exact ⟨rfl, rfl⟩)
        omega)
     | (suffices hz : sizeFE (firstF ls) = 0 ∧ 0 < ls.length ∧ mF ls ≤ ls.length ∧ ¬ s.length = 48 by (obtain ⟨e1, e2, e3⟩ := dec_part hz.2.1 hz.1 hz.2.2.1 (all_not (take_at hx (by omega)) (decide_eq_false hz.2.2.2)); rw [e1, e2, e3]; exact ⟨rfl, rfl⟩)
        omega)
     | (suffices hz : ¬ num (((allF ls).drop 2).take 4) = crcN ((allF ls).take 2 ++ recF ls) by (obtain ⟨e1, e2, e3⟩ := dec_form (ls := ls) (by omega) hse (by omega) hfu (fun e => hz (hpc.1 e).1); rw [e1, e2, e3]; exact ⟨rfl, rfl⟩)
        omega)
     | (suffices hz : ¬ trimL (trimR ((allF ls).drop (6 + nF ls))) = [] by (obtain ⟨e1, e2, e3⟩ := dec_form (ls := ls) (by omega) hse (by omega) hfu (fun e => hz ((trim_nil _).2 (hpc.1 e).2)); rw [e1, e2, e3]; exact ⟨rfl, rfl⟩)
        assumption)
     | (suffices hz : num (((allF ls).drop 2).take 4) = crcN ((allF ls).take 2 ++ recF ls) ∧ trimL (trimR ((allF ls).drop (6 + nF ls))) = [] by (obtain ⟨e1, e2, e3⟩ := dec_ok (ls := ls) (by omega) hse (by omega) hfu (hpc.2 ⟨hz.1, (trim_nil _).1 hz.2⟩); rw [e1, e2, e3]; exact ⟨rfl, rfl⟩)
        exact ⟨by omega, Classical.not_not.1 (by assumption)⟩)
  refine G_val rfl rfl rfl rfl (V_move rfl rfl) ?_
  refine G_call (L2 := [_]) rfl rfl rfl rfl rfl rfl Tryz.call76 (str_trim ((allF ls).drop (6 + nF ls)) (by simp; omega)) [] [] rfl rfl ?_
  rintro v post ⟨rfl, rfl⟩
  show G _ _ _ [_] _
  refine G_val rfl rfl rfl rfl (V_sneq rfl rfl rfl) ?_
  refine G_val rfl rfl rfl rfl (V_pickF rfl rfl rfl) ?_
  refine G_done ?_
  refine G_ifD rfl (fun hc6 => ?_) (fun hc6 => ?_)
  ·
   refine G_seq ?_
   refine G_region (l := [0, 1, 2]) rfl ?_
   refine G_val rfl rfl rfl rfl (V_assign rfl rfl) ?_
   refine G_val rfl rfl rfl rfl (V_assign rfl rfl) ?_
   refine G_val rfl rfl rfl rfl (V_assign rfl rfl) ?_
   refine G_done ?_
   refine G_ret (post := []) Tryz.func108 rfl (RVs_cons (RV_tmp rfl) (RVs_cons (RV_tmp rfl) (RVs_cons (RV_tmp rfl) RVs_nil))) [] rfl ?_
   dsimp only [packed]
   first
     | (suffices hz : ls.length = 0 by (obtain ⟨e1, e2, e3⟩ := dec_nil hz; rw [e1, e2, e3]; exact ⟨rfl, rfl⟩)
        omega)
     | (suffices hz : ¬ sizeFE (firstF ls) = 0 by (obtain ⟨e1, e2, e3⟩ := dec_size (ls := ls) (by omega) hz; rw [e1, e2, e3]; exact ⟨rfl, rfl⟩)
        omega)
     | (suffices hz : sizeFE (firstF ls) = 0 ∧ 0 < ls.length ∧ ls.length < mF ls by (obtain ⟨e1, e2, e3⟩ := dec_short hz.2.1 hz.1 hz.2.2; rw [e1, e2, e3]; exact ⟨rfl, rfl⟩)
        omega)
     | (suffices hz : sizeFE (firstF ls) = 0 ∧ 0 < ls.length ∧ mF ls ≤ ls.length ∧ ¬ s.length = 48 by (obtain ⟨e1, e2, e3⟩ := dec_part hz.2.1 hz.1 hz.2.2.1 (all_not (take_at hx (by omega)) (decide_eq_false hz.2.2.2)); rw [e1, e2, e3]; exact ⟨rfl, rfl⟩)
        omega)
     | (suffices hz : ¬ num (((allF ls).drop 2).take 4) = crcN ((allF ls).take 2 ++ recF ls) by (obtain ⟨e1, e2, e3⟩ := dec_form (ls := ls) (by omega) hse (by omega) hfu (fun e => hz (hpc.1 e).1); rw [e1, e2, e3]; exact ⟨rfl, rfl⟩)
        omega)
     | (suffices hz : ¬ trimL (trimR ((allF ls).drop (6 + nF ls))) = [] by (obtain ⟨e1, e2, e3⟩ := dec_form (ls := ls) (by omega) hse (by omega) hfu (fun e => hz ((trim_nil _).2 (hpc.1 e).2)); rw [e1, e2, e3]; exact ⟨rfl, rfl⟩)
        assumption)
     | (suffices hz : num (((allF ls).drop 2).take 4) = crcN ((allF ls).take 2 ++ recF ls) ∧ trimL (trimR ((allF ls).drop (6 + nF ls))) = [] by (obtain ⟨e1, e2, e3⟩ := dec_ok (ls := ls) (by omega) hse (by omega) hfu (hpc.2 ⟨hz.1, (trim_nil _).1 hz.2⟩); rw [e1, e2, e3]; exact ⟨rfl, rfl⟩)
        exact ⟨by omega, Classical.not_not.1 (by assumption)⟩)
  refine G_skip ?_
  refine G_seq ?_
  refine G_region (l := [0, 1, 2, 3, 4]) rfl ?_
  refine G_val rfl rfl rfl rfl (V_move rfl rfl) ?_
  refine G_val rfl rfl rfl rfl (V_move rfl rfl) ?_
  refine G_val rfl rfl rfl rfl (V_assign rfl rfl) ?_
  refine G_val rfl rfl rfl rfl (V_assign rfl rfl) ?_
  refine G_val rfl rfl rfl rfl (V_assign rfl rfl) ?_
  refine G_done ?_
  refine G_ret (post := []) Tryz.func108 rfl (RVs_cons (RV_tmp rfl) (RVs_cons (RV_tmp rfl) (RVs_cons (RV_tmp rfl) RVs_nil))) [] rfl ?_
  dsimp only [packed]
  first
    | (suffices hz : ls.length = 0 by (obtain ⟨e1, e2, e3⟩ := dec_nil hz; rw [e1, e2, e3]; exact ⟨rfl, rfl⟩)
       omega)
    | (suffices hz : ¬ sizeFE (firstF ls) = 0 by (obtain ⟨e1, e2, e3⟩ := dec_size (ls := ls) (by omega) hz; rw [e1, e2, e3]; exact ⟨rfl, rfl⟩)
       omega)
    | (suffices hz : sizeFE (firstF ls) = 0 ∧ 0 < ls.length ∧ ls.length < mF ls by (obtain ⟨e1, e2, e3⟩ := dec_short hz.2.1 hz.1 hz.2.2; rw [e1, e2, e3]; exact ⟨rfl, rfl⟩)
       omega)
    | (suffices hz : sizeFE (firstF ls) = 0 ∧ 0 < ls.length ∧ mF ls ≤ ls.length ∧ ¬ s.length = 48 by (obtain ⟨e1, e2, e3⟩ := dec_part hz.2.1 hz.1 hz.2.2.1 (all_not (take_at hx (by omega)) (decide_eq_false hz.2.2.2)); rw [e1, e2, e3]; exact ⟨rfl, rfl⟩)
       omega)
    | (suffices hz : ¬ num (((allF ls).drop 2).take 4) = crcN ((allF ls).take 2 ++ recF ls) by (obtain ⟨e1, e2, e3⟩ := dec_form (ls := ls) (by omega) hse (by omega) hfu (fun e => hz (hpc.1 e).1); rw [e1, e2, e3]; exact ⟨rfl, rfl⟩)
       omega)
    | (suffices hz : ¬ trimL (trimR ((allF ls).drop (6 + nF ls))) = [] by (obtain ⟨e1, e2, e3⟩ := dec_form (ls := ls) (by omega) hse (by omega) hfu (fun e => hz ((trim_nil _).2 (hpc.1 e).2)); rw [e1, e2, e3]; exact ⟨rfl, rfl⟩)
       assumption)
    | (suffices hz : num (((allF ls).drop 2).take 4) = crcN ((allF ls).take 2 ++ recF ls) ∧ trimL (trimR ((allF ls).drop (6 + nF ls))) = [] by (obtain ⟨e1, e2, e3⟩ := dec_ok (ls := ls) (by omega) hse (by omega) hfu (hpc.2 ⟨hz.1, (trim_nil _).1 hz.2⟩); rw [e1, e2, e3]; exact ⟨rfl, rfl⟩)
       exact ⟨by omega, Classical.not_not.1 (by assumption)⟩)

set_option maxRecDepth 100000 in
set_option maxHeartbeats 1000000 in
theorem ref_texts (o1 : Option Nat) (p1 q1 : Nat) (c1 : Array Value) (T1 : TypeId) (f1 : Nat × Nat) (o2 : Option Nat) (p2 q2 : Nat) (c2 : Array Value) (T2 : TypeId) (f2 : Nat × Nat) (ls ms : List (List UInt8)) (h1 : Sees 1 o1 p1 q1 c1 (ls.map strC) ls.length) (h2 : Sees 1 o2 p2 q2 c2 (ms.map strC) ms.length) :
    Ct Tryz.prog 20 [sv o1 p1 ls.length q1, sv o2 p2 ms.length q2] [(o1, .cells c1 T1 f1), (o2, .cells c2 T2 f2)] [] fun v post => v = .bool (decide (ls = ms)) ∧ post = [] := by
 have hk1 := h1.le
 have hk2 := h1.max
 have hk3 := h2.le
 have hk4 := h2.max
 refine ct_of Tryz.func20 rfl rfl (fun w0 => ?_)
 show G _ _ [(0, _), (1, _)] _ _
 refine G_seq ?_
 refine G_region (l := [0]) rfl ?_
 refine G_val rfl rfl rfl rfl (V_assign rfl rfl) ?_
 refine G_done ?_
 refine G_seq ?_
 refine G_seq ?_
 refine G_region (l := [0, 1, 2, 3, 4]) rfl ?_
 refine G_val rfl rfl rfl rfl (V_move rfl rfl) ?_
 refine G_val rfl rfl rfl rfl (V_len rfl rfl Tryz.underlying34 rfl) ?_
 refine G_val rfl rfl rfl rfl (V_move rfl rfl) ?_
 refine G_val rfl rfl rfl rfl (V_len rfl rfl Tryz.underlying34 rfl) ?_
 refine G_val rfl rfl rfl rfl (V_neq rfl rfl rfl) ?_
 refine G_done ?_
 refine G_ifD rfl (fun hc1 => ?_) (fun hc1 => ?_)
 ·
  refine G_seq ?_
  refine G_region (l := [0]) rfl ?_
  refine G_val rfl rfl rfl rfl (V_assign rfl rfl) ?_
  refine G_done ?_
  refine G_ret (post := []) Tryz.func20 rfl (RVs_cons (RV_tmp rfl) RVs_nil) [] rfl ?_
  dsimp only [packed]
  first
    | exact ⟨bool_eq (decide_eq_false (ne_len (by omega))).symm, rfl⟩
    | exact ⟨bool_eq (decide_eq_false (ne_at hx hy (by assumption))).symm, rfl⟩
    | exact ⟨bool_eq (decide_eq_true (eq_end ht (by omega) (by omega))).symm, rfl⟩
 refine G_skip ?_
 refine G_seq ?_
 refine G_seq ?_
 refine G_region (l := [0]) rfl ?_
 refine G_val rfl rfl rfl rfl (V_assign rfl rfl) ?_
 refine G_done ?_
 refine G_block ?_
 refine G_sub ?he4 [] ?hl4 (G_loop (X := Nat) (fun i => i ≤ ls.length ∧ ls.length = ms.length ∧ ls.take i = ms.take i) (fun i => ls.length - i) (fun i => [(0, sv o1 p1 ls.length q1), (1, sv o2 p2 ms.length q2), (5, .int .i64 (i : Int))]) (fun i => []) ?round4 0 ?h04)
 case he4 => exact (And.intro rfl (And.intro rfl (And.intro rfl trivial)))
 case hl4 => exact ⟨_, rfl⟩
 case h04 => exact ⟨Nat.zero_le _, by omega, rfl⟩
 case round4 =>
  intro i hJ ih
  try dsimp only at hJ ih
  obtain ⟨hi, hlen, ht⟩ := hJ
  refine G_seq ?_
  refine G_seq ?_
  refine G_region (l := [0, 1, 2, 3]) rfl ?_
  refine G_val rfl rfl rfl rfl (V_move rfl rfl) ?_
  refine G_val rfl rfl rfl rfl (V_move rfl rfl) ?_
  refine G_val rfl rfl rfl rfl (V_len rfl rfl Tryz.underlying34 rfl) ?_
  refine G_val rfl rfl rfl rfl (V_lss rfl rfl rfl) ?_
  refine G_done ?_
  refine G_ifD rfl (fun hc2 => ?_) (fun hc2 => ?_)
  ·
   refine G_skip ?_
   refine G_seq ?_
   refine G_block ?_
   refine G_seq ?_
   obtain ⟨x, hx⟩ := getI (show i < ls.length by omega)
   obtain ⟨y, hy⟩ := getI (show i < ms.length by omega)
   obtain ⟨b1, rfl⟩ := h1.isSome (by omega)
   obtain ⟨b2, rfl⟩ := h2.isSome (by omega)
   refine G_draw mixedK (by kernel_rfl) ?_
   refine GQ_val rfl rfl rfl rfl (V_move rfl rfl) ?_
   refine GQ_val rfl rfl rfl rfl (V_move rfl rfl) ?_
   refine GQ_val rfl rfl rfl rfl (V_indexAddrN (s := 1) rfl Tryz.underlying34 infFrameD_9 rfl rfl rfl rfl (by omega)) ?_
   refine GQ_val rfl rfl rfl rfl (V_load1 rfl rfl (mem_at 0 rfl) (nth_of (h1.cell hx)) Tryz.underlying9 rfl) ?_
   refine GQ_val rfl rfl rfl rfl (V_move rfl rfl) ?_
   refine GQ_val rfl rfl rfl rfl (V_move rfl rfl) ?_
   refine GQ_val rfl rfl rfl rfl (V_indexAddrN (s := 1) rfl Tryz.underlying34 infFrameD_9 rfl rfl rfl rfl (by omega)) ?_
   refine GQ_val rfl rfl rfl rfl (V_load1 rfl rfl (mem_at 1 rfl) (nth_of (h2.cell hy)) Tryz.underlying9 rfl) ?_
   refine GQ_val rfl rfl rfl rfl (V_sneq rfl rfl rfl) ?_
   refine GQ_done rfl ?_
   refine G_ifD rfl (fun hc3 => ?_) (fun hc3 => ?_)
   ·
    refine G_seq ?_
    refine G_region (l := [0]) rfl ?_
    refine G_val rfl rfl rfl rfl (V_assign rfl rfl) ?_
    refine G_done ?_
    refine G_ret (post := []) Tryz.func20 rfl (RVs_cons (RV_tmp rfl) RVs_nil) [] rfl ?_
    dsimp only [packed]
    first
      | exact ⟨bool_eq (decide_eq_false (ne_len (by omega))).symm, rfl⟩
      | exact ⟨bool_eq (decide_eq_false (ne_at hx hy (by assumption))).symm, rfl⟩
      | exact ⟨bool_eq (decide_eq_true (eq_end ht (by omega) (by omega))).symm, rfl⟩
   refine G_skip ?_
   refine G_inBlock ?_
   refine G_region (l := [0, 1, 2]) rfl ?_
   refine G_val rfl rfl rfl rfl (V_move rfl rfl) ?_
   refine G_val rfl rfl rfl rfl ((V_add rfl rfl rfl).int (wrap_i64 (by omega))) ?_
   refine G_val rfl rfl rfl rfl (V_assign rfl rfl) ?_
   refine G_done ?_
   refine G_sub ?_ [] ?_ (ih (i + 1) ?_ ?_)
   · (refine (And.intro ?_ (And.intro ?_ (And.intro ?_ trivial))) <;> first | rfl | exact slot_int (by omega) | exact slot_int (by simp))
   · exact ⟨_, rfl⟩
   · exact ⟨by omega, hlen, eq_next ht hx hy (Classical.not_not.1 (by assumption))⟩
   · (first | omega | (dsimp only; omega))
  refine G_exit rfl ?_
  refine G_seq ?_
  refine G_region (l := [0]) rfl ?_
  refine G_val rfl rfl rfl rfl (V_assign rfl rfl) ?_
  refine G_done ?_
  refine G_ret (post := []) Tryz.func20 rfl (RVs_cons (RV_tmp rfl) RVs_nil) [] rfl ?_
  dsimp only [packed]
  first
    | exact ⟨bool_eq (decide_eq_false (ne_len (by omega))).symm, rfl⟩
    | exact ⟨bool_eq (decide_eq_false (ne_at hx hy (by assumption))).symm, rfl⟩
    | exact ⟨bool_eq (decide_eq_true (eq_end ht (by omega) (by omega))).symm, rfl⟩

end
end Go.Proofs.YtbblkgdejgoncaaGreatDoor

/- Records one behind the other on a disk (layer 26), in plain lists: what is appended, and what is replayed. -/
set_option linter.unusedSimpArgs false
set_option linter.unusedVariables false
namespace Go.Proofs.YtbblkgdejgoncaaGreatDoor
open Go Go.RowKit

section



/-- A record's sealed blocks, from a place on. -/
def lblks (e : Nat) : Nat → List (List UInt8) → List (List UInt8)
  | _, [] => []
  | a, p :: r => sealL e a p :: lblks e (a + 1) r
theorem lblks_len (e : Nat) : ∀ (ps : List (List UInt8)) (a : Nat), (lblks e a ps).length = ps.length
  | [], _ => rfl
  | p :: r, a => by rw [lblks, List.length_cons, lblks_len e r, List.length_cons]
theorem lblks_at (e : Nat) : ∀ (ps : List (List UInt8)) (a i : Nat), (lblks e a ps)[i]? = (ps[i]?).map (sealL e (a + i))
  | [], _, _ => by simp [lblks]
  | p :: r, a, 0 => by simp [lblks]
  | p :: r, a, i + 1 => by
    rw [lblks, List.getElem?_cons_succ, List.getElem?_cons_succ, lblks_at e r (a + 1) i, show a + 1 + i = a + (i + 1) by omega]
theorem lblks_app (e : Nat) : ∀ (ps qs : List (List UInt8)) (a : Nat), lblks e a (ps ++ qs) = lblks e a ps ++ lblks e (a + ps.length) qs
  | [], _, _ => rfl
  | p :: r, qs, a => by
    rw [List.cons_append, lblks, lblks, lblks_app e r qs, List.cons_append, List.length_cons, show a + 1 + r.length = a + (r.length + 1) by omega]
theorem piecesF_48 (s : List UInt8) : ∀ p ∈ piecesF s, p.length = 48 := chunks_all (padF_len s)
theorem lblks_64 {e : Nat} (he : 0 < e) {ps : List (List UInt8)} (h : ∀ p ∈ ps, p.length = 48) (a : Nat) : ∀ b ∈ lblks e a ps, b.length = 64 := by
  intro b hb
  obtain ⟨i, hi⟩ := List.getElem?_of_mem hb
  rw [lblks_at] at hi
  cases hp : ps[i]? with
  | none => rw [hp] at hi; cases hi
  | some p =>
    rw [hp] at hi
    simp only [Option.map_some, Option.some.injEq] at hi
    rw [← hi]
    exact sealL_length ((sealE_cases _ _).2 (by rw [h p (List.mem_of_getElem? hp)]; omega))
/-- A record has room. -/
def fitsL (room : Int) (s : List UInt8) : Prop := s.length ≤ 1000 ∧ (manyN s.length : Int) ≤ room
instance (room : Int) (s : List UInt8) : Decidable (fitsL room s) := by unfold fitsL; infer_instance
def lgE (room : Int) (s : List UInt8) : Int := if 1000 < s.length then 4 else if room < (manyN s.length : Int) then 17 else 0
def appK (k : Dk) (f b : Int) (e a : Nat) (s : List UInt8) : Dk := if lgE (b - a) s ≠ 0 then k else wrsK k (f + a) (lblks e a (piecesF s))
def appE (k : Dk) (f b : Int) (e a : Nat) (s : List UInt8) : Int := if lgE (b - a) s ≠ 0 then lgE (b - a) s else wrsE k (f + a) (lblks e a (piecesF s))
def appA (k : Dk) (f b : Int) (e a : Nat) (s : List UInt8) : Nat := if appE k f b e a s = 0 then a + manyN s.length else a
theorem lgE_0 {room : Int} {s : List UInt8} : lgE room s = 0 ↔ fitsL room s := by
  unfold lgE fitsL
  constructor
  · intro h
    split at h
    · cases h
    · split at h
      · cases h
      · omega
  · intro h; rw [if_neg (by omega), if_neg (by omega)]
theorem app_no {k : Dk} {f b : Int} {e a : Nat} {s : List UInt8} (h : ¬ lgE (b - a) s = 0) : appK k f b e a s = k ∧ appE k f b e a s = lgE (b - a) s ∧ appA k f b e a s = a := by
  have e1 : appE k f b e a s = lgE (b - a) s := by unfold appE; rw [if_pos h]
  refine ⟨by unfold appK; rw [if_pos h], e1, ?_⟩
  unfold appA; rw [if_neg (by rw [e1]; exact h)]
theorem app_yes {k : Dk} {f b : Int} {e a : Nat} {s : List UInt8} (h : lgE (b - a) s = 0) : appK k f b e a s = wrsK k (f + a) (lblks e a (piecesF s)) ∧ appE k f b e a s = wrsE k (f + a) (lblks e a (piecesF s)) := by
  unfold appK appE; simp [h]
theorem app_A0 {k : Dk} {f b : Int} {e a : Nat} {s : List UInt8} (h : appE k f b e a s = 0) : appA k f b e a s = a + manyN s.length := if_pos h
theorem app_A1 {k : Dk} {f b : Int} {e a : Nat} {s : List UInt8} (h : ¬ appE k f b e a s = 0) : appA k f b e a s = a := if_neg h
theorem app_ok {k : Dk} (h : DkOk k) (f b : Int) (e a : Nat) (s : List UInt8) : DkOk (appK k f b e a s) := by
  unfold appK; split
  · exact h
  · exact wrs_ok _ _ _ h
theorem app_len (k : Dk) (f b : Int) (e a : Nat) (s : List UInt8) : (appK k f b e a s).L.length = k.L.length := by
  unfold appK; split
  · rfl
  · exact wrs_len _ _ _
theorem app_A {k : Dk} {f b : Int} {e a : Nat} {s : List UInt8} (h : (a : Int) ≤ b) : (appA k f b e a s : Int) ≤ b := by
  unfold appA; split
  · rename_i h0
    by_cases hl : lgE (b - a) s = 0
    · have := (lgE_0.1 hl).2; omega
    · exact absurd h0 (by rw [(app_no hl).2.1]; exact hl)
  · exact h
theorem app_W (k : Dk) (f b : Int) (e a : Nat) (s : List UInt8) : (appK k f b e a s).W.length ≤ k.W.length + 21 := by
  unfold appK; split
  · omega
  · rename_i h
    have h := lgE_0.1 (Classical.not_not.1 h)
    have := wrs_W (lblks e a (piecesF s)) k (f + a)
    rw [lblks_len, piecesF_len] at this
    have : manyN s.length ≤ 21 := by have := h.1; unfold manyN; omega
    omega

-- what is replayed
/-- A block is sealed by its place. -/
def pOk (rb : List (List UInt8)) (i : Nat) : Bool := openOk (rb.getD i []) && decide (openI (rb.getD i []) = i)
def pE (rb : List (List UInt8)) (i : Nat) : Nat := openE (rb.getD i [])
def pD (rb : List (List UInt8)) (i : Nat) : List UInt8 := openD (rb.getD i [])
theorem pOk_iff {rb : List (List UInt8)} {i : Nat} : pOk rb i = true ↔ openOk (rb.getD i []) = true ∧ openI (rb.getD i []) = i := by unfold pOk; simp
theorem empty_open : openOk [] = false := by decide
theorem pOk_lt {rb : List (List UInt8)} {i : Nat} (h : pOk rb i = true) : i < rb.length := by
  rcases Nat.lt_or_ge i rb.length with h1 | h1
  · exact h1
  · have := (pOk_iff.1 h).1
    rw [List.getD_eq_getElem?_getD, List.getElem?_eq_none h1] at this
    rw [show (none : Option (List UInt8)).getD [] = [] from rfl, empty_open] at this; cases this
theorem pOk_big {rb : List (List UInt8)} {i : Nat} (h : rb.length ≤ i) : pOk rb i = false ∧ pE rb i = 0 ∧ pD rb i = [] := by
  have e : rb.getD i [] = [] := by rw [List.getD_eq_getElem?_getD, List.getElem?_eq_none h]; rfl
  refine ⟨?_, ?_, ?_⟩
  · unfold pOk; rw [e, empty_open]; rfl
  · unfold pE; rw [e]; unfold openE; rw [empty_open]; rfl
  · unfold pD; rw [e]; unfold openD; rw [empty_open]; rfl
theorem pD_len {rb : List (List UInt8)} {i : Nat} (h : pOk rb i = true) : (pD rb i).length = 48 := by
  obtain ⟨h1, _, _, h4, _⟩ := open_parts (pOk_iff.1 h).1
  unfold pD; rw [h4, List.length_drop, List.length_take, h1]; omega
/-- How many blocks the record at a place says that it has; these. -/
def rcM (rb : List (List UInt8)) (a : Nat) : Nat := manyN (sizeF (pD rb a))
def rcTo (rb : List (List UInt8)) (a m : Nat) : List (List UInt8) := (List.range m).map fun j => pD rb (a + j)
theorem rcTo_len (rb : List (List UInt8)) (a m : Nat) : (rcTo rb a m).length = m := by simp [rcTo]
theorem rcTo_next (rb : List (List UInt8)) (a m : Nat) : rcTo rb a (m + 1) = rcTo rb a m ++ [pD rb (a + m)] := by
  unfold rcTo; rw [List.range_succ, List.map_append]; rfl
theorem rcTo_one (rb : List (List UInt8)) (a : Nat) : rcTo rb a 1 = [pD rb a] := rfl
theorem rcTo_first (rb : List (List UInt8)) (a m : Nat) (h : 1 ≤ m) : firstF (rcTo rb a m) = pD rb a := by
  obtain ⟨k, rfl⟩ : ∃ k, m = k + 1 := ⟨m - 1, by omega⟩
  unfold rcTo; rw [List.range_succ_eq_map]; rfl
/-- The blocks behind the first one go on with it. -/
def rcGo (rb : List (List UInt8)) (a m : Nat) : Prop := ∀ j, j < m → pOk rb (a + j) = true ∧ pE rb (a + j) = pE rb a
instance (rb : List (List UInt8)) (a m : Nat) : Decidable (rcGo rb a m) := by unfold rcGo; infer_instance
def rcOk (rb : List (List UInt8)) (base e a : Nat) : Prop := pOk rb a = true ∧ base ≤ pE rb a ∧ pE rb a ≤ e ∧ sizeFE (pD rb a) = 0 ∧ rcGo rb a (rcM rb a) ∧ decE (rcTo rb a (rcM rb a)) = 0
instance (rb : List (List UInt8)) (base e a : Nat) : Decidable (rcOk rb base e a) := by unfold rcOk; infer_instance
def rcS (rb : List (List UInt8)) (a : Nat) : List UInt8 := decS (rcTo rb a (rcM rb a))
theorem rcM_pos (rb : List (List UInt8)) (a : Nat) : 1 ≤ rcM rb a := manyN_pos _
theorem rcM_le (rb : List (List UInt8)) (a : Nat) : rcM rb a ≤ 21 := by
  have := sizeF_le (pD rb a)
  unfold rcM manyN; omega
theorem rc_m (rb : List (List UInt8)) (a : Nat) : mF (rcTo rb a (rcM rb a)) = rcM rb a := by
  unfold mF nF; rw [rcTo_first _ _ _ (rcM_pos rb a)]; rfl
theorem rc_decM {rb : List (List UInt8)} {a : Nat} (h : decE (rcTo rb a (rcM rb a)) = 0) : decM (rcTo rb a (rcM rb a)) = rcM rb a := by
  unfold decM; rw [if_pos h, rc_m]
def rpN (rb : List (List UInt8)) (e : Nat) : Nat → Nat → Nat → List (List UInt8) × Nat
  | 0, _, a => ([], a)
  | n + 1, base, a => if rcOk rb base e a then (rcS rb a :: (rpN rb e n (pE rb a) (a + rcM rb a)).1, (rpN rb e n (pE rb a) (a + rcM rb a)).2) else ([], a)
theorem rpN_more (rb : List (List UInt8)) (e : Nat) : ∀ (n base a : Nat), rb.length < n + a → rpN rb e (n + 1) base a = rpN rb e n base a
  | 0, base, a, h => by
    have : ¬ rcOk rb base e a := fun x => by have := pOk_lt x.1; omega
    show (if _ then _ else _) = _
    rw [if_neg this]; rfl
  | n + 1, base, a, h => by
    have hp := rcM_pos rb a
    have ih := rpN_more rb e n (pE rb a) (a + rcM rb a) (by omega)
    show (if rcOk rb base e a then (rcS rb a :: (rpN rb e (n + 1) (pE rb a) (a + rcM rb a)).1, (rpN rb e (n + 1) (pE rb a) (a + rcM rb a)).2) else ([], a)) = _
    rw [ih]; rfl
theorem rpN_any (rb : List (List UInt8)) (e base a : Nat) : ∀ (m n : Nat), rb.length < n + a → rpN rb e (n + m) base a = rpN rb e n base a
  | 0, _, _ => rfl
  | m + 1, n, h => by rw [← Nat.add_assoc, rpN_more rb e (n + m) base a (by omega), rpN_any rb e base a m n h]
/-- What is replayed from a place on. -/
def rp (rb : List (List UInt8)) (e base a : Nat) : List (List UInt8) × Nat := rpN rb e (rb.length + 1) base a
theorem rp_yes {rb : List (List UInt8)} {e base a : Nat} (h : rcOk rb base e a) : rp rb e base a = (rcS rb a :: (rp rb e (pE rb a) (a + rcM rb a)).1, (rp rb e (pE rb a) (a + rcM rb a)).2) := by
  have e1 : rp rb e base a = (rcS rb a :: (rpN rb e rb.length (pE rb a) (a + rcM rb a)).1, (rpN rb e rb.length (pE rb a) (a + rcM rb a)).2) := by
    unfold rp; rw [rpN, if_pos h]
  have hp := rcM_pos rb a
  rw [e1]
  have := rpN_more rb e rb.length (pE rb a) (a + rcM rb a) (by omega)
  unfold rp; rw [this]
theorem rp_no {rb : List (List UInt8)} {e base a : Nat} (h : ¬ rcOk rb base e a) : rp rb e base a = ([], a) := by
  unfold rp; rw [rpN, if_neg h]
/-- How far a replay has come: what it found, where it stands. -/
def RpAt (rb : List (List UInt8)) (e base0 : Nat) (out : List (List UInt8)) (base a : Nat) : Prop := rp rb e base0 0 = (out ++ (rp rb e base a).1, (rp rb e base a).2)
theorem rpAt_0 (rb : List (List UInt8)) (e base : Nat) : RpAt rb e base [] base 0 := by unfold RpAt; simp
theorem rpAt_next {rb : List (List UInt8)} {e base0 base a : Nat} {out : List (List UInt8)} (h : RpAt rb e base0 out base a) (hr : rcOk rb base e a) : RpAt rb e base0 (out ++ [rcS rb a]) (pE rb a) (a + rcM rb a) := by
  unfold RpAt at *
  rw [h, rp_yes hr, List.append_assoc]; rfl
theorem rpAt_end {rb : List (List UInt8)} {e base0 base a : Nat} {out : List (List UInt8)} (h : RpAt rb e base0 out base a) (hr : ¬ rcOk rb base e a) : rp rb e base0 0 = (out, a) := by
  unfold RpAt at h
  rw [h, rp_no hr, List.append_nil]
theorem rc_le {rb : List (List UInt8)} {base e a : Nat} (h : rcOk rb base e a) : a + rcM rb a ≤ rb.length := by
  have := rcM_pos rb a
  have := (h.2.2.2.2.1 (rcM rb a - 1) (by omega)).1
  have := pOk_lt this
  omega
/-- A place at which a replay has come. -/
inductive RpCome (rb : List (List UInt8)) (e base0 : Nat) : List (List UInt8) → Nat → Nat → Prop
  | start : RpCome rb e base0 [] base0 0
  | next {out base a} : RpCome rb e base0 out base a → rcOk rb base e a → RpCome rb e base0 (out ++ [rcS rb a]) (pE rb a) (a + rcM rb a)
theorem RpCome.at {rb : List (List UInt8)} {e base0 : Nat} {out : List (List UInt8)} {base a : Nat} (h : RpCome rb e base0 out base a) : RpAt rb e base0 out base a := by
  induction h with
  | start => exact rpAt_0 _ _ _
  | next _ hr ih => exact rpAt_next ih hr
theorem RpCome.le {rb : List (List UInt8)} {e base0 : Nat} {out : List (List UInt8)} {base a : Nat} (h : RpCome rb e base0 out base a) : a ≤ rb.length ∧ out.length ≤ a ∧ (base = base0 ∨ (base0 ≤ base ∧ base ≤ e)) := by
  induction h with
  | start => exact ⟨Nat.zero_le _, Nat.zero_le _, .inl rfl⟩
  | next _ hr ih =>
    rename_i out base a h
    have h1 := rc_le hr
    have h2 := rcM_pos rb a
    have h3 := hr.2.1
    have h4 := hr.2.2.1
    refine ⟨h1, by rw [List.length_append]; simp; omega, .inr ?_⟩
    rcases ih.2.2 with h | h <;> omega

end
end Go.Proofs.YtbblkgdejgoncaaGreatDoor

/- The pieces of a record are decoded as it, whatever stands behind (layer 25), in plain lists. -/
set_option linter.unusedSimpArgs false
set_option linter.unusedVariables false
namespace Go.Proofs.YtbblkgdejgoncaaGreatDoor
open Go Go.RowKit

section



theorem padF_head (s : List UInt8) : (padF s).take 6 = headF s := by
  unfold padF bytesF
  rw [List.append_assoc, List.take_left' (headF_len s)]
theorem padF_two (s : List UInt8) : (padF s).take 2 = be 2 s.length := by
  have h := padF_head s
  have h2 : (padF s).take 2 = ((padF s).take 6).take 2 := by rw [List.take_take]; rfl
  rw [h2, h]
  unfold headF
  rw [List.take_left' (be_length 2 s.length)]
theorem padF_rec (s : List UInt8) : ((padF s).drop 6).take s.length = s := by
  unfold padF bytesF
  rw [List.append_assoc, List.drop_left' (headF_len s), List.take_left' rfl]
theorem dec_enc {s : List UInt8} (h : s.length ≤ 1000) (ms : List (List UInt8)) : decS (encF s ++ ms) = s ∧ decM (encF s ++ ms) = (encF s).length ∧ decE (encF s ++ ms) = 0 := by
  obtain ⟨e1, _⟩ := encF_yes h
  rw [e1]
  have hp := padF_len s
  have hr := manyN_room s.length
  obtain ⟨k, hk⟩ : ∃ k, manyN s.length = k + 1 := ⟨manyN s.length - 1, by omega⟩
  have hf : firstF (piecesF s ++ ms) = (padF s).take 48 := by
    unfold piecesF; rw [hk, chunks_cons]; rfl
  have h48 : ((padF s).take 48).length = 48 := by rw [List.length_take]; omega
  have h2 : num (((padF s).take 48).take 2) = s.length := by
    rw [List.take_take, show min 2 48 = 2 from rfl, padF_two]
    exact num_be 2 _ (fit2 (by omega))
  have hs : sizeF (firstF (piecesF s ++ ms)) = s.length ∧ sizeFE (firstF (piecesF s ++ ms)) = 0 := by
    rw [hf]
    obtain ⟨a, b⟩ := sizeF_ok (p := (padF s).take 48) h48 (by omega)
    exact ⟨a.trans h2, b⟩
  have hn : nF (piecesF s ++ ms) = s.length := hs.1
  have hm : mF (piecesF s ++ ms) = manyN s.length := by unfold mF; rw [hn]
  have hl : (piecesF s).length = manyN s.length := piecesF_len s
  have ht : (piecesF s ++ ms).take (mF (piecesF s ++ ms)) = piecesF s := by rw [hm, List.take_left' hl]
  have ha : allF (piecesF s ++ ms) = padF s := by
    unfold allF; rw [ht]; exact flat_chunks _ _ hp
  have hfu : fullF (piecesF s ++ ms) = true := by
    unfold fullF; rw [ht]
    exact List.all_eq_true.2 fun x hx => decide_eq_true (chunks_all hp x hx)
  have hrec : recF (piecesF s ++ ms) = s := by unfold recF; rw [ha, hn]; exact padF_rec s
  obtain ⟨d1, d2, d3⟩ := dec_ok (ls := piecesF s ++ ms) (by rw [List.length_append]; omega) hs.2 (by rw [hm, List.length_append]; omega) hfu (by rw [ha, hrec])
  exact ⟨d1.trans hrec, d2.trans (hm.trans hl.symm), d3⟩
theorem enc_small (s : List UInt8) : (encF s).length ≤ 21 := by
  unfold encF
  split
  · rw [piecesF_len]; unfold manyN; omega
  · simp
theorem enc_all {s : List UInt8} {ms : List (List UInt8)} (hg : ∀ x ∈ ms, x.length ≤ 9223372036854775807) : ∀ x ∈ encF s ++ ms, x.length ≤ 9223372036854775807 := by
  intro x hx
  rcases List.mem_append.1 hx with h | h
  · unfold encF at h
    split at h
    · have := chunks_all (padF_len s) x h; omega
    · cases h
  · exact hg x h
theorem first_enc {s : List UInt8} (ms : List (List UInt8)) : firstF (piecesF s ++ ms) = (padF s).take 48 := by
  have hpos := manyN_pos s.length
  obtain ⟨k, hk⟩ : ∃ k, manyN s.length = k + 1 := ⟨manyN s.length - 1, by omega⟩
  unfold piecesF; rw [hk, chunks_cons]; rfl
theorem num_enc {s : List UInt8} (h : s.length ≤ 1000) : ((padF s).take 48).length = 48 ∧ num (((padF s).take 48).take 2) = s.length := by
  have hp := padF_len s
  have hr := manyN_room s.length
  refine ⟨by rw [List.length_take]; omega, ?_⟩
  rw [List.take_take, show min 2 48 = 2 from rfl, padF_two]
  exact num_be 2 _ (fit2 (by omega))
theorem size_enc {s : List UInt8} (h : s.length ≤ 1000) (ms : List (List UInt8)) : sizeF (firstF (piecesF s ++ ms)) = s.length := by
  obtain ⟨h1, h2⟩ := num_enc h
  rw [first_enc]
  exact (sizeF_ok h1 (by omega)).1.trans h2
theorem sizeE_enc {s : List UInt8} (h : s.length ≤ 1000) (ms : List (List UInt8)) : sizeFE (firstF (piecesF s ++ ms)) = 0 := by
  obtain ⟨h1, h2⟩ := num_enc h
  rw [first_enc]
  exact (sizeF_ok h1 (by omega)).2

end
end Go.Proofs.YtbblkgdejgoncaaGreatDoor

/- Records that fall (layer 26), in plain lists: of what was appended by a new epoch, whatever stays, the first ones are replayed behind those that were there. -/
set_option linter.unusedSimpArgs false
set_option linter.unusedVariables false
namespace Go.Proofs.YtbblkgdejgoncaaGreatDoor
open Go Go.RowKit

section



def pcs (ts : List (List UInt8)) : List (List UInt8) := ts.flatMap piecesF
theorem pcs_cons (t : List UInt8) (ts : List (List UInt8)) : pcs (t :: ts) = piecesF t ++ pcs ts := by simp [pcs]
theorem pcs_app (ts us : List (List UInt8)) : pcs (ts ++ us) = pcs ts ++ pcs us := by simp [pcs]
theorem pcs_48 (ts : List (List UInt8)) : ∀ p ∈ pcs ts, p.length = 48 := by
  intro p hp
  obtain ⟨t, _, h⟩ := List.mem_flatMap.1 hp
  exact piecesF_48 t p h
/-- The place at which a replay ends, and that it ends there. -/
theorem rpN_reach (rb : List (List UInt8)) (e base0 : Nat) : ∀ (n : Nat) (out : List (List UInt8)) (base a : Nat), rb.length < n + a → RpCome rb e base0 out base a → ∃ b, RpCome rb e base0 (out ++ (rp rb e base a).1) b (rp rb e base a).2 ∧ ¬ rcOk rb b e (rp rb e base a).2
  | 0, out, base, a, h, hc => by
    have := hc.le.1; omega
  | n + 1, out, base, a, h, hc => by
    by_cases hr : rcOk rb base e a
    · have hp := rcM_pos rb a
      obtain ⟨b, h1, h2⟩ := rpN_reach rb e base0 n (out ++ [rcS rb a]) (pE rb a) (a + rcM rb a) (by omega) (.next hc hr)
      rw [rp_yes hr]
      exact ⟨b, by simpa using h1, h2⟩
    · rw [rp_no hr]
      exact ⟨base, by simpa using hc, hr⟩
theorem rp_reach (rb : List (List UInt8)) (e base : Nat) : ∃ b, RpCome rb e base (rp rb e base 0).1 b (rp rb e base 0).2 ∧ ¬ rcOk rb b e (rp rb e base 0).2 := by
  have := rpN_reach rb e base (rb.length + 1) [] base 0 (by omega) .start
  simpa using this
/-- What a record is hangs on its own blocks alone. -/
theorem rc_same {rb rb' : List (List UInt8)} {base e e' a : Nat} (he : pE rb a ≤ e') (hs : ∀ i, a ≤ i → i < a + rcM rb a → rb'.getD i [] = rb.getD i []) (h : rcOk rb base e a) : rcOk rb' base e' a ∧ rcS rb' a = rcS rb a ∧ pE rb' a = pE rb a ∧ rcM rb' a = rcM rb a := by
  have hp := rcM_pos rb a
  have h0 : rb'.getD a [] = rb.getD a [] := hs a (by omega) (by omega)
  have e1 : pE rb' a = pE rb a := by unfold pE; rw [h0]
  have e2 : pD rb' a = pD rb a := by unfold pD; rw [h0]
  have e3 : rcM rb' a = rcM rb a := by unfold rcM; rw [e2]
  have e4 : rcTo rb' a (rcM rb' a) = rcTo rb a (rcM rb a) := by
    rw [e3]; unfold rcTo
    apply List.map_congr_left
    intro j hj
    have hj := List.mem_range.1 hj
    unfold pD; rw [hs (a + j) (by omega) (by omega)]
  obtain ⟨a1, a2, a3, a4, a5, a6⟩ := h
  refine ⟨⟨?_, by rw [e1]; exact a2, by rw [e1]; exact he, by rw [e2]; exact a4, fun j hj => ?_, by rw [e4]; exact a6⟩, by unfold rcS; rw [e4], e1, e3⟩
  · unfold pOk; rw [h0]; exact a1
  · rw [e3] at hj
    obtain ⟨b1, b2⟩ := a5 j hj
    unfold pOk pE at *
    rw [hs (a + j) (by omega) (by omega), h0]
    exact ⟨b1, b2⟩
theorem come_same {rb rb' : List (List UInt8)} {base0 e e' : Nat} (he : e ≤ e') {out : List (List UInt8)} {base a : Nat} (h : RpCome rb e base0 out base a) (hs : ∀ i, i < a → rb'.getD i [] = rb.getD i []) : RpCome rb' e' base0 out base a := by
  induction h with
  | start => exact .start
  | next hc hr ih =>
    rename_i out base a
    obtain ⟨h1, h2, h3, h4⟩ := rc_same (e' := e') (Nat.le_trans hr.2.2.1 he) (fun i _ hi => hs i hi) hr
    have := RpCome.next (ih (fun i hi => hs i (by have := rcM_pos rb a; omega))) h1
    rw [h2, h3, h4] at this
    exact this
/-- New blocks over old ones, from a place on. -/
structure Over (e0 e : Nat) (rb rb' : List (List UInt8)) (a : Nat) (P : List (List UInt8)) : Prop where
  len : rb'.length = rb.length
  low : ∀ i, i < rb.length → Low e0 (rb.getD i [])
  e1 : e0 < e
  e2 : e < 256
  news : ∀ i p, P[i]? = some p → a + i < rb.length → Lain e p (rb.getD (a + i) []) (rb'.getD (a + i) [])
  olds : ∀ i, a + P.length ≤ i → rb'.getD i [] = rb.getD i []
  p48 : ∀ p ∈ P, p.length = 48
theorem Over.drop {e0 e a : Nat} {rb rb' P Q : List (List UInt8)} (h : Over e0 e rb rb' a (P ++ Q)) : Over e0 e rb rb' (a + P.length) Q :=
  ⟨h.len, h.low, h.e1, h.e2, fun i p hp hi => by
    have := h.news (P.length + i) p (by rw [List.getElem?_append_right (by omega)]; rw [show P.length + i - P.length = i by omega]; exact hp) (by omega)
    rw [show a + (P.length + i) = a + P.length + i by omega] at this
    exact this, fun i hi => h.olds i (by rw [List.length_append]; omega), fun p hp => h.p48 p (by simp [hp])⟩
/-- A block that opens is an old one, or the new one. -/
theorem Over.open {e0 e a : Nat} {rb rb' P : List (List UInt8)} (h : Over e0 e rb rb' a P) {i : Nat} (hi : pOk rb' (a + i) = true) : (rb'.getD (a + i) [] = rb.getD (a + i) [] ∧ pE rb' (a + i) ≤ e0) ∨ (∃ p, P[i]? = some p ∧ pE rb' (a + i) = e ∧ pD rb' (a + i) = p) := by
  have hlt := pOk_lt hi
  rw [h.len] at hlt
  have ho := (pOk_iff.1 hi).1
  have hlow := h.low (a + i) hlt
  cases hp : P[i]? with
  | some p =>
    rcases lain_open hlow h.e1 (h.news i p hp hlt) ho with ⟨x, y⟩ | ⟨x, y⟩
    · exact .inl ⟨x, y⟩
    · exact .inr ⟨p, rfl, x, y⟩
  | none =>
    have hge : P.length ≤ i := List.getElem?_eq_none_iff.1 hp
    have e1 := h.olds (a + i) (by omega)
    refine .inl ⟨e1, ?_⟩
    unfold pE; rw [e1] at ho ⊢
    exact (low_open hlow ho).2
/-- A record of the new epoch is the first one of those that were appended. -/
theorem Over.first {e0 e a base : Nat} {rb rb' : List (List UInt8)} {t : List UInt8} {ts : List (List UInt8)} (h : Over e0 e rb rb' a (pcs (t :: ts))) (ht : t.length ≤ 1000) (hr : rcOk rb' base e a) (hE : pE rb' a = e) : rcM rb' a = manyN t.length ∧ rcS rb' a = t := by
  have hall : ∀ j, j < rcM rb' a → (pcs (t :: ts))[j]? = some (pD rb' (a + j)) := fun j hj => by
    obtain ⟨h1, h2⟩ := hr.2.2.2.2.1 j hj
    rcases h.open h1 with ⟨_, y⟩ | ⟨p, x, _, z⟩
    · have := h.e1; omega
    · rw [z]; exact x
  have hP := pcs_cons t ts
  have hl := piecesF_len t
  have hpos := manyN_pos t.length
  have h0 := hall 0 (rcM_pos rb' a)
  rw [Nat.add_zero, hP, List.getElem?_append_left (by omega)] at h0
  have hm : rcM rb' a = manyN t.length := by
    unfold rcM
    have hf := size_enc ht []
    rw [List.append_nil] at hf
    have : firstF (piecesF t) = pD rb' a := by
      unfold firstF
      rw [List.headD_eq_head?_getD, List.head?_eq_getElem?, h0]; rfl
    rw [this] at hf
    rw [hf]
  refine ⟨hm, ?_⟩
  have hto : rcTo rb' a (rcM rb' a) = piecesF t := by
    apply List.ext_getElem?
    intro j
    by_cases hj : j < rcM rb' a
    · have := hall j hj
      rw [hP, List.getElem?_append_left (by omega)] at this
      rw [this]
      simp [rcTo, hj]
    · rw [List.getElem?_eq_none (by rw [rcTo_len]; omega), List.getElem?_eq_none (by omega)]
  unfold rcS
  rw [hto]
  have := (dec_enc ht []).1
  rw [List.append_nil, (encF_yes ht).1] at this
  exact this
/-- A record of which all blocks are whole is there. -/
theorem rc_whole {e base a : Nat} {rb' : List (List UInt8)} {t : List UInt8} (ht : t.length ≤ 1000) (h0 : 0 < e) (he : e < 4294967296) (hb : base ≤ e) (hN : rb'.length < 4294967296) (hl : a + manyN t.length ≤ rb'.length) (hw : ∀ i p, (piecesF t)[i]? = some p → rb'.getD (a + i) [] = sealL e (a + i) p) : rcOk rb' base e a ∧ pE rb' a = e := by
  have hpl := piecesF_len t
  have hpos := manyN_pos t.length
  have key : ∀ i, i < manyN t.length → ∃ p, (piecesF t)[i]? = some p ∧ pOk rb' (a + i) = true ∧ pE rb' (a + i) = e ∧ pD rb' (a + i) = p := fun i hi => by
    obtain ⟨p, hp⟩ := getI (show i < (piecesF t).length by omega)
    have h48 := piecesF_48 t p (List.mem_of_getElem? hp)
    have hE : sealE e p = 0 := (sealE_cases _ _).2 (by omega)
    have hb := hw i p hp
    obtain ⟨o1, o2, o3⟩ := open_seal (i := a + i) he (by omega) hE
    have o4 := openOk_seal (i := a + i) he hE
    refine ⟨p, hp, ?_, ?_, ?_⟩
    · rw [pOk_iff, hb]; exact ⟨o4, o2⟩
    · unfold pE; rw [hb]; exact o1
    · unfold pD; rw [hb]; exact o3
  obtain ⟨p0, q1, q2, q3, q4⟩ := key 0 (by omega)
  rw [Nat.add_zero] at q2 q3 q4
  have hf0 : firstF (piecesF t) = p0 := by unfold firstF; rw [List.headD_eq_head?_getD, List.head?_eq_getElem?, q1]; rfl
  have hsz := size_enc ht []
  rw [List.append_nil, hf0] at hsz
  have hszE := sizeE_enc ht []
  rw [List.append_nil, hf0] at hszE
  have hm : rcM rb' a = manyN t.length := by unfold rcM; rw [q4, hsz]
  have hto : rcTo rb' a (rcM rb' a) = piecesF t := by
    apply List.ext_getElem?
    intro j
    by_cases hj : j < rcM rb' a
    · obtain ⟨p, r1, _, _, r4⟩ := key j (by omega)
      rw [r1]; simp [rcTo, hj, r4]
    · rw [List.getElem?_eq_none (by rw [rcTo_len]; omega), List.getElem?_eq_none (by omega)]
  have hd := (dec_enc ht []).2.2
  rw [List.append_nil, (encF_yes ht).1] at hd
  refine ⟨⟨q2, by omega, by omega, by rw [q4]; exact hszE, fun j hj => ?_, by rw [hto]; exact hd⟩, q3⟩
  obtain ⟨p, _, r2, r3, _⟩ := key j (by omega)
  exact ⟨r2, by rw [r3, q3]⟩
def WholeTo (e : Nat) (rb' : List (List UInt8)) (a : Nat) (P : List (List UInt8)) : Prop := ∀ i p, P[i]? = some p → rb'.getD (a + i) [] = sealL e (a + i) p
/-- Of the new ones the first ones are there: all that are whole. -/
theorem more_new {e0 e : Nat} {rb rb' : List (List UInt8)} (hN : rb'.length ≤ 4096) : ∀ (ts : List (List UInt8)) (a m : Nat), Over e0 e rb rb' a (pcs ts) → (∀ t ∈ ts, t.length ≤ 1000) → m ≤ ts.length → WholeTo e rb' a (pcs (ts.take m)) → a + (pcs (ts.take m)).length ≤ rb'.length →
    ∃ j, m ≤ j ∧ j ≤ ts.length ∧ rp rb' e e a = (ts.take j, a + (pcs (ts.take j)).length)
  | [], a, m, h, _, hm, _, _ => by
    have hn : ¬ rcOk rb' e e a := fun hr => by
      have h0 : pOk rb' (a + 0) = true := hr.1
      have := h.e1
      have h2 := hr.2.1
      rcases h.open h0 with ⟨_, y⟩ | ⟨p, x, _⟩
      · rw [Nat.add_zero] at y; omega
      · simp [pcs] at x
    exact ⟨0, hm, Nat.le_refl _, by rw [rp_no hn]; simp [pcs]⟩
  | t :: ts, a, m, h, ht, hm, hw, hl => by
    have ht0 := ht t (by simp)
    have hpl := piecesF_len t
    by_cases hr : rcOk rb' e e a
    · have hE : pE rb' a = e := by have := hr.2.1; have := hr.2.2.1; omega
      obtain ⟨h1, h2⟩ := h.first ht0 hr hE
      have hd : Over e0 e rb rb' (a + (piecesF t).length) (pcs ts) := by rw [pcs_cons] at h; exact h.drop
      obtain ⟨j, j1, j2, j3⟩ := more_new hN ts (a + (piecesF t).length) (m - 1) hd (fun x hx => ht x (by simp [hx])) (by simp at hm; omega) (by
        intro i p hp
        cases m with
        | zero => simp [pcs] at hp
        | succ m =>
          have := hw ((piecesF t).length + i) p (by
            rw [List.take_succ_cons, pcs_cons, List.getElem?_append_right (by omega), show (piecesF t).length + i - (piecesF t).length = i by omega]
            exact hp)
          rw [show a + ((piecesF t).length + i) = a + (piecesF t).length + i by omega] at this
          exact this) (by
        cases m with
        | zero =>
          have := rc_le hr
          simp [pcs]; omega
        | succ m =>
          rw [List.take_succ_cons, pcs_cons, List.length_append] at hl
          rw [show m + 1 - 1 = m by omega]; omega)
      refine ⟨j + 1, by omega, by simp; omega, ?_⟩
      rw [rp_yes hr, h2, hE, h1, ← hpl, j3, List.take_succ_cons, pcs_cons, List.length_append]
      simp only [Prod.mk.injEq, true_and]; omega
    · refine ⟨0, ?_, Nat.zero_le _, by rw [rp_no hr]; simp [pcs]⟩
      cases m with
      | zero => exact Nat.le_refl _
      | succ m =>
        exfalso
        have h0 : 0 < e := by have := h.e1; omega
        have := h.e2
        rw [List.take_succ_cons, pcs_cons, List.length_append] at hl
        refine hr (rc_whole (base := e) ht0 h0 (by omega) (Nat.le_refl _) (by omega) (by omega) (fun i p hp => ?_)).1
        refine hw i p ?_
        rw [List.take_succ_cons, pcs_cons, List.getElem?_append_left (List.getElem?_eq_some_iff.1 hp).1]
        exact hp
/-- THE LAW OF A FALL: behind what was replayed stand the first ones of those that were appended since; all that are whole. -/
theorem more_all {e0 e base : Nat} {rb rb' : List (List UInt8)} (hN : rb'.length ≤ 4096) {ts : List (List UInt8)} {m : Nat} (ho : Over e0 e rb rb' (rp rb e0 base 0).2 (pcs ts)) (hs : ∀ i, i < (rp rb e0 base 0).2 → rb'.getD i [] = rb.getD i [])
    (hb : base ≤ e) (ht : ∀ t ∈ ts, t.length ≤ 1000) (hm : m ≤ ts.length) (hw : WholeTo e rb' (rp rb e0 base 0).2 (pcs (ts.take m))) (hl : (rp rb e0 base 0).2 + (pcs (ts.take m)).length ≤ rb'.length) :
    ∃ j, m ≤ j ∧ j ≤ ts.length ∧ rp rb' e base 0 = ((rp rb e0 base 0).1 ++ ts.take j, (rp rb e0 base 0).2 + (pcs (ts.take j)).length) := by
  obtain ⟨b, hc, hn⟩ := rp_reach rb e0 base
  generalize (rp rb e0 base 0).1 = out at *
  generalize (rp rb e0 base 0).2 = a at *
  have he := ho.e1
  have hbe : b ≤ e := by
    rcases hc.le.2.2 with h | h <;> omega
  have hc' := come_same (e' := e) (by omega) hc hs
  have hat := hc'.at
  unfold RpAt at hat
  by_cases hr : rcOk rb' b e a
  · -- it is of the new epoch: else it would have been there
    have hE : pE rb' a = e := by
      have h0 : pOk rb' (a + 0) = true := hr.1
      rcases ho.open h0 with ⟨x, y⟩ | ⟨p, x, y, _⟩
      · exfalso
        rw [Nat.add_zero] at x y
        have hold : ∀ i, a ≤ i → i < a + rcM rb' a → rb.getD i [] = rb'.getD i [] := fun i h1 h2 => by
          obtain ⟨g1, g2⟩ := hr.2.2.2.2.1 (i - a) (by omega)
          rcases ho.open g1 with ⟨x', _⟩ | ⟨_, _, y', _⟩
          · rw [show a + (i - a) = i by omega] at x'; exact x'.symm
          · omega
        exact hn (rc_same (e' := e0) (by omega) hold hr).1
      · rw [Nat.add_zero] at y; exact y
    match ts, ho, ht, hm, hw, hl with
    | [], ho, _, _, _, _ =>
      exfalso
      have h0 : pOk rb' (a + 0) = true := hr.1
      rcases ho.open h0 with ⟨_, y⟩ | ⟨p, x, _⟩
      · rw [Nat.add_zero] at y; omega
      · simp [pcs] at x
    | t :: ts, ho, ht, hm, hw, hl =>
      have h1 : rcOk rb' e e a := ⟨hr.1, by omega, by omega, hr.2.2.2.1, hr.2.2.2.2.1, hr.2.2.2.2.2⟩
      obtain ⟨j, j1, j2, j3⟩ := more_new hN (t :: ts) a m ho ht hm hw hl
      refine ⟨j, j1, j2, ?_⟩
      rw [hat, rp_yes hr]
      rw [rp_yes h1] at j3
      rw [j3]
  · refine ⟨0, ?_, Nat.zero_le _, by rw [hat, rp_no hr]; simp [pcs]⟩
    match m, ts, ho, ht, hm, hw, hl with
    | 0, _, _, _, _, _, _ => exact Nat.le_refl _
    | m + 1, [], _, _, hm, _, _ => simp at hm
    | m + 1, t :: ts, ho, ht, hm, hw, hl =>
      exfalso
      have := ho.e2
      have hpl := piecesF_len t
      rw [List.take_succ_cons, pcs_cons, List.length_append] at hl
      refine hr (rc_whole (base := b) (ht t (by simp)) (by omega) (by omega) hbe (by omega) (by omega) (fun i p hp => ?_)).1
      refine hw i p ?_
      rw [List.take_succ_cons, pcs_cons, List.getElem?_append_left (List.getElem?_eq_some_iff.1 hp).1]
      exact hp

end
end Go.Proofs.YtbblkgdejgoncaaGreatDoor

/- What is read of a disk on which records were appended (layer 26), in plain lists; the example. -/
set_option linter.unusedSimpArgs false
set_option linter.unusedVariables false
namespace Go.Proofs.YtbblkgdejgoncaaGreatDoor
open Go Go.RowKit

section



theorem rc_more {rb : List (List UInt8)} {e e' base a : Nat} (h : ∀ i, pOk rb i = true → pE rb i ≤ e) (he : e ≤ e') : rcOk rb base e' a ↔ rcOk rb base e a := by
  constructor
  · rintro ⟨a1, a2, a3, a4, a5, a6⟩; exact ⟨a1, a2, h a a1, a4, a5, a6⟩
  · rintro ⟨a1, a2, a3, a4, a5, a6⟩; exact ⟨a1, a2, by omega, a4, a5, a6⟩
theorem rpN_epoch {rb : List (List UInt8)} {e e' : Nat} (h : ∀ i, pOk rb i = true → pE rb i ≤ e) (he : e ≤ e') : ∀ n base a, rpN rb e' n base a = rpN rb e n base a
  | 0, _, _ => rfl
  | n + 1, base, a => by
    rw [rpN, rpN, rpN_epoch h he n]
    by_cases hr : rcOk rb base e a
    · rw [if_pos hr, if_pos ((rc_more h he).2 hr)]
    · rw [if_neg hr, if_neg (fun x => hr ((rc_more h he).1 x))]
theorem rp_epoch {rb : List (List UInt8)} {e e' base a : Nat} (h : ∀ i, pOk rb i = true → pE rb i ≤ e) (he : e ≤ e') : rp rb e' base a = rp rb e base a := rpN_epoch h he _ _ _
theorem low_epochs {rb : List (List UInt8)} {e : Nat} (h : ∀ i, i < rb.length → Low e (rb.getD i [])) : ∀ i, pOk rb i = true → pE rb i ≤ e := fun i hi => (low_open (h i (pOk_lt hi)) (pOk_iff.1 hi).1).2
theorem lblks_get {e a i : Nat} {ps : List (List UInt8)} {p : List UInt8} (h : ps[i]? = some p) : (lblks e a ps).getD i [] = sealL e (a + i) p := by
  rw [List.getD_eq_getElem?_getD, lblks_at, h]; rfl
/-- What a live disk reads behind a record was appended. -/
theorem view_app {k : Dk} {f : Nat} {b : Int} {e a : Nat} {s : List UInt8} (hl : Lively k) (he : 0 < e) (hf : fitsL (b - (a : Int)) s) (hn : (f : Int) + b ≤ (k.L.length : Int)) :
    appE k (f : Int) b e a s = 0 ∧ Lively (appK k (f : Int) b e a s) ∧ (appK k (f : Int) b e a s).L = k.L ∧ (appK k (f : Int) b e a s).W = k.W ++ places (((f + a : Nat)) : Int) (lblks e a (piecesF s)) ∧
    ∀ i, i < k.L.length → (view (appK k (f : Int) b e a s)).getD i [] = if f + a ≤ i ∧ i < f + a + manyN s.length then (lblks e a (piecesF s)).getD (i - (f + a)) [] else (view k).getD i [] := by
  obtain ⟨e1, e2⟩ := app_yes (k := k) (f := (f : Int)) (e := e) (lgE_0.2 hf)
  have hf2 := hf.2
  have hbl : (lblks e a (piecesF s)).length = manyN s.length := by rw [lblks_len, piecesF_len]
  rw [show (f : Int) + (a : Int) = ((f + a : Nat) : Int) by omega] at e1 e2
  obtain ⟨g1, g2, g3, g4⟩ := wrs_lively (lblks e a (piecesF s)) k ((f + a : Nat) : Int) hl (lblks_64 he (piecesF_48 s) a) (by omega) (by rw [hbl]; omega)
  rw [e1, e2]
  refine ⟨g1, g4, g2, g3, fun i hi => ?_⟩
  have hv : view (wrsK k ((f + a : Nat) : Int) (lblks e a (piecesF s))) = applyW (view k) (places ((f + a : Nat) : Int) (lblks e a (piecesF s))) := by
    unfold view; rw [g2, g3, applyW_app]
  have hvl := view_len k
  rw [hv, applyW_places _ _ _ (by rw [hbl, hvl]; omega) i (by rw [hvl]; exact hi), hbl]
theorem rdB_view {k : Dk} (ho : DkOk k) (hd : k.dead = false) {f n i : Nat} (hi : i < n) (hn : f + n ≤ k.L.length) : (rdB k (f : Int) n).getD i [] = (view k).getD (f + i) [] := by
  rw [rdB_get hi, show (f : Int) + (i : Int) = ((f + i : Nat) : Int) by omega, (read_view ho hd (by omega)).1]
theorem rdB_out {k : Dk} {f : Int} {n i : Nat} (h : n ≤ i) : (rdB k f n).getD i [] = [] := by
  rw [List.getD_eq_getElem?_getD, List.getElem?_eq_none (by rw [rdB_len]; exact h)]; rfl
theorem newD_view' {n i : Nat} (hi : i < n) : (view (newD n)).getD i [] = List.replicate 64 0 := by
  show (List.replicate n (List.replicate 64 (0 : UInt8))).getD i [] = _
  rw [List.getD_eq_getElem?_getD, List.getElem?_replicate, if_pos hi]; rfl
theorem zero_not : openOk (List.replicate 64 0) = false := by decide
def zt (n : Nat) : List UInt8 := List.replicate n 0
theorem zt_len (n : Nat) : (zt n).length = n := by simp [zt]
def lk1 : Dk := appK (newD 8) 2 5 7 0 (zt 42)
def lk2 : Dk := appK lk1 2 5 7 1 (zt 43)
theorem live_log : appE (newD 8) 2 5 7 0 (zt 42) = 0 ∧ appA (newD 8) 2 5 7 0 (zt 42) = 1 ∧ appE lk1 2 5 7 1 (zt 43) = 0 ∧ appA lk1 2 5 7 1 (zt 43) = 3 ∧ lk2.dead = false ∧ lk1.W.length ≤ 100 ∧ rp (rdB lk2 2 5) 9 1 0 = ([zt 42, zt 43], 3) := by
  have m1 : manyN (zt 42).length = 1 := by rw [zt_len]; rfl
  have m2 : manyN (zt 43).length = 2 := by rw [zt_len]; rfl
  have l1 := zt_len 42
  have l2 := zt_len 43
  have hn : (newD 8).L.length = 8 := by simp [newD]
  have f1 : fitsL ((5 : Int) - ((0 : Nat) : Int)) (zt 42) := by unfold fitsL; rw [m1, l1]; omega
  have f2 : fitsL ((5 : Int) - ((1 : Nat) : Int)) (zt 43) := by unfold fitsL; rw [m2, l2]; omega
  obtain ⟨a1, a2, a3, a4, a5⟩ := view_app (k := newD 8) (f := 2) (b := 5) (e := 7) (a := 0) (newD_lively 8) (by omega) f1 (by rw [hn]; omega)
  obtain ⟨b1, b2, b3, b4, b5⟩ := view_app (k := lk1) (f := 2) (b := 5) (e := 7) (a := 1) (show Lively lk1 from a2) (by omega) f2 (by show _ ≤ ((appK (newD 8) ((2 : Nat) : Int) 5 7 0 (zt 42)).L.length : Int); rw [a3, hn]; omega)
  have hL1 : lk1.L.length = 8 := by show (appK (newD 8) ((2 : Nat) : Int) 5 7 0 (zt 42)).L.length = 8; rw [a3, hn]
  have hL2 : lk2.L.length = 8 := by show (appK lk1 ((2 : Nat) : Int) 5 7 1 (zt 43)).L.length = 8; rw [b3, hL1]
  have ok1 : DkOk lk1 := app_ok (newD_ok 8 (by omega) (by omega)) _ _ _ _ _
  have ok2 : DkOk lk2 := app_ok ok1 _ _ _ _ _
  have hd2 : lk2.dead = false := b2.dead
  have hvw : ∀ i, i < 8 → (view lk2).getD i [] = if 3 ≤ i ∧ i < 5 then (lblks 7 1 (piecesF (zt 43))).getD (i - 3) [] else if 2 ≤ i ∧ i < 3 then (lblks 7 0 (piecesF (zt 42))).getD (i - 2) [] else List.replicate 64 0 := by
    intro i hi
    have h1 := b5 i (by rw [hL1]; exact hi)
    have h2 := a5 i (by rw [hn]; exact hi)
    rw [m2] at h1
    rw [m1, newD_view' hi] at h2
    show (view (appK lk1 ((2 : Nat) : Int) 5 7 1 (zt 43))).getD i [] = _
    rw [h1]
    by_cases hc : 3 ≤ i ∧ i < 5
    · rw [if_pos (by omega), if_pos hc]
    · rw [if_neg (by omega), if_neg hc]; exact h2
  have hz : ∀ i, i < 8 → (view (newD 8)).getD i [] = List.replicate 64 0 := fun i hi => newD_view' hi
  have hrb : ∀ i, (rdB (newD 8) ((2 : Nat) : Int) 5).getD i [] = if i < 5 then List.replicate 64 0 else [] := fun i => by
    by_cases hi : i < 5
    · rw [if_pos hi, rdB_view (newD_ok 8 (by omega) (by omega)) rfl hi (by rw [hn]; omega), hz _ (by omega)]
    · rw [if_neg hi, rdB_out (by omega)]
  have hrb' : ∀ i, i < 5 → (rdB lk2 ((2 : Nat) : Int) 5).getD i [] = (view lk2).getD (2 + i) [] := fun i hi => rdB_view ok2 hd2 hi (by rw [hL2]; omega)
  have hr0 : rp (rdB (newD 8) ((2 : Nat) : Int) 5) 0 1 0 = ([], 0) := rp_no (fun x => by
    have := (pOk_iff.1 x.1).1
    rw [hrb 0, if_pos (by omega), zero_not] at this; cases this)
  have pl1 := piecesF_len (zt 42)
  have pl2 := piecesF_len (zt 43)
  rw [m1] at pl1
  rw [m2] at pl2
  have hP : pcs [zt 42, zt 43] = piecesF (zt 42) ++ piecesF (zt 43) := by rw [pcs_cons, pcs_cons]; simp [pcs]
  have hPl : (pcs [zt 42, zt 43]).length = 3 := by rw [hP, List.length_append, pl1, pl2]
  have hwhole : WholeTo 7 (rdB lk2 ((2 : Nat) : Int) 5) 0 (pcs [zt 42, zt 43]) := by
    intro i p hp
    have hi : i < 3 := by have := (List.getElem?_eq_some_iff.1 hp).1; omega
    rw [Nat.zero_add, hrb' i (by omega), hvw (2 + i) (by omega)]
    rw [hP] at hp
    by_cases h0 : i = 0
    · subst h0
      rw [if_neg (by omega), if_pos (by omega)]
      rw [List.getElem?_append_left (by omega)] at hp
      exact lblks_get hp
    · rw [if_pos (by omega), show 2 + i - 3 = i - 1 by omega]
      rw [List.getElem?_append_right (by omega), pl1] at hp
      rw [lblks_get hp]; congr 1; omega
  have hov : Over 0 7 (rdB (newD 8) ((2 : Nat) : Int) 5) (rdB lk2 ((2 : Nat) : Int) 5) 0 (pcs [zt 42, zt 43]) := by
    refine ⟨by rw [rdB_len, rdB_len], fun i hi => ?_, by omega, by omega, fun i p hp hi => ?_, fun i hi => ?_, pcs_48 _⟩
    · rw [rdB_len] at hi; rw [hrb i, if_pos hi]; exact low_zero 0
    · rw [hwhole i p hp]
      exact lain_seal (by omega) (by omega) (pcs_48 _ p (List.mem_of_getElem? hp))
    · rw [hPl] at hi
      rw [hrb i]
      by_cases h5 : i < 5
      · rw [if_pos h5, hrb' i h5, hvw (2 + i) (by omega), if_neg (by omega), if_neg (by omega)]
      · rw [if_neg h5, rdB_out (by omega)]
  have key := more_all (base := 1) (rb := rdB (newD 8) ((2 : Nat) : Int) 5) (rb' := rdB lk2 ((2 : Nat) : Int) 5) (by rw [rdB_len]; omega) (ts := [zt 42, zt 43]) (m := 2) (by rw [hr0]; exact hov) (fun i hi => by rw [hr0] at hi; cases hi) (by omega) (by
    intro t ht
    simp only [List.mem_cons, List.not_mem_nil, or_false] at ht
    rcases ht with rfl | rfl
    · rw [l1]; omega
    · rw [l2]; omega) (by simp) (by rw [hr0]; exact hwhole) (by rw [hr0]; show 0 + (pcs [zt 42, zt 43]).length ≤ _; rw [hPl, rdB_len]; omega)
  obtain ⟨j, j1, j2, j3⟩ := key
  have hj : j = 2 := by simp at j2; omega
  subst hj
  rw [hr0] at j3
  have hlow : ∀ i, i < (rdB lk2 ((2 : Nat) : Int) 5).length → Low 7 ((rdB lk2 ((2 : Nat) : Int) 5).getD i []) := fun i hi => by
    rw [rdB_len] at hi
    by_cases h3 : i < 3
    · obtain ⟨p, hp⟩ := getI (show i < (pcs [zt 42, zt 43]).length by omega)
      have := hwhole i p hp
      rw [Nat.zero_add] at this
      rw [this]
      exact low_seal (by omega) (by omega) (pcs_48 _ p (List.mem_of_getElem? hp))
    · rw [hov.olds i (by omega), hrb i, if_pos hi]; exact low_zero 7
  refine ⟨a1, ?_, b1, ?_, hd2, ?_, ?_⟩
  · exact (app_A0 (show appE (newD 8) 2 5 7 0 (zt 42) = 0 from a1)).trans (by rw [m1])
  · exact (app_A0 (show appE lk1 2 5 7 1 (zt 43) = 0 from b1)).trans (by rw [m2])
  · have := app_W (newD 8) 2 5 7 0 (zt 42)
    have h0 : (newD 8).W.length = 0 := rfl
    unfold lk1; omega
  · rw [show (rdB lk2 2 5) = rdB lk2 ((2 : Nat) : Int) 5 from rfl, rp_epoch (e := 7) (low_epochs hlow) (by omega), j3]
    show (([] : List (List UInt8)) ++ [zt 42, zt 43], 0 + (pcs [zt 42, zt 43]).length) = _
    rw [hPl]; rfl
theorem new_W8 : (newD 8).W.length ≤ 1000000 - 100 := Nat.zero_le _
theorem lk1_at {n lb lcap : Nat} {lcs : Array Value} {uw : Sl} (h : DkAt (appK (newD 8) 2 5 7 0 (zt 42)) n lb lcs lcap uw) : DkAt lk1 n lb lcs lcap uw := h
theorem lk2_at {n lb lcap : Nat} {lcs : Array Value} {uw : Sl} (h : DkAt (appK lk1 2 5 7 1 (zt 43)) n lb lcs lcap uw) : DkAt lk2 n lb lcs lcap uw := h
theorem lk1_eq : appK (newD 8) 2 5 7 0 (zt 42) = lk1 := rfl
theorem lk2_eq : appK lk1 2 5 7 1 (zt 43) = lk2 := rfl

end
end Go.Proofs.YtbblkgdejgoncaaGreatDoor

/- A log on a disk whose power goes, however often (layer 26), in plain lists. -/
set_option linter.unusedSimpArgs false
set_option linter.unusedVariables false
namespace Go.Proofs.YtbblkgdejgoncaaGreatDoor
open Go Go.RowKit

section



/-- Some blocks of a disk. -/
def reg (f n : Nat) (L : List (List UInt8)) : List (List UInt8) := (L.drop f).take n
theorem reg_len {f n : Nat} {L : List (List UInt8)} (h : f + n ≤ L.length) : (reg f n L).length = n := by unfold reg; rw [List.length_take, List.length_drop]; omega
theorem reg_get {f n i : Nat} (L : List (List UInt8)) (hi : i < n) : (reg f n L).getD i [] = L.getD (f + i) [] := by
  unfold reg; rw [List.getD_eq_getElem?_getD, List.getElem?_take, if_pos hi, List.getElem?_drop, List.getD_eq_getElem?_getD]
theorem reg_out {f n i : Nat} (L : List (List UInt8)) (hi : n ≤ i) : (reg f n L).getD i [] = [] := by
  unfold reg; rw [List.getD_eq_getElem?_getD, List.getElem?_take, if_neg (by omega)]; rfl
theorem list_out {L : List (List UInt8)} {i : Nat} (hi : L.length ≤ i) : L.getD i [] = [] := by rw [List.getD_eq_getElem?_getD, List.getElem?_eq_none hi]; rfl
theorem rdB_reg {k : Dk} (ho : DkOk k) (hd : k.dead = false) (hw : k.W = []) {f n : Nat} (hn : f + n ≤ k.L.length) : rdB k (f : Int) n = reg f n k.L := by
  apply List.ext_getElem?
  intro i
  by_cases hi : i < n
  · have h1 := rdB_view ho hd hi hn
    rw [view_nil hw, ← reg_get k.L hi] at h1
    rw [List.getD_eq_getElem?_getD, List.getD_eq_getElem?_getD] at h1
    obtain ⟨x, hx⟩ := getI (show i < (rdB k (f : Int) n).length by rw [rdB_len]; exact hi)
    obtain ⟨y, hy⟩ := getI (show i < (reg f n k.L).length by rw [reg_len hn]; exact hi)
    rw [hx, hy] at h1 ⊢
    simpa using h1
  · rw [List.getElem?_eq_none (by rw [rdB_len]; omega), List.getElem?_eq_none (by rw [reg_len hn]; omega)]
theorem applyW_other {j : Nat} : ∀ (W : List (Int × List UInt8)) (L : List (List UInt8)), (∀ x ∈ W, x.1.toNat ≠ j) → (applyW L W).getD j [] = L.getD j []
  | [], _, _ => rfl
  | x :: W, L, h => by
    show (applyW (L.set x.1.toNat x.2) W).getD j [] = _
    rw [applyW_other W _ (fun y hy => h y (by simp [hy])), List.getD_eq_getElem?_getD, List.getElem?_set_ne (h x (by simp)), List.getD_eq_getElem?_getD]
theorem wrs_dead : ∀ (bl : List (List UInt8)) (k : Dk) (a : Int), k.dead = true → bl ≠ [] → (∀ b ∈ bl, b.length = 64) → 0 ≤ a → a + (bl.length : Int) ≤ (k.L.length : Int) → wrsE k a bl = 21 ∧ (wrsK k a bl).L = k.L ∧ (wrsK k a bl).W = k.W ∧ (wrsK k a bl).dead = true
  | [], _, _, _, h, _, _, _ => absurd rfl h
  | b :: r, k, a, hd, _, hb, h0, h1 => by
    rw [List.length_cons] at h1
    obtain ⟨e1, e2⟩ := write_dead (k := k) (a := a) (s := b) (hasE_ok.2 (by omega)) (hb b (by simp)) (by unfold spD; rw [hd]; rfl)
    have hs : k.spent.dead = true := by show spD _ _ = true; unfold spD; rw [hd]; rfl
    rw [wrsK, wrsE, if_pos (by rw [e2]; decide), if_pos (by rw [e2]; decide), e1, e2]
    exact ⟨rfl, rfl, rfl, hs⟩
theorem Over.extend {e0 e a : Nat} {rb rb' P : List (List UInt8)} (h : Over e0 e rb rb' a P) {Q : List (List UInt8)} (hq : ∀ q ∈ Q, q.length = 48) : Over e0 e rb rb' a (P ++ Q) :=
  ⟨h.len, h.low, h.e1, h.e2, fun i p hp hi => by
    rcases Nat.lt_or_ge i P.length with hlt | hge
    · rw [List.getElem?_append_left hlt] at hp; exact h.news i p hp hi
    · exact .inl (h.olds (a + i) (by omega)), fun i hi => h.olds i (by rw [List.length_append] at hi; omega), fun p hp => by
    rcases List.mem_append.1 hp with hp | hp
    · exact h.p48 p hp
    · exact hq p hp⟩
/-- How a log and its disk stand: what lay there when the epoch began (rb: of it base was replayed, up to a0), what was appended since, wholly, and what not, and how much of it is sure. -/
structure Fl (f n base0 N e : Nat) (k : Dk) (a : Nat) (rb : List (List UInt8)) (base : List (List UInt8)) (a0 : Nat) (done rest : List (List UInt8)) (m : Nat) : Prop where
  len : k.L.length = N
  fn : f + n ≤ N
  n4 : n ≤ 4096
  e1 : 1 ≤ e
  e2 : e < 256
  be : base0 ≤ e
  t1000 : ∀ t ∈ done ++ rest, t.length ≤ 1000
  rp0 : rp rb (e - 1) base0 0 = (base, a0)
  at_ : a = a0 + (pcs done).length
  atn : a ≤ n
  rbl : rb.length = n
  over : Over (e - 1) e rb (reg f n k.L) a0 (pcs (done ++ rest))
  olds : ∀ i, i < a0 → (reg f n k.L).getD i [] = rb.getD i []
  wat : ∀ x ∈ k.W, ∃ (i : Nat) (p : List UInt8), (pcs (done ++ rest))[i]? = some p ∧ a0 + i < n ∧ x = (((f + a0 + i : Nat) : Int), sealL e (a0 + i) p)
  vw : ∀ i p, (pcs done)[i]? = some p → (view k).getD (f + a0 + i) [] = sealL e (a0 + i) p
  live : k.dead = false → rest = []
  ml : m ≤ done.length
  whole : WholeTo e (reg f n k.L) a0 (pcs (done.take m))
theorem rp_end_le {rb : List (List UInt8)} {e base0 : Nat} : (rp rb e base0 0).2 ≤ rb.length := by
  obtain ⟨b, hc, _⟩ := rp_reach rb e base0
  exact hc.le.1
theorem fl_start {f n base0 N e : Nat} {k : Dk} {base : List (List UInt8)} {a0 : Nat} (hl : k.L.length = N) (hf : f + n ≤ N) (hn : n ≤ 4096) (h1 : 1 ≤ e) (h2 : e < 256) (hb : base0 ≤ e) (hw : k.W = []) (hlow : ∀ i, i < n → Low (e - 1) ((reg f n k.L).getD i [])) (hr : rp (reg f n k.L) (e - 1) base0 0 = (base, a0)) :
    Fl f n base0 N e k a0 (reg f n k.L) base a0 [] [] 0 := by
  have hrl := reg_len (n := n) (f := f) (L := k.L) (by omega)
  have h0 := rp_end_le (rb := reg f n k.L) (e := e - 1) (base0 := base0)
  rw [hr, hrl] at h0
  exact ⟨hl, hf, hn, h1, h2, hb, fun t ht => (by cases ht), hr, by simp [pcs], h0, hrl,
    ⟨rfl, fun i hi => hlow i (by rw [hrl] at hi; exact hi), by omega, h2, fun i p hp => (by simp [pcs] at hp), fun _ _ => rfl, fun p hp => (by simp [pcs] at hp)⟩,
    fun _ _ => rfl, fun x hx => (by rw [hw] at hx; cases hx), fun i p hp => (by simp [pcs] at hp), fun _ => rfl, Nat.zero_le _, fun i p hp => (by simp [pcs] at hp)⟩
theorem fl_fuse {f n base0 N e a a0 m : Nat} {k : Dk} {rb base done rest : List (List UInt8)} (h : Fl f n base0 N e k a rb base a0 done rest m) (z : Int) : Fl f n base0 N e (k.setFuse z) a rb base a0 done rest m :=
  ⟨h.len, h.fn, h.n4, h.e1, h.e2, h.be, h.t1000, h.rp0, h.at_, h.atn, h.rbl, h.over, h.olds, h.wat, h.vw, h.live, h.ml, h.whole⟩
theorem pcs_one (s : List UInt8) : pcs [s] = piecesF s := by rw [pcs_cons]; simp [pcs]
/-- What an Append that has room makes of it. -/
theorem fl_append {f n base0 N e a a0 m : Nat} {k : Dk} {rb base done rest : List (List UInt8)} (h : Fl f n base0 N e k a rb base a0 done rest m) {s : List UInt8} (hs : s.length ≤ 1000) (hfit : fitsL ((n : Int) - (a : Int)) s) :
    (appE k (f : Int) n e a s = 0 ∧ appA k (f : Int) n e a s = a + manyN s.length ∧ rest = [] ∧ Fl f n base0 N e (appK k (f : Int) n e a s) (a + manyN s.length) rb base a0 (done ++ [s]) [] m) ∨
    (appE k (f : Int) n e a s = 21 ∧ appA k (f : Int) n e a s = a ∧ Fl f n base0 N e (appK k (f : Int) n e a s) a rb base a0 done (rest ++ [s]) m) := by
  have hfn := h.fn
  have hatn := h.atn
  have hat := h.at_
  have hlen := h.len
  have he1 := h.e1
  have hf2 := hfit.2
  have hpl := piecesF_len s
  have hpos := manyN_pos s.length
  obtain ⟨e1, e2⟩ := app_yes (k := k) (f := (f : Int)) (e := e) (lgE_0.2 hfit)
  rw [show (f : Int) + (a : Int) = ((f + a : Nat) : Int) by omega] at e1 e2
  have hbl : (lblks e a (piecesF s)).length = manyN s.length := by rw [lblks_len, piecesF_len]
  have hb64 := lblks_64 (e := e) (by omega) (piecesF_48 s) a
  have ht : ∀ t ∈ done ++ (rest ++ [s]), t.length ≤ 1000 := fun t ht => by
    rw [← List.append_assoc] at ht
    rcases List.mem_append.1 ht with ht | ht
    · exact h.t1000 t ht
    · rw [List.mem_singleton.1 ht]; exact hs
  have hP : pcs (done ++ (rest ++ [s])) = pcs (done ++ rest) ++ piecesF s := by rw [← List.append_assoc, pcs_app _ [s], pcs_one]
  cases hd : k.dead with
  | true =>
    obtain ⟨g1, g2, g3, g4⟩ := wrs_dead (lblks e a (piecesF s)) k ((f + a : Nat) : Int) hd (fun x => by rw [x] at hbl; simp at hbl; omega) hb64 (by omega) (by rw [hbl, hlen]; omega)
    have hE : appE k (f : Int) n e a s = 21 := e2.trans g1
    refine .inr ⟨hE, app_A1 (by rw [hE]; decide), ?_⟩
    rw [e1]
    have hv : view (wrsK k ((f + a : Nat) : Int) (lblks e a (piecesF s))) = view k := by unfold view; rw [g2, g3]
    refine ⟨by rw [g2]; exact hlen, hfn, h.n4, he1, h.e2, h.be, ht, h.rp0, hat, hatn, h.rbl, by rw [g2, hP]; exact h.over.extend (piecesF_48 s), by rw [g2]; exact h.olds, fun x hx => ?_, by rw [hv]; exact h.vw, fun x => (by rw [g4] at x; cases x), h.ml, by rw [g2]; exact h.whole⟩
    rw [g3] at hx
    obtain ⟨i, p, q1, q2, q3⟩ := h.wat x hx
    exact ⟨i, p, by rw [hP, List.getElem?_append_left (List.getElem?_eq_some_iff.1 q1).1]; exact q1, q2, q3⟩
  | false =>
    have hrest := h.live hd
    subst hrest
    rw [List.append_nil] at hP
    rw [List.nil_append] at hP ht ⊢
    have hover := h.over
    have hwat := h.wat
    rw [List.append_nil] at hover hwat
    obtain ⟨j, hj, g2, g3, g4⟩ := wrs_all (lblks e a (piecesF s)) k ((f + a : Nat) : Int) hb64 (by omega) (by rw [hbl, hlen]; omega)
    have hwat' : ∀ x ∈ (wrsK k ((f + a : Nat) : Int) (lblks e a (piecesF s))).W, ∃ (i : Nat) (p : List UInt8), (pcs (done ++ [s]))[i]? = some p ∧ a0 + i < n ∧ x = (((f + a0 + i : Nat) : Int), sealL e (a0 + i) p) := fun x hx => by
      rw [g3] at hx
      rcases List.mem_append.1 hx with hx | hx
      · obtain ⟨i, p, q1, q2, q3⟩ := hwat x hx
        exact ⟨i, p, by rw [hP, List.getElem?_append_left (List.getElem?_eq_some_iff.1 q1).1]; exact q1, q2, q3⟩
      · obtain ⟨i, b, q1, q2⟩ := places_mem hx
        rw [List.getElem?_take] at q1
        split at q1
        · rename_i hij
          rw [lblks_at] at q1
          cases hp : (piecesF s)[i]? with
          | none => rw [hp] at q1; cases q1
          | some p =>
            rw [hp] at q1
            simp only [Option.map_some, Option.some.injEq] at q1
            have hi : i < (piecesF s).length := (List.getElem?_eq_some_iff.1 hp).1
            refine ⟨(pcs done).length + i, p, ?_, by omega, ?_⟩
            · rw [hP, List.getElem?_append_right (by omega), show (pcs done).length + i - (pcs done).length = i by omega]; exact hp
            · rw [q2, ← q1, show a0 + ((pcs done).length + i) = a + i by omega]
              rw [Prod.mk.injEq]; exact ⟨by omega, rfl⟩
        · cases q1
    have hvw : ∀ (t : Nat), t ≤ (lblks e a (piecesF s)).length → ∀ i, i < N → (applyW (view k) (places ((f + a : Nat) : Int) ((lblks e a (piecesF s)).take t))).getD i [] = if f + a ≤ i ∧ i < f + a + t then (lblks e a (piecesF s)).getD (i - (f + a)) [] else (view k).getD i [] := fun t ht' i hi => by
      have hvl := view_len k
      have htl : ((lblks e a (piecesF s)).take t).length = t := by rw [List.length_take]; omega
      rw [applyW_places _ _ _ (by rw [htl, hvl]; omega) i (by rw [hvl]; omega), htl]
      by_cases hc : f + a ≤ i ∧ i < f + a + t
      · rw [if_pos hc, if_pos hc, List.getD_eq_getElem?_getD, List.getElem?_take, if_pos (by omega), List.getD_eq_getElem?_getD]
      · rw [if_neg hc, if_neg hc]
    have hview : view (wrsK k ((f + a : Nat) : Int) (lblks e a (piecesF s))) = applyW (view k) (places ((f + a : Nat) : Int) ((lblks e a (piecesF s)).take j)) := by unfold view; rw [g2, g3, applyW_app]
    have hvold : ∀ i p, (pcs done)[i]? = some p → (view (wrsK k ((f + a : Nat) : Int) (lblks e a (piecesF s)))).getD (f + a0 + i) [] = sealL e (a0 + i) p := fun i p hp => by
      have hi := (List.getElem?_eq_some_iff.1 hp).1
      rw [hview, hvw j (by omega) _ (by omega), if_neg (by omega)]
      exact h.vw i p hp
    rcases g4 with ⟨g4, g5, g6⟩ | ⟨g4, g5, g6⟩
    · have hE : appE k (f : Int) n e a s = 0 := e2.trans g4
      refine .inl ⟨hE, app_A0 hE, rfl, ?_⟩
      rw [e1]
      refine ⟨by rw [g2]; exact hlen, hfn, h.n4, he1, h.e2, h.be, by rw [List.append_nil]; exact ht, h.rp0, by rw [hP, List.length_append, hpl]; omega, by omega, h.rbl, by rw [g2, List.append_nil, hP]; exact hover.extend (piecesF_48 s), by rw [g2]; exact h.olds, by rw [List.append_nil]; exact hwat', fun i p hp => ?_, fun _ => rfl, by rw [List.length_append]; have := h.ml; omega, ?_⟩
      · rw [hP] at hp
        rcases Nat.lt_or_ge i (pcs done).length with hi | hi
        · rw [List.getElem?_append_left hi] at hp; exact hvold i p hp
        · rw [List.getElem?_append_right hi] at hp
          have hi2 := (List.getElem?_eq_some_iff.1 hp).1
          rw [hview, hvw j (by omega) _ (by omega), if_pos (by omega), show f + a0 + i - (f + a) = i - (pcs done).length by omega, lblks_get hp]
          congr 1; omega
      · rw [g2, List.take_append_of_le_length h.ml]; exact h.whole
    · have hE : appE k (f : Int) n e a s = 21 := e2.trans g4
      refine .inr ⟨hE, app_A1 (by rw [hE]; decide), ?_⟩
      rw [e1]
      exact ⟨by rw [g2]; exact hlen, hfn, h.n4, he1, h.e2, h.be, ht, h.rp0, hat, hatn, h.rbl, by rw [g2, hP]; exact hover.extend (piecesF_48 s), by rw [g2]; exact h.olds, hwat', hvold, fun x => (by rw [g6] at x; cases x), h.ml, by rw [g2]; exact h.whole⟩
theorem fl_sync {f n base0 N e a a0 m : Nat} {k : Dk} {rb base done rest : List (List UInt8)} (h : Fl f n base0 N e k a rb base a0 done rest m) :
    (k.syncE = 0 ∧ rest = [] ∧ Fl f n base0 N e k.sync a rb base a0 done [] done.length) ∨ (k.syncE = 21 ∧ Fl f n base0 N e k.sync a rb base a0 done rest m) := by
  have hfn := h.fn
  have hatn := h.atn
  have hat := h.at_
  have hlen := h.len
  have he1 := h.e1
  cases hd : spD k.fuse k.dead with
  | true =>
    obtain ⟨e1, e2⟩ := sync_dead hd
    refine .inr ⟨e2, ?_⟩
    rw [e1]
    exact ⟨hlen, hfn, h.n4, he1, h.e2, h.be, h.t1000, h.rp0, hat, hatn, h.rbl, h.over, h.olds, h.wat, h.vw, fun x => (by rw [show k.spent.dead = true from hd] at x; cases x), h.ml, h.whole⟩
  | false =>
    obtain ⟨e1, e2⟩ := sync_live hd
    have hkd : k.dead = false := by
      cases hq : k.dead with
      | false => rfl
      | true => unfold spD at hd; rw [hq] at hd; cases hd
    have hrest := h.live hkd
    subst hrest
    refine .inl ⟨e2, rfl, ?_⟩
    rw [e1]
    have hL : k.spent.flushed.L = view k := rfl
    have hover := h.over
    have hwat := h.wat
    rw [List.append_nil] at hover hwat
    have hvl := view_len k
    have hwhole : WholeTo e (reg f n (view k)) a0 (pcs done) := fun i p hp => by
      have hi := (List.getElem?_eq_some_iff.1 hp).1
      rw [reg_get _ (by omega), ← Nat.add_assoc]; exact h.vw i p hp
    have hother : ∀ i, i < n → (i < a0 ∨ a0 + (pcs done).length ≤ i) → (reg f n (view k)).getD i [] = (reg f n k.L).getD i [] := fun i hi hc => by
      rw [reg_get _ hi, reg_get _ hi]
      refine applyW_other _ _ (fun x hx => ?_)
      obtain ⟨t, p, q1, _, q3⟩ := hwat x hx
      have ht := (List.getElem?_eq_some_iff.1 q1).1
      rw [q3]; simp only; omega
    refine ⟨by rw [hL, hvl]; exact hlen, hfn, h.n4, he1, h.e2, h.be, by have := h.t1000; exact this, h.rp0, hat, hatn, h.rbl, ?_, fun i hi => ?_, fun x hx => (by cases hx), fun i p hp => ?_, fun _ => rfl, Nat.le_refl _, by rw [List.take_length, hL]; exact hwhole⟩
    · rw [hL, List.append_nil]
      refine ⟨by rw [reg_len (by rw [hvl]; omega)]; exact h.rbl.symm, hover.low, hover.e1, hover.e2, fun i p hp hi => ?_, fun i hi => ?_, hover.p48⟩
      · rw [hwhole i p hp]
        exact lain_seal (by omega) h.e2 (hover.p48 p (List.mem_of_getElem? hp))
      · by_cases hin : i < n
        · rw [hother i hin (.inr hi)]; exact hover.olds i hi
        · rw [reg_out _ (by omega), list_out (by rw [h.rbl]; omega)]
    · rw [hL, hother i (by omega) (.inl hi)]; exact h.olds i hi
    · exact h.vw i p hp
/-- What a crash leaves: the first ones of what was appended, all that is sure. -/
theorem fl_crashA {f n base0 N e a a0 m : Nat} {k : Dk} {rb base done rest : List (List UInt8)} (h : Fl f n base0 N e k a rb base a0 done rest m) (ks : List (Int × Int)) :
    (k.crash ks).L.length = N ∧ (∀ i, i < n → Low e ((reg f n (k.crash ks).L).getD i [])) ∧ ∃ j, m ≤ j ∧ j ≤ (done ++ rest).length ∧ rp (reg f n (k.crash ks).L) e base0 0 = (base ++ (done ++ rest).take j, a0 + (pcs ((done ++ rest).take j)).length) := by
  have hfn := h.fn
  have hatn := h.atn
  have hat := h.at_
  have hlen := h.len
  have he1 := h.e1
  have he2 := h.e2
  have hover := h.over
  have hrl := reg_len (n := n) (f := f) (L := k.L) (by omega)
  have hcl : (k.crash ks).L.length = N := by rw [crash_len]; exact hlen
  have hinv := keeps_inv (W := k.W) (fun r b => ∀ i, i < n → r = f + i → (∀ t p, (pcs (done ++ rest))[t]? = some p → i = a0 + t → Lain e p (rb.getD i []) b) ∧ ((i < a0 ∨ a0 + (pcs (done ++ rest)).length ≤ i) → b = rb.getD i []) ∧ (∀ t p, (pcs (done.take m))[t]? = some p → i = a0 + t → b = sealL e i p)) (fun x hx b c hc hI => by
      intro i hi hr
      obtain ⟨t, p, q1, q2, q3⟩ := h.wat x hx
      have ht := (List.getElem?_eq_some_iff.1 q1).1
      have hx1 : x.1.toNat = f + a0 + t := by rw [q3]; simp only; omega
      have hit : i = a0 + t := by omega
      obtain ⟨i1, i2, i3⟩ := hI i hi hr
      have hlow := hover.low i (by rw [h.rbl]; exact hi)
      have hp48 := hover.p48 p (List.mem_of_getElem? q1)
      refine ⟨fun t' p' hp' hi' => ?_, fun hc' => by omega, fun t' p' hp' hi' => ?_⟩
      · have : t' = t := by omega
        subst this
        rw [q1] at hp'; cases hp'
        rw [q3, ← hit]
        exact lain_over hlow hover.e1 he2 hp48 (i1 _ _ q1 hit) hc
      · have : t' = t := by omega
        subst this
        have hb := i3 _ _ hp' hit
        have hpp : p' = p := by
          have h1 := (List.getElem?_eq_some_iff.1 hp').1
          have hsub : pcs (done ++ rest) = pcs (done.take m) ++ pcs (done.drop m ++ rest) := by rw [← pcs_app, ← List.append_assoc, List.take_append_drop]
          rw [hsub, List.getElem?_append_left h1, hp'] at q1
          cases q1; rfl
        rw [hb, q3, hpp, ← hit, List.take_append_drop]) ks k.L (fun x hx => by
      obtain ⟨t, p, _, q2, q3⟩ := h.wat x hx
      rw [q3, hlen]; simp only; omega) (fun r hr i hi hri => by
      subst hri
      have hg := reg_get k.L hi (f := f)
      refine ⟨fun t p hp hit => ?_, fun hc => ?_, fun t p hp hit => ?_⟩
      · have := hover.news t p hp (by rw [h.rbl]; omega)
        rw [← hit, hg] at this; exact this
      · rw [← hg]
        rcases hc with hc | hc
        · exact h.olds i hc
        · exact hover.olds i hc
      · have := h.whole t p hp
        rw [← hit, hg] at this; exact this)
  have hblk : ∀ i, i < n → (reg f n (k.crash ks).L).getD i [] = (keepsL k.W k.L ks).getD (f + i) [] := fun i hi => reg_get _ hi
  have hI := fun i (hi : i < n) => hinv (f + i) (by rw [hlen]; omega) i hi rfl
  have hover' : Over (e - 1) e rb (reg f n (k.crash ks).L) a0 (pcs (done ++ rest)) := by
    refine ⟨by rw [reg_len (by rw [hcl]; omega)]; exact h.rbl.symm, hover.low, hover.e1, he2, fun t p hp ht => ?_, fun i hi => ?_, hover.p48⟩
    · rw [h.rbl] at ht
      rw [hblk _ ht]; exact (hI _ ht).1 t p hp rfl
    · by_cases hin : i < n
      · rw [hblk i hin]; exact (hI i hin).2.1 (.inr hi)
      · rw [reg_out _ (by omega), list_out (by rw [h.rbl]; omega)]
  have ha0 : a0 ≤ n := by omega
  refine ⟨hcl, fun i hi => ?_, ?_⟩
  · have hlow := hover.low i (by rw [h.rbl]; exact hi)
    by_cases hc : i < a0 ∨ a0 + (pcs (done ++ rest)).length ≤ i
    · rw [hblk i hi, (hI i hi).2.1 hc]; exact hlow.mono (by omega)
    · obtain ⟨p, hp⟩ := getI (show i - a0 < (pcs (done ++ rest)).length by omega)
      have := (hI i hi).1 (i - a0) p hp (by omega)
      rw [hblk i hi]
      exact low_lain hlow (by omega) this
  · have hsub : (pcs (done.take m)).length ≤ (pcs done).length := by
      have : pcs done = pcs (done.take m) ++ pcs (done.drop m) := by rw [← pcs_app, List.take_append_drop]
      rw [this, List.length_append]; omega
    have hm := h.ml
    have htk : (done ++ rest).take m = done.take m := List.take_append_of_le_length hm
    have key := more_all (base := base0) (rb := rb) (rb' := reg f n (k.crash ks).L) (by rw [reg_len (by rw [hcl]; omega)]; exact h.n4) (ts := done ++ rest) (m := m) (by rw [h.rp0]; exact hover') (fun i hi => by
        rw [h.rp0] at hi
        have hi : i < a0 := hi
        rw [hblk i (by omega)]; exact (hI i (by omega)).2.1 (.inl hi)) h.be h.t1000 (by rw [List.length_append]; omega) (by
        rw [h.rp0, htk]
        intro t p hp
        have ht := (List.getElem?_eq_some_iff.1 hp).1
        show (reg f n (k.crash ks).L).getD (a0 + t) [] = sealL e (a0 + t) p
        rw [hblk _ (by omega)]; exact (hI _ (by omega)).2.2 t p hp rfl) (by
        rw [h.rp0, htk, reg_len (by rw [hcl]; omega)]
        show a0 + _ ≤ n
        omega)
    obtain ⟨j, j1, j2, j3⟩ := key
    rw [h.rp0] at j3
    exact ⟨j, j1, j2, j3⟩
theorem fl_crash {f n base0 N e a a0 m : Nat} {k : Dk} {rb base done rest : List (List UInt8)} (h : Fl f n base0 N e k a rb base a0 done rest m) (ks : List (Int × Int)) :
    (k.crash ks).L.length = N ∧ (∀ i, i < n → Low e ((reg f n (k.crash ks).L).getD i [])) ∧ ∃ j a1, m ≤ j ∧ j ≤ (done ++ rest).length ∧ rp (reg f n (k.crash ks).L) e base0 0 = (base ++ (done ++ rest).take j, a1) := by
  obtain ⟨x1, x2, j, x3, x4, x5⟩ := fl_crashA h ks
  exact ⟨x1, x2, j, _, x3, x4, x5⟩

end
end Go.Proofs.YtbblkgdejgoncaaGreatDoor

/- A journal on a disk whose power goes, in plain lists. -/
set_option linter.unusedSimpArgs false
set_option linter.unusedVariables false
namespace Go.Proofs.YtbblkgdejgoncaaGreatDoor
open Go Go.RowKit

section



/-- A super's block, whole or torn: zeros but for two bytes and the middle. -/
structure SupL (b : List UInt8) (r : UInt8) : Prop where
  len : b.length = 64
  z : ∀ j, (j < 3 ∨ (4 ≤ j ∧ j < 8) ∨ (56 ≤ j ∧ j < 59) ∨ (60 ≤ j ∧ j < 64)) → b[j]? = some 0
  r : b[59]? = some r
theorem supl_zero : SupL (List.replicate 64 0) 0 := ⟨by simp, fun j hj => by rw [List.getElem?_replicate, if_pos (by omega)], by rw [List.getElem?_replicate, if_pos (by omega)]⟩
theorem supl_enc {s : Sp} (hm : MayS s) (hq : s.seq < 256) : SupL (encS s) (UInt8.ofNat s.seq) ∧ (UInt8.ofNat s.seq).toNat = s.seq := by
  refine ⟨?_, by rw [UInt8.toNat_ofNat']; omega⟩
  have h1 := hm.1
  have h4 : be 4 0 = [0, 0, 0, 0] := by decide
  have e : encS s = [0, 0, 0, UInt8.ofNat s.seq] ++ [0, 0, 0, 0] ++ dataS s ++ [0, 0, 0, UInt8.ofNat s.seq] ++ [0, 0, 0, 0] := by
    unfold encS; rw [sealL_small (by omega) hq (dataS_len s), h4]
  have hd := dataS_len s
  refine ⟨encS_len hm, fun j hj => ?_, ?_⟩
  · rw [e]
    rcases hj with hj | hj | hj | hj
    · rcases (by omega : j = 0 ∨ j = 1 ∨ j = 2) with rfl | rfl | rfl <;> rfl
    · rcases (by omega : j = 4 ∨ j = 5 ∨ j = 6 ∨ j = 7) with rfl | rfl | rfl | rfl <;> rfl
    · rw [List.append_assoc, List.getElem?_append_right (by simp; omega)]
      simp only [List.length_append, List.length_cons, List.length_nil, hd]
      rcases (by omega : j = 56 ∨ j = 57 ∨ j = 58) with rfl | rfl | rfl <;> rfl
    · rw [List.append_assoc, List.getElem?_append_right (by simp; omega)]
      simp only [List.length_append, List.length_cons, List.length_nil, hd]
      rcases (by omega : j = 60 ∨ j = 61 ∨ j = 62 ∨ j = 63) with rfl | rfl | rfl | rfl <;> rfl
  · rw [e, List.append_assoc, List.getElem?_append_right (by simp; omega)]
    simp only [List.length_append, List.length_cons, List.length_nil, hd]
    rfl
/-- A super's block over another one, up to some byte. -/
theorem supl_mix {S b : List UInt8} {s r : UInt8} (hS : SupL S s) (hb : SupL b r) {c : Nat} (hc : c ≤ 64) : SupL (S.take c ++ b.drop c) r ∨ S.take c ++ b.drop c = S := by
  have hl := mix_len hS.len hb.len hc
  by_cases h59 : c ≤ 59
  · left
    refine ⟨hl, fun j hj => ?_, ?_⟩
    · rw [mix_get hS.len hc]
      split
      · exact hS.z j hj
      · exact hb.z j hj
    · rw [mix_get hS.len hc, if_neg (by omega)]; exact hb.r
  · right
    apply List.ext_getElem?
    intro j
    rw [mix_get hS.len hc]
    split
    · rfl
    · rename_i hj
      by_cases h64 : j < 64
      · rw [hb.z j (by omega), hS.z j (by omega)]
      · rw [List.getElem?_eq_none (by rw [hb.len]; omega), List.getElem?_eq_none (by rw [hS.len]; omega)]
theorem supl_seq {b : List UInt8} {r : UInt8} (hb : SupL b r) (h : isS b) : (decSu b).seq = r.toNat := by
  obtain ⟨h1, h2, h3, h4, h5⟩ := open_parts h.1
  have hz : b.take 3 = [0, 0, 0] := by
    apply List.ext_getElem?
    intro j
    rw [List.getElem?_take]
    by_cases hj : j < 3
    · rw [if_pos hj, hb.z j (.inl hj)]
      rcases (by omega : j = 0 ∨ j = 1 ∨ j = 2) with rfl | rfl | rfl <;> rfl
    · rw [if_neg hj, List.getElem?_eq_none (by simp; omega)]
  have hn := num_low h1 hz
  have hq : num (b.take 4) = (decSu b).seq := by
    rw [decS_yes h]
    have hm := h.2.1
    have ho := getS_ok (openD b)
    have hp := (sealL_parts (i := 0) (encS_E hm)).1
    have e : sealL (getS (openD b)).seq 0 (dataS (getS (openD b))) = b := h.2.2
    rw [e] at hp
    rw [hp, num_be 4 _ (by have := ho.q1; omega)]
  rw [← hq, hn, h3]
  unfold b59
  rw [List.getD_eq_getElem?_getD, hb.r]; rfl
theorem pick_head {s : Sp} (hs : SpOk s) (hm : MayS s) {X : List UInt8} (hX : isS X → (decSu X).seq < s.seq) : (s.seq % 2 = 0 → pickS (encS s) X = s) ∧ (s.seq % 2 = 1 → pickS X (encS s) = s) := by
  obtain ⟨i1, d1⟩ := dec_encu hs hm
  have h1 := hm.1
  constructor
  · intro hi
    have e1 : pickStep zeroSp (encS s) 0 = s := by unfold pickStep; rw [d1, if_pos ⟨i1, hi, by show 0 < _; omega⟩]
    unfold pickS
    rw [e1]
    exact if_neg fun x => by have := hX x.1; have := x.2.2; omega
  · intro hi
    unfold pickS
    have ho : (pickStep zeroSp X 0).seq < s.seq := by
      unfold pickStep
      split
      · rename_i hc; exact hX hc.1
      · show 0 < _; omega
    generalize pickStep zeroSp X 0 = o at ho
    unfold pickStep
    rw [d1, if_pos ⟨i1, hi, ho⟩]
theorem keeps_nil (L : List (List UInt8)) : ∀ ks : List (Int × Int), keepsL [] L ks = L
  | [] => rfl
  | k :: ks => by
    show keepsL [] (keep1 [] L k) ks = L
    rw [keep1_no (by simp; omega)]; exact keeps_nil L ks
theorem set_self {L : List (List UInt8)} {a : Nat} {x : List UInt8} (h : L.getD a [] = x) (ha : a < L.length) : L.set a x = L := by
  rw [List.getD_eq_getElem?_getD, List.getElem?_eq_getElem ha] at h
  have h : L[a] = x := h
  subst h
  exact List.set_getElem_self ha
theorem keeps_one1 {L : List (List UInt8)} {a : Nat} {S : List UInt8} (ha : a < L.length) (P : List UInt8 → Prop) (hP : ∀ X c, c ≤ 64 → P X → P (S.take c ++ X.drop c)) : ∀ (ks : List (Int × Int)) (X : List UInt8), P X → ∃ Y, keepsL [((a : Nat), S)] (L.set a X) ks = L.set a Y ∧ P Y
  | [], X, hX => ⟨X, rfl, hX⟩
  | k :: ks, X, hX => by
    show ∃ Y, keepsL [((a : Nat), S)] (keep1 [((a : Nat), S)] (L.set a X) k) ks = _ ∧ _
    by_cases hk : k.1 < 0 ∨ ((1 : Nat) : Int) ≤ k.1
    · rw [keep1_no hk]; exact keeps_one1 ha P hP ks X hX
    · have h0 : k.1.toNat = 0 := by omega
      rw [keep1_yes hk (y := ((a : Nat), S)) (by rw [h0]; rfl)]
      have e : (L.set a X).getD a [] = X := by rw [set_getD ha, if_pos rfl]
      simp only [Int.toNat_natCast]
      rw [e, List.set_set]
      exact keeps_one1 ha P hP ks _ (hP X _ (cut64_le _) hX)
/-- What a Store leaves: it is there, or the power went, and then it is there, or a block without it. -/
theorem store_fall {k : Dk} {t : Sp} (hw : k.W = []) (hm : MayS t) (hq : t.seq < 256) (hl : 2 ≤ k.L.length) {r : UInt8} (hb : SupL (k.L.getD (t.seq % 2) []) r) :
    (storeE k t = 0 ∧ (storeK k t).L = k.L.set (t.seq % 2) (encS t) ∧ (storeK k t).W = [] ∧ (storeK k t).dead = false) ∨
    (storeE k t = 21 ∧ ∀ ks, ∃ X, ((storeK k t).crash ks).L = k.L.set (t.seq % 2) X ∧ (X = encS t ∨ SupL X r)) := by
  have h64 := encS_len hm
  obtain ⟨hS, _⟩ := supl_enc hm hq
  have hlt : t.seq % 2 < k.L.length := by omega
  have ha : hasE k.L.length ((t.seq : Int) % 2) = 0 := hasE_ok.2 (by omega)
  have hai : ((t.seq : Int) % 2) = ((t.seq % 2 : Nat) : Int) := by omega
  cases hd : spD k.fuse k.dead with
  | true =>
    obtain ⟨e1, e2⟩ := write_dead ha h64 hd
    obtain ⟨g1, g2⟩ := store_w (k := k) hm (by rw [e2]; decide)
    rw [g1, g2, e1, e2]
    refine .inr ⟨rfl, fun ks => ⟨k.L.getD (t.seq % 2) [], ?_, .inr hb⟩⟩
    show keepsL k.W k.L ks = _
    rw [hw, keeps_nil, set_self rfl hlt]
  | false =>
    obtain ⟨e1, e2⟩ := write_live ha h64 hd
    obtain ⟨g1, g2⟩ := store_y (k := k) hm e2
    rw [g1, g2, e1]
    have hW : (k.spent.pushed ((t.seq : Int) % 2) (encS t)).W = [(((t.seq % 2 : Nat) : Int), encS t)] := by
      show k.W ++ _ = _
      rw [hw, hai]; rfl
    have hL : (k.spent.pushed ((t.seq : Int) % 2) (encS t)).L = k.L := rfl
    cases hd2 : spD (k.spent.pushed ((t.seq : Int) % 2) (encS t)).fuse (k.spent.pushed ((t.seq : Int) % 2) (encS t)).dead with
    | true =>
      obtain ⟨s1, s2⟩ := sync_dead hd2
      rw [s1, s2]
      refine .inr ⟨rfl, fun ks => ?_⟩
      show ∃ X, keepsL (k.spent.pushed ((t.seq : Int) % 2) (encS t)).W (k.spent.pushed ((t.seq : Int) % 2) (encS t)).L ks = _ ∧ _
      rw [hW, hL]
      obtain ⟨Y, y1, y2⟩ := keeps_one1 hlt (fun X => X = encS t ∨ SupL X r) (fun X c hc hX => by
        rcases hX with rfl | hX
        · left; exact List.take_append_drop _ _
        · rcases supl_mix hS hX hc with h | h
          · exact .inr h
          · exact .inl h) ks (k.L.getD (t.seq % 2) []) (.inr hb)
      rw [set_self rfl hlt] at y1
      exact ⟨Y, y1, y2⟩
    | false =>
      obtain ⟨s1, s2⟩ := sync_live hd2
      rw [s1, s2]
      refine .inl ⟨rfl, ?_, rfl, hd2⟩
      show applyW (k.spent.pushed ((t.seq : Int) % 2) (encS t)).L (k.spent.pushed ((t.seq : Int) % 2) (encS t)).W = _
      rw [hW, hL]
      show k.L.set (((t.seq % 2 : Nat) : Int)).toNat (encS t) = _
      rw [Int.toNat_natCast]
/-- What the writes of a text leave, when the power goes, or when they are synced. -/
theorem puts_fall {k : Dk} {f e : Nat} {R : Nat} {s : List UInt8} (hw : k.W = []) (hd : k.dead = false) (he : 0 < e) (hR : manyS s.length ≤ R) (h1 : 1 ≤ R) (hf : f + R ≤ k.L.length) :
    ((putE k (f : Int) R e s = 0 ∧ (((putK k (f : Int) R e s).syncE = 0 ∧ (putK k (f : Int) R e s).sync.W = [] ∧ (putK k (f : Int) R e s).sync.dead = false ∧ (putK k (f : Int) R e s).sync.L.length = k.L.length ∧ (∀ i, i < k.L.length → (i < f ∨ f + R ≤ i) → (putK k (f : Int) R e s).sync.L.getD i [] = k.L.getD i []) ∧ (∀ i, i < manyS s.length → (putK k (f : Int) R e s).sync.L.getD (f + i) [] = blkS e s i)) ∨
        ((putK k (f : Int) R e s).syncE = 21 ∧ ∀ ks, (∀ i, i < k.L.length → (i < f ∨ f + R ≤ i) → ((putK k (f : Int) R e s).sync.crash ks).L.getD i [] = k.L.getD i [])))) ∨
     (putE k (f : Int) R e s = 21 ∧ ∀ ks, (∀ i, i < k.L.length → (i < f ∨ f + R ≤ i) → ((putK k (f : Int) R e s).crash ks).L.getD i [] = k.L.getD i []))) := by
  have hr : regE k.L.length (f : Int) (R : Int) e = 0 := regE_ok.2 (by omega)
  obtain ⟨e1, e2⟩ := put_yes (k := k) (s := s) hr (by omega)
  have hbl := blksS_len e s
  obtain ⟨j, hj, g1, g2, g3⟩ := wrs_all (blksS e s) k (f : Int) (blksS_64 s he) (by omega) (by rw [hbl]; omega)
  rw [← e1] at g1 g2 g3
  rw [← e2] at g3
  rw [hw, List.nil_append] at g2
  have hat : ∀ x ∈ (putK k (f : Int) R e s).W, ∃ i, i < manyS s.length ∧ x.1.toNat = f + i := fun x hx => by
    rw [g2] at hx
    obtain ⟨i, b, hb, rfl⟩ := places_mem hx
    have := (List.getElem?_eq_some_iff.1 hb).1
    rw [List.length_take] at this
    exact ⟨i, by omega, by simp only; omega⟩
  have hcr : ∀ ks : List (Int × Int), ∀ i, i < k.L.length → (i < f ∨ f + R ≤ i) → (keepsL (putK k (f : Int) R e s).W (putK k (f : Int) R e s).L ks).getD i [] = k.L.getD i [] := fun ks i hi hio => by
    have := keeps_inv (W := (putK k (f : Int) R e s).W) (fun i b => (i < f ∨ f + R ≤ i) → b = k.L.getD i []) (fun x hx b c _ _ => by
      obtain ⟨i, h1, h2⟩ := hat x hx
      intro h; omega) ks (putK k (f : Int) R e s).L (fun x hx => by
      obtain ⟨i, h1, h2⟩ := hat x hx
      rw [g1]; omega) (fun i _ _ => by rw [g1]) i (by rw [g1]; exact hi)
    exact this hio
  rcases g3 with ⟨p1, p2, p3⟩ | ⟨p1, p2, p3⟩
  · refine .inl ⟨p1, ?_⟩
    have hpd := p3 hd
    cases hs : spD (putK k (f : Int) R e s).fuse (putK k (f : Int) R e s).dead with
    | true =>
      obtain ⟨s1, s2⟩ := sync_dead hs
      rw [s1, s2]
      exact .inr ⟨rfl, fun ks => hcr ks⟩
    | false =>
      obtain ⟨s1, s2⟩ := sync_live hs
      rw [s1, s2]
      have hL : (putK k (f : Int) R e s).spent.flushed.L = applyW k.L (places (f : Int) (blksS e s)) := by
        show applyW (putK k (f : Int) R e s).L (putK k (f : Int) R e s).W = _
        rw [g1, g2, p2, List.take_length]
      have hget := fun i hi => applyW_places (blksS e s) k.L f (by rw [hbl]; omega) i hi
      refine .inl ⟨rfl, rfl, hs, by rw [hL, applyW_len], fun i hi hio => ?_, fun i hi => ?_⟩
      · rw [hL, hget i hi, if_neg (by rw [hbl]; omega)]
      · rw [hL, hget (f + i) (by omega), if_pos (by rw [hbl]; omega), Nat.add_sub_cancel_left, List.getD_eq_getElem?_getD, blksS_at e s hi]; rfl
  · exact .inr ⟨p1, fun ks => hcr ks⟩
/-- How a journal's super and its text lie on a disk. -/
structure JH (N R : Nat) (k : Dk) (sp : Sp) (text : List UInt8) : Prop where
  len : k.L.length = N
  w0 : k.W = []
  alive : k.dead = false
  r1 : 1 ≤ R
  rN : 2 + 2 * R < N
  n60 : N ≤ 60
  ok : SpOk sp
  may : MayS sp
  q : sp.seq < 250
  eq : sp.epoch = sp.seq
  sup : k.L.getD (sp.seq % 2) [] = encS sp
  oth : ∃ r, SupL (k.L.getD (1 - sp.seq % 2) []) r ∧ r.toNat < sp.seq
  size : sp.size = (text.length : Int)
  many : manyS text.length ≤ R
  snap : ∀ i, i < manyS text.length → k.L.getD (2 + sp.slot.toNat * R + i) [] = blkS sp.base text i
def othF (R : Nat) (sp : Sp) : Nat := 2 + (1 - sp.slot.toNat) * R
theorem slot_two {sp : Sp} (h : MayS sp) : sp.slot.toNat = 0 ∨ sp.slot.toNat = 1 := by
  rcases h.2.2.2.1 with h | h <;> rw [h] <;> simp
theorem oth_f {R : Nat} {sp : Sp} (h : MayS sp) : (sp.slot.toNat = 0 ∧ othF R sp = 2 + R ∧ 2 + sp.slot.toNat * R = 2) ∨ (sp.slot.toNat = 1 ∧ othF R sp = 2 ∧ 2 + sp.slot.toNat * R = 2 + R) := by
  unfold othF
  rcases slot_two h with h | h <;> rw [h] <;> simp
/-- It lies so on every disk that has the same blocks but in the other slot, and in the log. -/
theorem JH.keep {N R : Nat} {k k' : Dk} {sp : Sp} {text : List UInt8} (h : JH N R k sp text) (hl : k'.L.length = N) (hw : k'.W = []) (hd : k'.dead = false) (hs : ∀ i, i < 2 + 2 * R → (i < othF R sp ∨ othF R sp + R ≤ i) → k'.L.getD i [] = k.L.getD i []) : JH N R k' sp text := by
  have ho := oth_f (R := R) h.may
  obtain ⟨r, hr1, hr2⟩ := h.oth
  have hr := h.r1
  have hmany := h.many
  refine ⟨hl, hw, hd, h.r1, h.rN, h.n60, h.ok, h.may, h.q, h.eq, ?_, ⟨r, ?_, hr2⟩, h.size, h.many, fun i hi => ?_⟩
  · rw [hs _ (by omega) (by omega)]; exact h.sup
  · rw [hs _ (by omega) (by omega)]; exact hr1
  · rw [hs _ (by omega) (by omega)]; exact h.snap i hi
theorem reg_same {f n : Nat} {L L' : List (List UInt8)} (h : ∀ i, f ≤ i → i < f + n → L'.getD i [] = L.getD i []) (hl : L'.length = L.length) (hf : f + n ≤ L.length) : reg f n L' = reg f n L := by
  apply List.ext_getElem?
  intro i
  by_cases hi : i < n
  · have h1 := reg_get L hi (f := f)
    have h2 := reg_get L' hi (f := f)
    rw [h (f + i) (by omega) (by omega), ← h1] at h2
    rw [List.getD_eq_getElem?_getD, List.getD_eq_getElem?_getD] at h2
    obtain ⟨x, hx⟩ := getI (show i < (reg f n L').length by rw [reg_len (by omega)]; exact hi)
    obtain ⟨y, hy⟩ := getI (show i < (reg f n L).length by rw [reg_len (by omega)]; exact hi)
    rw [hx, hy] at h2 ⊢
    simpa using h2
  · rw [List.getElem?_eq_none (by rw [reg_len (by omega)]; omega), List.getElem?_eq_none (by rw [reg_len (by omega)]; omega)]
/-- How a journal lies on a disk. -/
structure JD (N R : Nat) (k : Dk) (sp : Sp) (text : List UInt8) (recs : List (List UInt8)) : Prop where
  h : JH N R k sp text
  low : ∀ i, i < N - (2 + 2 * R) → Low sp.epoch ((reg (2 + 2 * R) (N - (2 + 2 * R)) k.L).getD i [])
  rpl : rp (reg (2 + 2 * R) (N - (2 + 2 * R)) k.L) sp.epoch sp.base 0 = (recs, (pcs recs).length)
theorem JD.keep {N R : Nat} {k k' : Dk} {sp : Sp} {text : List UInt8} {recs : List (List UInt8)} (h : JD N R k sp text recs) (hl : k'.L.length = N) (hw : k'.W = []) (hd : k'.dead = false) (hs : ∀ i, i < N → (i < othF R sp ∨ othF R sp + R ≤ i) → k'.L.getD i [] = k.L.getD i []) : JD N R k' sp text recs := by
  have ho := oth_f (R := R) h.h.may
  have hrN := h.h.rN
  have hlen := h.h.len
  have e := reg_same (f := 2 + 2 * R) (n := N - (2 + 2 * R)) (L := k.L) (L' := k'.L) (fun i h1 h2 => hs i (by omega) (by omega)) (by rw [hl, hlen]) (by omega)
  exact ⟨h.h.keep hl hw hd (fun i hi hio => hs i (by omega) hio), by rw [e]; exact h.low, by rw [e]; exact h.rpl⟩
theorem rp_up {rb : List (List UInt8)} {e e' base : Nat} (h : ∀ i, i < rb.length → Low e (rb.getD i [])) (he : e ≤ e') : rp rb e' base 0 = rp rb e base 0 := rp_epoch (low_epochs h) he
/-- The super that comes next, with another text, or the same one. -/
def nextS (sp : Sp) : Sp := ⟨sp.seq + 1, sp.base, sp.epoch + 1, sp.slot, sp.size⟩
def anewS (sp : Sp) (n : Nat) : Sp := ⟨sp.seq + 1, sp.epoch + 1, sp.epoch + 1, 1 - sp.slot, (n : Int)⟩
theorem next_may {sp : Sp} (h : MayS sp) : MayS (nextS sp) := by
  obtain ⟨h1, h2, h3, h4, h5, h6⟩ := h
  exact ⟨by show 1 ≤ sp.seq + 1; omega, h2, by show sp.base ≤ sp.epoch + 1; omega, h4, h5, h6⟩
theorem next_ok {sp : Sp} (h : SpOk sp) (hq : sp.seq < 250) (he : sp.epoch = sp.seq) : SpOk (nextS sp) := ⟨by show sp.seq + 1 < _; omega, h.b1, by show sp.epoch + 1 < _; omega, h.s0, h.s1, h.z0, h.z1⟩
theorem anew_may {sp : Sp} (h : MayS sp) {n : Nat} (hn : n ≤ 1000000) : MayS (anewS sp n) := by
  obtain ⟨h1, h2, h3, h4, h5, h6⟩ := h
  refine ⟨by show 1 ≤ sp.seq + 1; omega, by show 1 ≤ sp.epoch + 1; omega, Nat.le_refl _, ?_, by show (0 : Int) ≤ (n : Int); omega, by show (n : Int) ≤ _; omega⟩
  show 1 - sp.slot = 0 ∨ 1 - sp.slot = 1
  omega
theorem anew_ok {sp : Sp} (h : MayS sp) {n : Nat} (hn : n ≤ 1000000) (hq : sp.seq < 250) (he : sp.epoch = sp.seq) : SpOk (anewS sp n) := by
  have h4 := h.2.2.2.1
  exact ⟨by show sp.seq + 1 < _; omega, by show sp.epoch + 1 < _; omega, by show sp.epoch + 1 < _; omega, by show _ ≤ 1 - sp.slot; omega, by show 1 - sp.slot ≤ _; omega, by show _ ≤ (n : Int); omega, by show (n : Int) ≤ _; omega⟩
/-- A disk in which the block of the next super, alone, is another one. -/
theorem set_other {L : List (List UInt8)} {a i : Nat} {X : List UInt8} (hi : i < L.length) (h : i ≠ a) : (L.set a X).getD i [] = L.getD i [] := by rw [set_getD hi, if_neg (fun e => h e.symm)]
theorem JD.torn {N R : Nat} {k k' : Dk} {sp : Sp} {text : List UInt8} {recs : List (List UInt8)} (h : JD N R k sp text recs) {X : List UInt8} {r : UInt8} (hX : SupL X r) (hr : r.toNat < sp.seq) (hL : k'.L = k.L.set (1 - sp.seq % 2) X) (hw : k'.W = []) (hd : k'.dead = false) : JD N R k' sp text recs := by
  have hH := h.h
  have hlen := hH.len
  have hrN := hH.rN
  have hr1 := hH.r1
  have hmany := hH.many
  have ho := oth_f (R := R) hH.may
  have e := reg_same (f := 2 + 2 * R) (n := N - (2 + 2 * R)) (L := k.L) (L' := k'.L) (fun i h1 h2 => by rw [hL, set_other (by omega) (by omega)]) (by rw [hL, List.length_set]) (by omega)
  refine ⟨⟨by rw [hL, List.length_set]; exact hlen, hw, hd, hH.r1, hH.rN, hH.n60, hH.ok, hH.may, hH.q, hH.eq, ?_, ⟨r, ?_, hr⟩, hH.size, hH.many, fun i hi => ?_⟩, by rw [e]; exact h.low, by rw [e]; exact h.rpl⟩
  · rw [hL, set_other (by omega) (by omega)]; exact hH.sup
  · rw [hL, set_getD (by omega), if_pos rfl]; exact hX
  · rw [hL, set_other (by omega) (by omega)]; exact hH.snap i hi
/-- Behind a Store of the next super. -/
theorem JD.next {N R : Nat} {k k' : Dk} {sp : Sp} {text : List UInt8} {recs : List (List UInt8)} (h : JD N R k sp text recs) (hq : sp.seq + 1 < 250) (hL : k'.L = k.L.set (1 - sp.seq % 2) (encS (nextS sp))) (hw : k'.W = []) (hd : k'.dead = false) : JD N R k' (nextS sp) text recs := by
  have hH := h.h
  have hlen := hH.len
  have hrN := hH.rN
  have hr1 := hH.r1
  have hmany := hH.many
  have ho := oth_f (R := R) hH.may
  obtain ⟨x1, x2⟩ := supl_enc hH.may (by omega)
  have e := reg_same (f := 2 + 2 * R) (n := N - (2 + 2 * R)) (L := k.L) (L' := k'.L) (fun i h1 h2 => by rw [hL, set_other (by omega) (by omega)]) (by rw [hL, List.length_set]) (by omega)
  have hp : (nextS sp).seq % 2 = 1 - sp.seq % 2 := by show (sp.seq + 1) % 2 = _; omega
  have hp2 : 1 - (nextS sp).seq % 2 = sp.seq % 2 := by rw [hp]; omega
  refine ⟨⟨by rw [hL, List.length_set]; exact hlen, hw, hd, hH.r1, hH.rN, hH.n60, next_ok hH.ok (by omega) hH.eq, next_may hH.may, hq, by show sp.epoch + 1 = sp.seq + 1; rw [hH.eq], ?_, ⟨UInt8.ofNat sp.seq, ?_, ?_⟩, hH.size, hH.many, fun i hi => ?_⟩, fun i hi => ?_, ?_⟩
  · rw [hp, hL, set_getD (by omega), if_pos rfl]
  · rw [hp2, hL, set_other (by omega) (by omega), hH.sup]; exact x1
  · rw [x2]; show sp.seq < sp.seq + 1; omega
  · rw [hL, set_other (by show 2 + sp.slot.toNat * R + i < _; omega) (by show 2 + sp.slot.toNat * R + i ≠ _; omega)]; exact hH.snap i hi
  · rw [e]; exact (h.low i hi).mono (by show sp.epoch ≤ sp.epoch + 1; omega)
  · rw [e]
    show rp _ (sp.epoch + 1) sp.base 0 = _
    rw [rp_up (fun i hi => h.low i (by rw [reg_len (by omega)] at hi; exact hi)) (Nat.le_succ _)]; exact h.rpl
/-- Behind a Store of the super of a text that lies in the other slot. -/
theorem JD.anew {N R : Nat} {k k' : Dk} {sp : Sp} {text s : List UInt8} {recs : List (List UInt8)} (h : JD N R k sp text recs) (hq : sp.seq + 1 < 250) (hs : s.length ≤ 1000000) (hm : manyS s.length ≤ R) (hsn : ∀ i, i < manyS s.length → k.L.getD (othF R sp + i) [] = blkS (sp.epoch + 1) s i) (hL : k'.L = k.L.set (1 - sp.seq % 2) (encS (anewS sp s.length))) (hw : k'.W = []) (hd : k'.dead = false) : JD N R k' (anewS sp s.length) s [] := by
  have hH := h.h
  have hlen := hH.len
  have hrN := hH.rN
  have hr1 := hH.r1
  have ho := oth_f (R := R) hH.may
  obtain ⟨x1, x2⟩ := supl_enc hH.may (by have := hH.q; omega)
  have e := reg_same (f := 2 + 2 * R) (n := N - (2 + 2 * R)) (L := k.L) (L' := k'.L) (fun i h1 h2 => by rw [hL, set_other (by omega) (by omega)]) (by rw [hL, List.length_set]) (by omega)
  have hp : (anewS sp s.length).seq % 2 = 1 - sp.seq % 2 := by show (sp.seq + 1) % 2 = _; omega
  have hp2 : 1 - (anewS sp s.length).seq % 2 = sp.seq % 2 := by rw [hp]; omega
  have hf : 2 + (anewS sp s.length).slot.toNat * R = othF R sp := by
    show 2 + (1 - sp.slot).toNat * R = 2 + (1 - sp.slot.toNat) * R
    rcases hH.may.2.2.2.1 with h | h <;> rw [h] <;> simp
  refine ⟨⟨by rw [hL, List.length_set]; exact hlen, hw, hd, hH.r1, hH.rN, hH.n60, anew_ok hH.may hs hH.q hH.eq, anew_may hH.may hs, hq, by show sp.epoch + 1 = sp.seq + 1; rw [hH.eq], ?_, ⟨UInt8.ofNat sp.seq, ?_, ?_⟩, rfl, hm, fun i hi => ?_⟩, fun i hi => ?_, ?_⟩
  · rw [hp, hL, set_getD (by omega), if_pos rfl]
  · rw [hp2, hL, set_other (by omega) (by omega), hH.sup]; exact x1
  · rw [x2]; show sp.seq < sp.seq + 1; omega
  · rw [hf, hL, set_other (by omega) (by omega)]; exact hsn i hi
  · rw [e]; exact (h.low i hi).mono (by show sp.epoch ≤ sp.epoch + 1; omega)
  · rw [e]
    show rp _ (sp.epoch + 1) (sp.epoch + 1) 0 = _
    rw [rp_no (fun x => by
      have h1 := x.1
      have h2 := x.2.1
      have hlt := pOk_lt h1
      rw [reg_len (by omega)] at hlt
      have := (low_open (h.low 0 hlt) (pOk_iff.1 h1).1).2
      unfold pE at h2; omega)]
    rfl
/-- What Open's Store makes of it, under any fuse. -/
theorem jopen_fall {N R : Nat} {k : Dk} {sp : Sp} {text : List UInt8} {recs : List (List UInt8)} (h : JD N R k sp text recs) (hq : sp.seq + 1 < 250) :
    (storeE k (nextS sp) = 0 ∧ JD N R (storeK k (nextS sp)) (nextS sp) text recs ∧ reg (2 + 2 * R) (N - (2 + 2 * R)) (storeK k (nextS sp)).L = reg (2 + 2 * R) (N - (2 + 2 * R)) k.L) ∨ (storeE k (nextS sp) = 21 ∧ ∀ ks, JD N R ((storeK k (nextS sp)).crash ks) sp text recs ∨ JD N R ((storeK k (nextS sp)).crash ks) (nextS sp) text recs) := by
  have hH := h.h
  have hrN := hH.rN
  have hlen := hH.len
  obtain ⟨r, hr1, hr2⟩ := hH.oth
  have hp : (nextS sp).seq % 2 = 1 - sp.seq % 2 := by show (sp.seq + 1) % 2 = _; omega
  rcases store_fall (k := k) (t := nextS sp) hH.w0 (next_may hH.may) (by show sp.seq + 1 < 256; omega) (by omega) (r := r) (by rw [hp]; exact hr1) with ⟨e1, e2, e3, e4⟩ | ⟨e1, e2⟩
  · rw [hp] at e2
    exact .inl ⟨e1, h.next hq e2 e3 e4, reg_same (fun i h1 h2 => by rw [e2, set_other (by omega) (by omega)]) (by rw [e2, List.length_set]) (by omega)⟩
  · refine .inr ⟨e1, fun ks => ?_⟩
    obtain ⟨X, x1, x2⟩ := e2 ks
    rw [hp] at x1
    rcases x2 with rfl | x2
    · exact .inr (h.next hq x1 rfl rfl)
    · exact .inl (h.torn x2 hr2 x1 rfl rfl)
/-- A text is put in a slot, synced, and the super stored. -/
def jputK (k : Dk) (f b : Int) (t : Sp) (s : List UInt8) : Dk := if putE k f b t.base s ≠ 0 then putK k f b t.base s else if (putK k f b t.base s).syncE ≠ 0 then (putK k f b t.base s).sync else storeK (putK k f b t.base s).sync t
def jputE (k : Dk) (f b : Int) (t : Sp) (s : List UInt8) : Int := if putE k f b t.base s ≠ 0 then putE k f b t.base s else if (putK k f b t.base s).syncE ≠ 0 then (putK k f b t.base s).syncE else storeE (putK k f b t.base s).sync t
theorem jput_1 {k : Dk} {f b : Int} {t : Sp} {s : List UInt8} (h : ¬ putE k f b t.base s = 0) : jputK k f b t s = putK k f b t.base s ∧ jputE k f b t s = putE k f b t.base s := by unfold jputK jputE; rw [if_pos h, if_pos h]; exact ⟨rfl, rfl⟩
theorem jput_2 {k : Dk} {f b : Int} {t : Sp} {s : List UInt8} (h : putE k f b t.base s = 0) (h2 : ¬ (putK k f b t.base s).syncE = 0) : jputK k f b t s = (putK k f b t.base s).sync ∧ jputE k f b t s = (putK k f b t.base s).syncE := by
  unfold jputK jputE; simp [h, h2]
theorem jput_3 {k : Dk} {f b : Int} {t : Sp} {s : List UInt8} (h : putE k f b t.base s = 0) (h2 : (putK k f b t.base s).syncE = 0) : jputK k f b t s = storeK (putK k f b t.base s).sync t ∧ jputE k f b t s = storeE (putK k f b t.base s).sync t := by
  unfold jputK jputE; simp [h, h2]
theorem janew_fall {N R : Nat} {k : Dk} {sp : Sp} {text s : List UInt8} {recs : List (List UInt8)} (h : JD N R k sp text recs) (hq : sp.seq + 1 < 250) (hs : s.length ≤ 1000000) (hm : manyS s.length ≤ R) :
    (jputE k (othF R sp : Nat) R (anewS sp s.length) s = 0 ∧ JD N R (jputK k (othF R sp : Nat) R (anewS sp s.length) s) (anewS sp s.length) s [] ∧ reg (2 + 2 * R) (N - (2 + 2 * R)) (jputK k (othF R sp : Nat) R (anewS sp s.length) s).L = reg (2 + 2 * R) (N - (2 + 2 * R)) k.L) ∨
    (jputE k (othF R sp : Nat) R (anewS sp s.length) s = 21 ∧ ∀ ks, JD N R ((jputK k (othF R sp : Nat) R (anewS sp s.length) s).crash ks) sp text recs ∨ JD N R ((jputK k (othF R sp : Nat) R (anewS sp s.length) s).crash ks) (anewS sp s.length) s []) := by
  have hH := h.h
  have hrN := hH.rN
  have hlen := hH.len
  have ho := oth_f (R := R) hH.may
  obtain ⟨r, hr1, hr2⟩ := hH.oth
  have hcl : ∀ (kk : Dk) (ks : List (Int × Int)), kk.L.length = N → (kk.crash ks).L.length = N := fun kk ks hk => by rw [crash_len]; exact hk
  have hpl : (putK k (othF R sp : Nat) R (sp.epoch + 1) s).L.length = N := by rw [put_len]; exact hlen
  rcases puts_fall (k := k) (f := othF R sp) (e := sp.epoch + 1) (R := R) (s := s) hH.w0 hH.alive (by omega) hm hH.r1 (by omega) with ⟨p1, hp2⟩ | ⟨p1, p2⟩
  · rcases hp2 with ⟨q1, q2, q3, q4, q5, q6⟩ | ⟨q1, q2⟩
    · obtain ⟨j1, j2⟩ := jput_3 (k := k) (f := (othF R sp : Nat)) (b := R) (t := anewS sp s.length) (s := s) p1 q1
      rw [show (anewS sp s.length).base = sp.epoch + 1 from rfl] at j1 j2
      rw [j1, j2]
      have hk1 : JD N R (putK k (othF R sp : Nat) R (sp.epoch + 1) s).sync sp text recs := h.keep (by rw [q4]; exact hlen) q2 q3 (fun i hi hio => q5 i (by omega) hio)
      have hH1 := hk1.h
      obtain ⟨r', hr1', hr2'⟩ := hH1.oth
      have hp : (anewS sp s.length).seq % 2 = 1 - sp.seq % 2 := by show (sp.seq + 1) % 2 = _; omega
      rcases store_fall (k := (putK k (othF R sp : Nat) R (sp.epoch + 1) s).sync) (t := anewS sp s.length) q2 (anew_may hH.may hs) (by show sp.seq + 1 < 256; omega) (by rw [q4]; omega) (r := r') (by rw [hp]; exact hr1') with ⟨e1, e2, e3, e4⟩ | ⟨e1, e2⟩
      · rw [hp] at e2
        exact .inl ⟨e1, hk1.anew hq hs hm q6 e2 e3 e4, reg_same (fun i h1 h2 => by rw [e2, set_other (by omega) (by omega), q5 i (by omega) (by omega)]) (by rw [e2, List.length_set, q4]) (by omega)⟩
      · refine .inr ⟨e1, fun ks => ?_⟩
        obtain ⟨X, x1, x2⟩ := e2 ks
        rw [hp] at x1
        rcases x2 with rfl | x2
        · exact .inr (hk1.anew hq hs hm q6 x1 rfl rfl)
        · exact .inl (hk1.torn x2 hr2' x1 rfl rfl)
    · obtain ⟨j1, j2⟩ := jput_2 (k := k) (f := (othF R sp : Nat)) (b := R) (t := anewS sp s.length) (s := s) p1 (by show ¬ (putK k (othF R sp : Nat) R (sp.epoch + 1) s).syncE = 0; rw [q1]; decide)
      rw [j1, j2]
      exact .inr ⟨q1, fun ks => .inl (h.keep (hcl _ ks (by rw [sync_len]; exact hpl)) rfl rfl (fun i hi hio => q2 ks i (by omega) hio))⟩
  · obtain ⟨j1, j2⟩ := jput_1 (k := k) (f := (othF R sp : Nat)) (b := R) (t := anewS sp s.length) (s := s) (by show ¬ putE k (othF R sp : Nat) R (sp.epoch + 1) s = 0; rw [p1]; decide)
    rw [j1, j2]
    exact .inr ⟨p1, fun ks => .inl (h.keep (hcl _ ks hpl) rfl rfl (fun i hi hio => p2 ks i (by omega) hio))⟩

end
end Go.Proofs.YtbblkgdejgoncaaGreatDoor

/- The walks of layer 27: long texts on some blocks of a disk. -/
set_option linter.unusedSimpArgs false
set_option linter.unusedVariables false
namespace Go.Proofs.YtbblkgdejgoncaaGreatDoor
open Go Go.RowKit

section
theorem infSnapW_98 : Tryz.prog.info? 98 = some Tryz.t98 := by kernel_rfl


theorem mul48r (i : Nat) (h : i ≤ 1000000) : IntKind.i64.wrap ((i : Int) * 48) = ((i * 48 : Nat) : Int) := by rw [wrap_i64 (by omega)]; omega
theorem mul48s (i : Nat) (h : i ≤ 1000000) : IntKind.i64.wrap (((i : Int) + 1) * 48) = (((i + 1) * 48 : Nat) : Int) := by rw [wrap_i64 (by omega)]; omega
theorem piece_cutS (s : List UInt8) (i : Nat) : ((padS s).take ((i + 1) * 48)).drop (i * 48) = pieceS s i := by
  unfold pieceS
  rw [List.drop_take, show (i + 1) * 48 - i * 48 = 48 by omega, Nat.mul_comm i 48]
theorem pad_app (s : List UInt8) {r : Nat} (h : r = 48 * manyS s.length - s.length) : s ++ List.replicate r 0 = padS s := by subst h; rfl


theorem put_stop {k kk : Dk} {n lb lcap : Nat} {lcs : Array Value} {uw : Sl} {f b : Int} {e i : Nat} {s bl : List UInt8} (h : DkAt k n lb lcs lcap uw) (hln : k.L.length = n) (hreg : regE n f b e = 0) (hm : (manyS s.length : Int) ≤ b) (hwr : WrsAt k kk f (blksS e s) i) (hxb : (blksS e s)[i]? = some bl) (he : ¬ kk.writeE (f + (i : Int)) bl = 0) :
    putK k f b e s = kk.write (f + (i : Int)) bl ∧ putE k f b e s = kk.writeE (f + (i : Int)) bl := by
  obtain ⟨e1, e2⟩ := put_yes (k := k) (s := s) (f := f) (b := b) (e := e) (by rw [hln]; exact hreg) hm
  obtain ⟨e3, e4⟩ := wrs_stop hwr hxb he
  exact ⟨e1.trans e3, e2.trans e4⟩
theorem put_end {k kk : Dk} {n lb lcap : Nat} {lcs : Array Value} {uw : Sl} {f b : Int} {e i : Nat} {s : List UInt8} (h : DkAt k n lb lcs lcap uw) (hln : k.L.length = n) (hreg : regE n f b e = 0) (hm : (manyS s.length : Int) ≤ b) (hwr : WrsAt k kk f (blksS e s) i) (hi : (blksS e s).length ≤ i) :
    putK k f b e s = kk ∧ putE k f b e s = 0 := by
  obtain ⟨e1, e2⟩ := put_yes (k := k) (s := s) (f := f) (b := b) (e := e) (by rw [hln]; exact hreg) hm
  obtain ⟨e3, e4⟩ := wrs_end hwr hi
  exact ⟨e1.trans e3, e2.trans e4⟩

set_option maxRecDepth 100000 in
set_option maxHeartbeats 1000000 in
theorem sn_manyZ (z : Int) (h0 : -9223372036854775808 ≤ z) (h1 : z ≤ 9223372036854775807) :
    Ct Tryz.prog 43 [.int .i64 z] [] [] fun v post => v = .int .i64 ((manyS z.toNat : Nat) : Int) ∧ post = [] := by
 refine ct_of Tryz.func43 rfl rfl (fun w0 => ?_)
 show G _ _ [(0, _)] _ _
 refine G_seq ?_
 refine G_region (l := [0]) rfl ?_
 refine G_val rfl rfl rfl rfl (V_assign rfl rfl) ?_
 refine G_done ?_
 refine G_seq ?_
 refine G_seq ?_
 refine G_region (l := [0, 1]) rfl ?_
 refine G_val rfl rfl rfl rfl (V_move rfl rfl) ?_
 refine G_val rfl rfl rfl rfl (V_lss rfl rfl rfl) ?_
 refine G_done ?_
 refine G_ifD rfl (fun hc1 => ?_) (fun hc1 => ?_)
 ·
  refine G_seq ?_
  refine G_region (l := [0]) rfl ?_
  refine G_val rfl rfl rfl rfl (V_assign rfl rfl) ?_
  refine G_done ?_
  refine G_ret (post := []) Tryz.func43 rfl (RVs_cons (RV_tmp rfl) RVs_nil) [] rfl ?_
  dsimp only [packed]
  refine ⟨int_eq ?_, rfl⟩; unfold manyS; omega
 refine G_skip ?_
 refine G_seq ?_
 refine G_region (l := [0, 1, 2, 3, 4]) rfl ?_
 refine G_val rfl rfl rfl rfl (V_move rfl rfl) ?_
 refine G_val rfl rfl rfl rfl ((V_sub rfl rfl rfl).int (wrap_i64 (by omega))) ?_
 refine G_val rfl rfl rfl rfl (V_quo rfl rfl rfl (by omega) (by omega) (wrap_i64 (by omega))) ?_
 refine G_val rfl rfl rfl rfl ((V_add rfl rfl rfl).int (wrap_i64 (by omega))) ?_
 refine G_val rfl rfl rfl rfl (V_assign rfl rfl) ?_
 refine G_done ?_
 refine G_ret (post := []) Tryz.func43 rfl (RVs_cons (RV_tmp rfl) RVs_nil) [] rfl ?_
 dsimp only [packed]
 refine ⟨int_eq ?_, rfl⟩; unfold manyS; omega


theorem sn_many (n : Nat) (h : n ≤ 9223372036854775807) : Ct Tryz.prog 43 [.int .i64 (n : Int)] [] [] (fun v post => v = .int .i64 ((manyS n : Nat) : Int) ∧ post = []) := sn_manyZ (n : Int) (by omega) (by omega)

set_option maxRecDepth 100000 in
set_option maxHeartbeats 1000000 in
theorem sn_check (d n lb lcap : Nat) (lcs : Array Value) (uw : Sl) (k : Dk) (h : DkAt k n lb lcs lcap uw) (f b : Int) (e : Nat) (hf0 : -9223372036854775808 ≤ f) (hf1 : f ≤ 9223372036854775807) (hb0 : -9223372036854775808 ≤ b) (hb1 : b ≤ 9223372036854775807) (he : e < 4294967296) :
    Ct Tryz.prog 72 [.pointer (some ⟨d, 0, none⟩), .int .i64 f, .int .i64 b, .int .u32 (e : Int)] [(some d, .cells #[.slice (some ⟨lb, 0, none⟩) n lcap, uw.v k.W.length, .int .i64 k.fuse, .bool k.dead] 67 (0, 0))] [] fun v post => v = .int .i64 (regE n f b e) ∧ post = [] := by
 have hq := h.bd
 have hq1 := hq.n1
 have hq2 := hq.n4
 have hq3 := hq.ncs
 have hq4 := hq.ncap
 have hq5 := hq.cap
 have hq6 := hq.w
 have hq7 := hq.wc
 have hln := h.len
 refine ct_of Tryz.func72 rfl rfl (fun w0 => ?_)
 show G _ _ [(0, _), (1, _), (2, _), (3, _)] _ _
 refine G_seq ?_
 refine G_region (l := [0]) rfl ?_
 refine G_val rfl rfl rfl rfl (V_assign rfl rfl) ?_
 refine G_done ?_
 refine G_seq ?_
 refine G_block ?_
 refine G_seq ?_
 refine G_region (l := [0, 1, 2]) rfl ?_
 refine G_val rfl rfl rfl rfl (V_move rfl rfl) ?_
 refine G_val rfl rfl rfl rfl (V_peqlN rfl Tryz.underlying26 rfl rfl) ?_
 refine G_val rfl rfl rfl rfl (V_assign rfl rfl) ?_
 refine G_done ?_
 refine G_else rfl ?_
 refine G_seq ?_
 refine G_region (l := [0, 1, 2, 3, 4, 5, 6, 7, 8, 9, 10, 11, 12, 13, 14, 15, 16, 17, 18, 19, 20, 21, 22, 23, 24]) rfl ?_
 refine G_val rfl rfl rfl rfl (V_move rfl rfl) ?_
 refine G_val rfl rfl rfl rfl (V_lss rfl rfl rfl) ?_
 refine G_val rfl rfl rfl rfl (V_move rfl rfl) ?_
 refine G_splitD 15 rfl (fun hc1 => ?_) (fun hc1 => ?_)
 ·
  refine G_off rfl rfl rfl rfl ?_
  refine G_off rfl rfl rfl rfl ?_
  refine G_val rfl rfl rfl rfl (V_pickT rfl rfl rfl) ?_
  refine G_val rfl rfl rfl rfl (V_move rfl rfl) ?_
  refine G_off rfl rfl rfl rfl ?_
  refine G_off rfl rfl rfl rfl ?_
  refine G_off rfl rfl rfl rfl ?_
  refine G_off rfl rfl rfl rfl ?_
  refine G_val rfl rfl rfl rfl (V_pickT rfl rfl rfl) ?_
  refine G_val rfl rfl rfl rfl (V_move rfl rfl) ?_
  refine G_off rfl rfl rfl rfl ?_
  refine G_off rfl rfl rfl rfl ?_
  refine G_off rfl rfl rfl rfl ?_
  refine G_off rfl rfl rfl rfl ?_
  refine G_off rfl rfl rfl rfl ?_
  refine G_off rfl rfl rfl rfl ?_
  refine G_val rfl rfl rfl rfl (V_pickT rfl rfl rfl) ?_
  refine G_val rfl rfl rfl rfl (V_move rfl rfl) ?_
  refine G_off rfl rfl rfl rfl ?_
  refine G_off rfl rfl rfl rfl ?_
  refine G_val rfl rfl rfl rfl (V_pickT rfl rfl rfl) ?_
  refine G_val rfl rfl rfl rfl (V_assign rfl rfl) ?_
  refine G_done ?_
  refine G_then rfl ?_
  refine G_seq ?_
  refine G_region (l := [0]) rfl ?_
  refine G_val rfl rfl rfl rfl (V_assign rfl rfl) ?_
  refine G_done ?_
  refine G_ret (post := []) Tryz.func72 rfl (RVs_cons (RV_tmp rfl) RVs_nil) [] rfl ?_
  dsimp only [packed]
  refine ⟨int_eq ?_, rfl⟩; unfold regE; first | rw [if_pos (by omega)] | rw [if_neg (by omega)]
 refine G_val rfl rfl rfl rfl (V_move rfl rfl) ?_
 refine G_val rfl rfl rfl rfl (V_lss rfl rfl rfl) ?_
 refine G_val rfl rfl rfl rfl (V_pickF rfl rfl rfl) ?_
 refine G_val rfl rfl rfl rfl (V_move rfl rfl) ?_
 refine G_splitD 19 rfl (fun hc2 => ?_) (fun hc2 => ?_)
 ·
  refine G_off rfl rfl rfl rfl ?_
  refine G_off rfl rfl rfl rfl ?_
  refine G_off rfl rfl rfl rfl ?_
  refine G_off rfl rfl rfl rfl ?_
  refine G_val rfl rfl rfl rfl (V_pickT rfl rfl rfl) ?_
  refine G_val rfl rfl rfl rfl (V_move rfl rfl) ?_
  refine G_off rfl rfl rfl rfl ?_
  refine G_off rfl rfl rfl rfl ?_
  refine G_off rfl rfl rfl rfl ?_
  refine G_off rfl rfl rfl rfl ?_
  refine G_off rfl rfl rfl rfl ?_
  refine G_off rfl rfl rfl rfl ?_
  refine G_val rfl rfl rfl rfl (V_pickT rfl rfl rfl) ?_
  refine G_val rfl rfl rfl rfl (V_move rfl rfl) ?_
  refine G_off rfl rfl rfl rfl ?_
  refine G_off rfl rfl rfl rfl ?_
  refine G_val rfl rfl rfl rfl (V_pickT rfl rfl rfl) ?_
  refine G_val rfl rfl rfl rfl (V_assign rfl rfl) ?_
  refine G_done ?_
  refine G_then rfl ?_
  refine G_seq ?_
  refine G_region (l := [0]) rfl ?_
  refine G_val rfl rfl rfl rfl (V_assign rfl rfl) ?_
  refine G_done ?_
  refine G_ret (post := []) Tryz.func72 rfl (RVs_cons (RV_tmp rfl) RVs_nil) [] rfl ?_
  dsimp only [packed]
  refine ⟨int_eq ?_, rfl⟩; unfold regE; first | rw [if_pos (by omega)] | rw [if_neg (by omega)]
 refine G_val rfl rfl rfl rfl (V_move rfl rfl) ?_
 refine G_val rfl rfl rfl rfl (V_move rfl rfl) ?_
 refine G_call (L2 := []) rfl rfl rfl rfl rfl rfl Tryz.call51 (dk_size _ _ _ _ _ _ _ h) [] [0] rfl rfl ?_
 rintro v post ⟨rfl, rfl⟩
 refine G_val rfl rfl rfl rfl (V_gtr rfl rfl rfl) ?_
 refine G_val rfl rfl rfl rfl (V_pickF rfl rfl rfl) ?_
 refine G_val rfl rfl rfl rfl (V_move rfl rfl) ?_
 refine G_splitD 25 rfl (fun hc3 => ?_) (fun hc3 => ?_)
 ·
  refine G_off rfl rfl rfl rfl ?_
  refine G_off rfl rfl rfl rfl ?_
  refine G_off rfl rfl rfl rfl ?_
  refine G_off rfl rfl rfl rfl ?_
  refine G_off rfl rfl rfl rfl ?_
  refine G_off rfl rfl rfl rfl ?_
  refine G_val rfl rfl rfl rfl (V_pickT rfl rfl rfl) ?_
  refine G_val rfl rfl rfl rfl (V_move rfl rfl) ?_
  refine G_off rfl rfl rfl rfl ?_
  refine G_off rfl rfl rfl rfl ?_
  refine G_val rfl rfl rfl rfl (V_pickT rfl rfl rfl) ?_
  refine G_val rfl rfl rfl rfl (V_assign rfl rfl) ?_
  refine G_done ?_
  refine G_then rfl ?_
  refine G_seq ?_
  refine G_region (l := [0]) rfl ?_
  refine G_val rfl rfl rfl rfl (V_assign rfl rfl) ?_
  refine G_done ?_
  refine G_ret (post := []) Tryz.func72 rfl (RVs_cons (RV_tmp rfl) RVs_nil) [] rfl ?_
  dsimp only [packed]
  refine ⟨int_eq ?_, rfl⟩; unfold regE; first | rw [if_pos (by omega)] | rw [if_neg (by omega)]
 refine G_val rfl rfl rfl rfl (V_move rfl rfl) ?_
 refine G_val rfl rfl rfl rfl (V_move rfl rfl) ?_
 refine G_call (L2 := []) rfl rfl rfl rfl rfl rfl Tryz.call51 (dk_size _ _ _ _ _ _ _ h) [] [0] rfl rfl ?_
 rintro v post ⟨rfl, rfl⟩
 refine G_val rfl rfl rfl rfl (V_move rfl rfl) ?_
 refine G_val rfl rfl rfl rfl ((V_sub rfl rfl rfl).int (wrap_i64 (by omega))) ?_
 refine G_val rfl rfl rfl rfl (V_gtr rfl rfl rfl) ?_
 refine G_val rfl rfl rfl rfl (V_pickF rfl rfl rfl) ?_
 refine G_val rfl rfl rfl rfl (V_move rfl rfl) ?_
 refine G_splitD 33 rfl (fun hc4 => ?_) (fun hc4 => ?_)
 ·
  refine G_off rfl rfl rfl rfl ?_
  refine G_off rfl rfl rfl rfl ?_
  refine G_val rfl rfl rfl rfl (V_pickT rfl rfl rfl) ?_
  refine G_val rfl rfl rfl rfl (V_assign rfl rfl) ?_
  refine G_done ?_
  refine G_then rfl ?_
  refine G_seq ?_
  refine G_region (l := [0]) rfl ?_
  refine G_val rfl rfl rfl rfl (V_assign rfl rfl) ?_
  refine G_done ?_
  refine G_ret (post := []) Tryz.func72 rfl (RVs_cons (RV_tmp rfl) RVs_nil) [] rfl ?_
  dsimp only [packed]
  refine ⟨int_eq ?_, rfl⟩; unfold regE; first | rw [if_pos (by omega)] | rw [if_neg (by omega)]
 refine G_val rfl rfl rfl rfl (V_move rfl rfl) ?_
 refine G_val rfl rfl rfl rfl (V_eql rfl rfl rfl) ?_
 refine G_val rfl rfl rfl rfl (V_pickF rfl rfl rfl) ?_
 refine G_val rfl rfl rfl rfl (V_assign rfl rfl) ?_
 refine G_done ?_
 refine G_ifD rfl (fun hc5 => ?_) (fun hc5 => ?_)
 ·
  refine G_seq ?_
  refine G_region (l := [0]) rfl ?_
  refine G_val rfl rfl rfl rfl (V_assign rfl rfl) ?_
  refine G_done ?_
  refine G_ret (post := []) Tryz.func72 rfl (RVs_cons (RV_tmp rfl) RVs_nil) [] rfl ?_
  dsimp only [packed]
  refine ⟨int_eq ?_, rfl⟩; unfold regE; first | rw [if_pos (by omega)] | rw [if_neg (by omega)]
 refine G_skip ?_
 refine G_inBlock ?_
 refine G_seq ?_
 refine G_region (l := [0]) rfl ?_
 refine G_val rfl rfl rfl rfl (V_assign rfl rfl) ?_
 refine G_done ?_
 refine G_ret (post := []) Tryz.func72 rfl (RVs_cons (RV_tmp rfl) RVs_nil) [] rfl ?_
 dsimp only [packed]
 refine ⟨int_eq ?_, rfl⟩; unfold regE; first | rw [if_pos (by omega)] | rw [if_neg (by omega)]

set_option maxRecDepth 100000 in
set_option maxHeartbeats 1000000 in
theorem sn_check_nil (x y z : Value) :
    Ct Tryz.prog 72 [.pointer none, x, y, z] [] [] fun v post => v = .int .i64 19 ∧ post = [] := by
 refine ct_of Tryz.func72 rfl rfl (fun w0 => ?_)
 show G _ _ [(0, _), (1, _), (2, _), (3, _)] _ _
 refine G_seq ?_
 refine G_region (l := [0]) rfl ?_
 refine G_val rfl rfl rfl rfl (V_assign rfl rfl) ?_
 refine G_done ?_
 refine G_seq ?_
 refine G_block ?_
 refine G_seq ?_
 refine G_region (l := [0, 1, 2]) rfl ?_
 refine G_val rfl rfl rfl rfl (V_move rfl rfl) ?_
 refine G_val rfl rfl rfl rfl (V_peqlN rfl Tryz.underlying26 rfl rfl) ?_
 refine G_val rfl rfl rfl rfl (V_assign rfl rfl) ?_
 refine G_done ?_
 refine G_then rfl ?_
 refine G_seq ?_
 refine G_region (l := [0]) rfl ?_
 refine G_val rfl rfl rfl rfl (V_assign rfl rfl) ?_
 refine G_done ?_
 refine G_ret (post := []) Tryz.func72 rfl (RVs_cons (RV_tmp rfl) RVs_nil) [] rfl ?_
 dsimp only [packed]
 exact ⟨rfl, rfl⟩

set_option maxRecDepth 100000 in
set_option maxHeartbeats 1000000 in
theorem repeat_zero  :
    Ct Tryz.prog 29 [.string (bs [0]), .int .i64 0] [] [] fun v post => v = .string (bs []) ∧ post = [] := by
 refine ct_of Tryz.func29 rfl rfl (fun w0 => ?_)
 show G _ _ [(0, _), (1, _)] _ _
 refine G_seq ?_
 refine G_region (l := [0]) rfl ?_
 refine G_val rfl rfl rfl rfl (V_assign rfl rfl) ?_
 refine G_done ?_
 refine G_seq ?_
 refine G_seq ?_
 refine G_region (l := [0]) rfl ?_
 refine G_val rfl rfl rfl rfl (V_move rfl rfl) ?_
 refine G_done ?_
 refine G_block ?_
 refine G_seq ?_
 refine G_region (l := [0, 1]) rfl ?_
 refine G_val rfl rfl rfl rfl (V_eql rfl rfl rfl) ?_
 refine G_val rfl rfl rfl rfl (V_assign rfl rfl) ?_
 refine G_done ?_
 refine G_ifD rfl (fun hc1 => ?_) (fun hc1 => ?_)
 rotate_left
 · (first | (exact absurd rfl hc1) | (exact absurd hc1 (by decide)) | (exact absurd (by decide) hc1) | (exfalso; omega))
 refine G_seq ?_
 refine G_region (l := [0]) rfl ?_
 refine G_val rfl rfl rfl rfl (V_assign rfl rfl) ?_
 refine G_done ?_
 refine G_ret (post := []) Tryz.func29 rfl (RVs_cons (RV_tmp rfl) RVs_nil) [] rfl ?_
 dsimp only [packed]
 exact ⟨rfl, rfl⟩

set_option maxRecDepth 100000 in
set_option maxHeartbeats 1000000 in
theorem repeat_one  :
    Ct Tryz.prog 29 [.string (bs [0]), .int .i64 1] [] [] fun v post => v = .string (bs [0]) ∧ post = [] := by
 refine ct_of Tryz.func29 rfl rfl (fun w0 => ?_)
 show G _ _ [(0, _), (1, _)] _ _
 refine G_seq ?_
 refine G_region (l := [0]) rfl ?_
 refine G_val rfl rfl rfl rfl (V_assign rfl rfl) ?_
 refine G_done ?_
 refine G_seq ?_
 refine G_seq ?_
 refine G_region (l := [0]) rfl ?_
 refine G_val rfl rfl rfl rfl (V_move rfl rfl) ?_
 refine G_done ?_
 refine G_block ?_
 refine G_seq ?_
 refine G_region (l := [0, 1]) rfl ?_
 refine G_val rfl rfl rfl rfl (V_eql rfl rfl rfl) ?_
 refine G_val rfl rfl rfl rfl (V_assign rfl rfl) ?_
 refine G_done ?_
 refine G_ifD rfl (fun hc1 => ?_) (fun hc1 => ?_)
 · (first | (exact absurd rfl hc1) | (exact absurd hc1 (by decide)) | (exact absurd (by decide) hc1) | (exfalso; omega))
 refine G_seq ?_
 refine G_region (l := [0, 1]) rfl ?_
 refine G_val rfl rfl rfl rfl (V_eql rfl rfl rfl) ?_
 refine G_val rfl rfl rfl rfl (V_assign rfl rfl) ?_
 refine G_done ?_
 refine G_ifD rfl (fun hc2 => ?_) (fun hc2 => ?_)
 rotate_left
 · (first | (exact absurd rfl hc2) | (exact absurd hc2 (by decide)) | (exact absurd (by decide) hc2) | (exfalso; omega))
 refine G_seq ?_
 refine G_region (l := [0, 1]) rfl ?_
 refine G_val rfl rfl rfl rfl (V_move rfl rfl) ?_
 refine G_val rfl rfl rfl rfl (V_assign rfl rfl) ?_
 refine G_done ?_
 refine G_ret (post := []) Tryz.func29 rfl (RVs_cons (RV_tmp rfl) RVs_nil) [] rfl ?_
 dsimp only [packed]
 exact ⟨rfl, rfl⟩


theorem repeat_any (z : Int) (m : Nat) (hz : z = (m : Int)) (h8 : m ≤ 8192) : Ct Tryz.prog 29 [.string (bs [0]), .int .i64 z] [] [] (fun v post => v = .string (bs (List.replicate m 0)) ∧ post = []) := by
  subst hz
  match m, h8 with
  | 0, _ => exact repeat_zero
  | 1, _ => exact repeat_one
  | n + 2, h8 => exact repeat0 (n + 2) (by omega) h8

set_option maxRecDepth 100000 in
set_option maxHeartbeats 1000000 in
theorem sn_put (d n lb lcap : Nat) (lcs : Array Value) (uw : Sl) (k : Dk) (h : DkAt k n lb lcs lcap uw) (f b : Int) (e : Nat) (hf0 : -9223372036854775808 ≤ f) (hf1 : f ≤ 9223372036854775807) (hb0 : -9223372036854775808 ≤ b) (hb1 : b ≤ 9223372036854775807) (he : e < 4294967296) (s : List UInt8) (hW : k.W.length ≤ 100000) (hsl : s.length ≤ 1000000) :
    Ct Tryz.prog 52 [.pointer (some ⟨d, 0, none⟩), .int .i64 f, .int .i64 b, .int .u32 (e : Int), .string (bs s)] [] [(some d, .cells #[.slice (some ⟨lb, 0, none⟩) n lcap, uw.v k.W.length, .int .i64 k.fuse, .bool k.dead] 67 (0, 0)), (some lb, .cells lcs 9 (0, 0)), (uw.ob, .cells uw.cs 90 uw.fz)] fun v post => v = .int .i64 (putE k f b e s) ∧ ∃ lcs1 uw1, DkAt (putK k f b e s) n lb lcs1 lcap uw1 ∧ post = [(some d, .cells #[.slice (some ⟨lb, 0, none⟩) n lcap, uw1.v (putK k f b e s).W.length, .int .i64 (putK k f b e s).fuse, .bool (putK k f b e s).dead] 67 (0, 0)), (some lb, .cells lcs1 9 (0, 0)), (uw1.ob, .cells uw1.cs 90 uw1.fz)] := by
 have hq := h.bd
 have hq1 := hq.n1
 have hq2 := hq.n4
 have hq3 := hq.ncs
 have hq4 := hq.ncap
 have hq5 := hq.cap
 have hq6 := hq.w
 have hq7 := hq.wc
 have hln := h.len
 have hroom := manyS_room s.length
 have hpl := padS_len s
 have hbl := blksS_len e s
 refine ct_of Tryz.func52 rfl rfl (fun w0 => ?_)
 show G _ _ [(0, _), (1, _), (2, _), (3, _), (4, _)] _ _
 refine G_seq ?_
 refine G_region (l := [0]) rfl ?_
 refine G_val rfl rfl rfl rfl (V_assign rfl rfl) ?_
 refine G_done ?_
 refine G_seq ?_
 refine G_seq ?_
 refine G_region (l := [0, 1, 2, 3, 4, 5]) rfl ?_
 refine G_val rfl rfl rfl rfl (V_move rfl rfl) ?_
 refine G_val rfl rfl rfl rfl (V_move rfl rfl) ?_
 refine G_val rfl rfl rfl rfl (V_move rfl rfl) ?_
 refine G_val rfl rfl rfl rfl (V_move rfl rfl) ?_
 refine G_call (L2 := [_, _, _]) rfl rfl rfl rfl rfl rfl Tryz.call72 (sn_check d n lb lcap lcs uw k h f b e hf0 hf1 hb0 hb1 he) [] [0] rfl rfl ?_
 rintro v post ⟨rfl, rfl⟩
 show G _ _ _ [_, _, _] _
 refine G_val rfl rfl rfl rfl (V_assign rfl rfl) ?_
 refine G_done ?_
 refine G_seq ?_
 refine G_region (l := [0, 1]) rfl ?_
 refine G_val rfl rfl rfl rfl (V_move rfl rfl) ?_
 refine G_val rfl rfl rfl rfl (V_neq rfl rfl rfl) ?_
 refine G_done ?_
 refine G_ifD rfl (fun hc1 => ?_) (fun hc1 => ?_)
 ·
  refine G_seq ?_
  refine G_region (l := [0, 1]) rfl ?_
  refine G_val rfl rfl rfl rfl (V_move rfl rfl) ?_
  refine G_val rfl rfl rfl rfl (V_assign rfl rfl) ?_
  refine G_done ?_
  refine G_ret (post := [_, _, _]) Tryz.func52 rfl (RVs_cons (RV_tmp rfl) RVs_nil) [0, 0, 0] rfl ?_
  dsimp only [packed]
  first
    | (suffices hz : ¬ regE n f b e = 0 by (obtain ⟨e1, e2⟩ := put_no (k := k) (s := s) (f := f) (b := b) (e := e) (by rw [hln]; exact hz); rw [e1, e2]; exact ⟨by rw [regE_one hz], lcs, uw, h, rfl⟩)
       assumption)
    | (suffices hz : regE n f b e = 0 ∧ b < (manyS s.length : Int) by (obtain ⟨e1, e2⟩ := put_full (k := k) (s := s) (f := f) (b := b) (e := e) (by rw [hln]; exact hz.1) hz.2; rw [e1, e2]; exact ⟨rfl, lcs, uw, h, rfl⟩)
       exact ⟨by assumption, by omega⟩)
    | (suffices hz : ¬ kk.writeE (f + (i : Int)) (blkS e s i) = 0 by (obtain ⟨e1, e2⟩ := put_stop h hln hreg (by omega) hwr hxb hz; rw [e1, e2]; exact ⟨rfl, lcs1, uw1, h1, rfl⟩)
       assumption)
    | (suffices hz : manyS s.length ≤ i by (obtain ⟨e1, e2⟩ := put_end h hln hreg (by omega) hwr (by omega); rw [e1, e2]; exact ⟨rfl, cs, u, hkk, rfl⟩)
       omega)
 refine G_skip ?_
 refine G_seq ?_
 have hreg : regE n f b e = 0 := by omega
 have hreg1 := hreg
 rw [regE_ok] at hreg1
 obtain ⟨hr1, hr2, hr3, hr4⟩ := hreg1
 refine G_region (l := [0, 1, 2, 3]) rfl ?_
 refine G_val rfl rfl rfl rfl (V_move rfl rfl) ?_
 refine G_val rfl rfl rfl rfl (V_slen rfl rfl Tryz.underlying9 rfl) ?_
 refine G_call (L2 := [_, _, _]) rfl rfl rfl rfl rfl rfl Tryz.call43 (sn_many _ (by first | omega | (simp; done) | (simp; omega) | (simp at *; omega))) [] [] rfl rfl ?_
 rintro v post ⟨rfl, rfl⟩
 show G _ _ _ [_, _, _] _
 refine G_val rfl rfl rfl rfl (V_assign rfl rfl) ?_
 refine G_done ?_
 refine G_seq ?_
 refine G_seq ?_
 refine G_region (l := [0, 1, 2]) rfl ?_
 refine G_val rfl rfl rfl rfl (V_move rfl rfl) ?_
 refine G_val rfl rfl rfl rfl (V_move rfl rfl) ?_
 refine G_val rfl rfl rfl rfl (V_gtr rfl rfl rfl) ?_
 refine G_done ?_
 refine G_ifD rfl (fun hc2 => ?_) (fun hc2 => ?_)
 ·
  refine G_seq ?_
  refine G_region (l := [0]) rfl ?_
  refine G_val rfl rfl rfl rfl (V_assign rfl rfl) ?_
  refine G_done ?_
  refine G_ret (post := [_, _, _]) Tryz.func52 rfl (RVs_cons (RV_tmp rfl) RVs_nil) [0, 0, 0] rfl ?_
  dsimp only [packed]
  first
    | (suffices hz : ¬ regE n f b e = 0 by (obtain ⟨e1, e2⟩ := put_no (k := k) (s := s) (f := f) (b := b) (e := e) (by rw [hln]; exact hz); rw [e1, e2]; exact ⟨by rw [regE_one hz], lcs, uw, h, rfl⟩)
       assumption)
    | (suffices hz : regE n f b e = 0 ∧ b < (manyS s.length : Int) by (obtain ⟨e1, e2⟩ := put_full (k := k) (s := s) (f := f) (b := b) (e := e) (by rw [hln]; exact hz.1) hz.2; rw [e1, e2]; exact ⟨rfl, lcs, uw, h, rfl⟩)
       exact ⟨by assumption, by omega⟩)
    | (suffices hz : ¬ kk.writeE (f + (i : Int)) (blkS e s i) = 0 by (obtain ⟨e1, e2⟩ := put_stop h hln hreg (by omega) hwr hxb hz; rw [e1, e2]; exact ⟨rfl, lcs1, uw1, h1, rfl⟩)
       assumption)
    | (suffices hz : manyS s.length ≤ i by (obtain ⟨e1, e2⟩ := put_end h hln hreg (by omega) hwr (by omega); rw [e1, e2]; exact ⟨rfl, cs, u, hkk, rfl⟩)
       omega)
 refine G_skip ?_
 refine G_seq ?_
 refine G_region (l := [0, 1, 2, 3, 4, 5, 6, 7, 8]) rfl ?_
 refine G_val rfl rfl rfl rfl (V_move rfl rfl) ?_
 refine G_val rfl rfl rfl rfl (V_move rfl rfl) ?_
 refine G_val rfl rfl rfl rfl ((V_mul rfl rfl rfl).int (wrap_i64 (by omega))) ?_
 refine G_val rfl rfl rfl rfl (V_move rfl rfl) ?_
 refine G_val rfl rfl rfl rfl (V_slen rfl rfl Tryz.underlying9 rfl) ?_
 refine G_val rfl rfl rfl rfl ((V_sub rfl rfl rfl).int (wrap_i64 (by omega))) ?_
 refine G_call (L2 := [_, _, _]) rfl rfl rfl rfl rfl rfl Tryz.call29 (repeat_any _ (48 * manyS s.length - s.length) (by omega) (by omega)) [] [] rfl rfl ?_
 rintro v post ⟨rfl, rfl⟩
 show G _ _ _ [_, _, _] _
 refine G_val rfl rfl rfl rfl (V_sadd rfl rfl rfl (by first | omega | (simp [wCells, kCells]; done) | (simp [wCells, kCells]; omega) | (simp [wCells, kCells] at *; omega))) ?_
 refine G_val rfl rfl rfl rfl (V_assign rfl rfl) ?_
 refine G_done ?_
 refine G_seq ?_
 refine G_seq ?_
 rw [pad_app s rfl]
 refine G_region (l := [0, 1]) rfl ?_
 refine G_val rfl rfl rfl rfl (V_move rfl rfl) ?_
 refine G_val rfl rfl rfl rfl (V_move rfl rfl) ?_
 refine G_done ?_
 refine G_block ?_
 refine G_sub ?he9 [0, 0, 0] ?hl9 (G_loop (X := Nat × Dk × Array Value × Sl) (fun x => match x with | ⟨i, kk, cs, u⟩ => i ≤ manyS s.length ∧ DkAt kk n lb cs lcap u ∧ WrsAt k kk f (blksS e s) i ∧ kk.W.length ≤ k.W.length + i) (fun x => match x with | ⟨i, kk, cs, u⟩ => manyS s.length - i) (fun x => match x with | ⟨i, kk, cs, u⟩ => [(0, .pointer (some ⟨d, 0, none⟩)), (1, .int .i64 f), (3, .int .u32 (e : Int)), (4, .string (bs (padS s))), (39, .int .i64 (manyS s.length : Int)), (40, .int .i64 (i : Int))]) (fun x => match x with | ⟨i, kk, cs, u⟩ => [(some d, .cells #[.slice (some ⟨lb, 0, none⟩) n lcap, u.v kk.W.length, .int .i64 kk.fuse, .bool kk.dead] 67 (0, 0)), (some lb, .cells cs 9 (0, 0)), (u.ob, .cells u.cs 90 u.fz)]) ?round9 (0, k, lcs, uw) ?h09)
 case he9 => exact (And.intro rfl (And.intro rfl (And.intro rfl (And.intro rfl (And.intro rfl (And.intro rfl trivial))))))
 case hl9 => exact ⟨_, rfl⟩
 case h09 => exact ⟨Nat.zero_le _, h, wrs_start k f _, Nat.le_refl _⟩
 case round9 =>
  intro x hJ ih
  try dsimp only at hJ ih
  obtain ⟨i, kk, cs, u⟩ := x
  try dsimp only at hJ ih
  obtain ⟨hi, hkk, hwr, hww⟩ := hJ
  show G _ _ [(0, .pointer (some ⟨d, 0, none⟩)), (1, .int .i64 f), (3, .int .u32 (e : Int)), (4, .string (bs (padS s))), (39, .int .i64 (manyS s.length : Int)), (40, .int .i64 (i : Int))] [(some d, .cells #[.slice (some ⟨lb, 0, none⟩) n lcap, u.v kk.W.length, .int .i64 kk.fuse, .bool kk.dead] 67 (0, 0)), (some lb, .cells cs 9 (0, 0)), (u.ob, .cells u.cs 90 u.fz)] _
  refine G_seq ?_
  refine G_region (l := [0]) rfl ?_
  refine G_val rfl rfl rfl rfl (V_lss rfl rfl rfl) ?_
  refine G_done ?_
  refine G_seq ?_
  refine G_ifD rfl (fun hc3 => ?_) (fun hc3 => ?_)
  ·
   refine G_skip ?_
   refine G_seq ?_
   refine G_block ?_
   refine G_seq ?_
   refine G_region (l := [0, 1]) rfl ?_
   refine G_val rfl rfl rfl rfl (V_move rfl rfl) ?_
   refine G_val rfl rfl rfl rfl (V_assign rfl rfl) ?_
   refine G_done ?_
   refine G_seq ?_
   have hxb := blksS_at e s (show i < manyS s.length by omega)
   have hx64 := blkS_len s hr4 (show i < manyS s.length by omega)
   have hxE := blkS_E s hr4 (show i < manyS s.length by omega)
   have hx48 := pieceS_len s (show i < manyS s.length by omega)
   refine G_region (l := [0, 1, 2, 3, 4, 5, 6, 7, 8, 9, 10, 11, 12, 13, 14, 15]) rfl ?_
   refine G_val rfl rfl rfl rfl (V_move rfl rfl) ?_
   refine G_val rfl rfl rfl rfl (V_move rfl rfl) ?_
   refine G_val rfl rfl rfl rfl ((V_conv rfl rfl Tryz.underlying3 Tryz.underlying50).int (wrap_u32 (by omega))) ?_
   refine G_val rfl rfl rfl rfl (V_move rfl rfl) ?_
   refine G_val rfl rfl rfl rfl (V_move rfl rfl) ?_
   refine G_val rfl rfl rfl rfl (Val.int (e' := ((i * 48 : Nat) : Int)) (V_mul rfl rfl rfl) (mul48r i (by omega))) ?_
   refine G_val rfl rfl rfl rfl (V_move rfl rfl) ?_
   refine G_val rfl rfl rfl rfl ((V_add rfl rfl rfl).int (wrap_i64 (by omega))) ?_
   refine G_val rfl rfl rfl rfl (Val.int (e' := (((i + 1) * 48 : Nat) : Int)) (V_mul rfl rfl rfl) (mul48s i (by omega))) ?_
   refine G_val rfl rfl rfl rfl (V_ssliceN (lo := i * 48) (hi := (i + 1) * 48) rfl Tryz.underlying9 rfl rfl rfl rfl rfl (by omega) (by omega)) ?_
   rw [piece_cutS]
   refine G_call (L2 := [_, _, _]) rfl rfl rfl rfl rfl rfl Tryz.call63 ((seal_seal e i (pieceS s i) he (by omega) (by omega)).weaken (fun v post h => by rw [hxE] at h; exact h)) [] [] rfl rfl ?_
   rintro v post ⟨rfl, rfl⟩
   show G _ _ _ [_, _, _] _
   refine G_val rfl rfl rfl rfl (V_move rfl rfl) ?_
   refine G_val rfl rfl rfl rfl (V_extract rfl rfl rfl) ?_
   refine G_val rfl rfl rfl rfl (V_extract rfl rfl rfl) ?_
   refine G_val rfl rfl rfl rfl (V_assign rfl rfl) ?_
   refine G_val rfl rfl rfl rfl (V_assign rfl rfl) ?_
   refine G_done ?_
   refine G_seq ?_
   refine G_seq ?_
   rw [show sealL e i (pieceS s i) = blkS e s i from rfl]
   refine G_region (l := [0, 1]) rfl ?_
   refine G_val rfl rfl rfl rfl (V_move rfl rfl) ?_
   refine G_val rfl rfl rfl rfl (V_neq rfl rfl rfl) ?_
   refine G_done ?_
   refine G_ifD rfl (fun hc4 => ?_) (fun hc4 => ?_)
   · (first | (exact absurd rfl hc4) | (exact absurd hc4 (by decide)) | (exact absurd (by decide) hc4) | (exfalso; omega))
   refine G_skip ?_
   refine G_seq ?_
   refine G_region (l := [0, 1, 2, 3, 4, 5, 6]) rfl ?_
   refine G_val rfl rfl rfl rfl (V_move rfl rfl) ?_
   refine G_val rfl rfl rfl rfl (V_move rfl rfl) ?_
   refine G_val rfl rfl rfl rfl (V_move rfl rfl) ?_
   refine G_val rfl rfl rfl rfl ((V_add rfl rfl rfl).int (wrap_i64 (by omega))) ?_
   refine G_val rfl rfl rfl rfl (V_move rfl rfl) ?_
   refine G_call (L2 := []) rfl rfl rfl rfl rfl rfl Tryz.call58 (dk_write d n lb lcap cs u kk hkk (f + (i : Int)) (blkS e s i) (by omega)) [0, 0, 0] [] rfl rfl ?_
   rintro v post ⟨rfl, lcs1, uw1, h1, rfl⟩
   show G _ _ _ [_, _, _] _
   refine G_val rfl rfl rfl rfl (V_assign rfl rfl) ?_
   refine G_done ?_
   refine G_seq ?_
   refine G_region (l := [0, 1]) rfl ?_
   refine G_val rfl rfl rfl rfl (V_move rfl rfl) ?_
   refine G_val rfl rfl rfl rfl (V_neq rfl rfl rfl) ?_
   refine G_done ?_
   refine G_ifD rfl (fun hc5 => ?_) (fun hc5 => ?_)
   ·
    refine G_seq ?_
    refine G_region (l := [0, 1]) rfl ?_
    refine G_val rfl rfl rfl rfl (V_move rfl rfl) ?_
    refine G_val rfl rfl rfl rfl (V_assign rfl rfl) ?_
    refine G_done ?_
    refine G_ret (post := [_, _, _]) Tryz.func52 rfl (RVs_cons (RV_tmp rfl) RVs_nil) [0, 0, 0] rfl ?_
    dsimp only [packed]
    first
      | (suffices hz : ¬ regE n f b e = 0 by (obtain ⟨e1, e2⟩ := put_no (k := k) (s := s) (f := f) (b := b) (e := e) (by rw [hln]; exact hz); rw [e1, e2]; exact ⟨by rw [regE_one hz], lcs, uw, h, rfl⟩)
         assumption)
      | (suffices hz : regE n f b e = 0 ∧ b < (manyS s.length : Int) by (obtain ⟨e1, e2⟩ := put_full (k := k) (s := s) (f := f) (b := b) (e := e) (by rw [hln]; exact hz.1) hz.2; rw [e1, e2]; exact ⟨rfl, lcs, uw, h, rfl⟩)
         exact ⟨by assumption, by omega⟩)
      | (suffices hz : ¬ kk.writeE (f + (i : Int)) (blkS e s i) = 0 by (obtain ⟨e1, e2⟩ := put_stop h hln hreg (by omega) hwr hxb hz; rw [e1, e2]; exact ⟨rfl, lcs1, uw1, h1, rfl⟩)
         assumption)
      | (suffices hz : manyS s.length ≤ i by (obtain ⟨e1, e2⟩ := put_end h hln hreg (by omega) hwr (by omega); rw [e1, e2]; exact ⟨rfl, cs, u, hkk, rfl⟩)
         omega)
   refine G_skip ?_
   refine G_inBlock ?_
   refine G_region (l := [0, 1]) rfl ?_
   refine G_val rfl rfl rfl rfl ((V_add rfl rfl rfl).int (wrap_i64 (by omega))) ?_
   refine G_val rfl rfl rfl rfl (V_move rfl rfl) ?_
   refine G_done ?_
   refine G_sub ?_ [0, 0, 0] ?_ (ih (i + 1, kk.write (f + (i : Int)) (blkS e s i), lcs1, uw1) ?_ ?_)
   · (refine (And.intro ?_ (And.intro ?_ (And.intro ?_ (And.intro ?_ (And.intro ?_ (And.intro ?_ trivial)))))) <;> first | rfl | exact slot_int (by omega) | exact slot_int (by simp))
   · exact ⟨_, rfl⟩
   · exact ⟨by omega, h1, wrs_next hwr hxb (by omega), by show (kk.write (f + (i : Int)) (blkS e s i)).W.length ≤ k.W.length + (i + 1); have := write_W kk (f + (i : Int)) (blkS e s i); omega⟩
   · (first | omega | (dsimp only; omega))
  refine G_exit rfl ?_
  refine G_seq ?_
  refine G_region (l := [0]) rfl ?_
  refine G_val rfl rfl rfl rfl (V_assign rfl rfl) ?_
  refine G_done ?_
  refine G_ret (post := [_, _, _]) Tryz.func52 rfl (RVs_cons (RV_tmp rfl) RVs_nil) [0, 0, 0] rfl ?_
  dsimp only [packed]
  first
    | (suffices hz : ¬ regE n f b e = 0 by (obtain ⟨e1, e2⟩ := put_no (k := k) (s := s) (f := f) (b := b) (e := e) (by rw [hln]; exact hz); rw [e1, e2]; exact ⟨by rw [regE_one hz], lcs, uw, h, rfl⟩)
       assumption)
    | (suffices hz : regE n f b e = 0 ∧ b < (manyS s.length : Int) by (obtain ⟨e1, e2⟩ := put_full (k := k) (s := s) (f := f) (b := b) (e := e) (by rw [hln]; exact hz.1) hz.2; rw [e1, e2]; exact ⟨rfl, lcs, uw, h, rfl⟩)
       exact ⟨by assumption, by omega⟩)
    | (suffices hz : ¬ kk.writeE (f + (i : Int)) (blkS e s i) = 0 by (obtain ⟨e1, e2⟩ := put_stop h hln hreg (by omega) hwr hxb hz; rw [e1, e2]; exact ⟨rfl, lcs1, uw1, h1, rfl⟩)
       assumption)
    | (suffices hz : manyS s.length ≤ i by (obtain ⟨e1, e2⟩ := put_end h hln hreg (by omega) hwr (by omega); rw [e1, e2]; exact ⟨rfl, cs, u, hkk, rfl⟩)
       omega)

set_option maxRecDepth 100000 in
set_option maxHeartbeats 1000000 in
theorem sn_put_nil (x y z w : Value) :
    Ct Tryz.prog 52 [.pointer none, x, y, z, w] [] [] fun v post => v = .int .i64 19 ∧ post = [] := by
 refine ct_of Tryz.func52 rfl rfl (fun w0 => ?_)
 show G _ _ [(0, _), (1, _), (2, _), (3, _), (4, _)] _ _
 refine G_seq ?_
 refine G_region (l := [0]) rfl ?_
 refine G_val rfl rfl rfl rfl (V_assign rfl rfl) ?_
 refine G_done ?_
 refine G_seq ?_
 refine G_seq ?_
 refine G_region (l := [0, 1, 2, 3, 4, 5]) rfl ?_
 refine G_val rfl rfl rfl rfl (V_move rfl rfl) ?_
 refine G_val rfl rfl rfl rfl (V_move rfl rfl) ?_
 refine G_val rfl rfl rfl rfl (V_move rfl rfl) ?_
 refine G_val rfl rfl rfl rfl (V_move rfl rfl) ?_
 refine G_call (L2 := []) rfl rfl rfl rfl rfl rfl Tryz.call72 (sn_check_nil _ _ _) [] [] rfl rfl ?_
 rintro v post ⟨rfl, rfl⟩
 refine G_val rfl rfl rfl rfl (V_assign rfl rfl) ?_
 refine G_done ?_
 refine G_seq ?_
 refine G_region (l := [0, 1]) rfl ?_
 refine G_val rfl rfl rfl rfl (V_move rfl rfl) ?_
 refine G_val rfl rfl rfl rfl (V_neq rfl rfl rfl) ?_
 refine G_done ?_
 refine G_ifD rfl (fun hc1 => ?_) (fun hc1 => ?_)
 rotate_left
 · (first | (exact absurd rfl hc1) | (exact absurd hc1 (by decide)) | (exact absurd (by decide) hc1) | (exfalso; omega))
 refine G_seq ?_
 refine G_region (l := [0, 1]) rfl ?_
 refine G_val rfl rfl rfl rfl (V_move rfl rfl) ?_
 refine G_val rfl rfl rfl rfl (V_assign rfl rfl) ?_
 refine G_done ?_
 refine G_ret (post := []) Tryz.func52 rfl (RVs_cons (RV_tmp rfl) RVs_nil) [] rfl ?_
 dsimp only [packed]
 exact ⟨rfl, rfl⟩


def gotT (k : Dk) (f b : Int) (e : Nat) (z : Int) : List UInt8 := if regE k.L.length f b e ≠ 0 then [] else getT (rdB k f b.toNat) e z
def gotE (k : Dk) (f b : Int) (e : Nat) (z : Int) : Int := if regE k.L.length f b e ≠ 0 then 1 else getE (rdB k f b.toNat) e z
theorem got_no {k : Dk} {f b : Int} {e : Nat} {z : Int} (h : ¬ regE k.L.length f b e = 0) : gotT k f b e z = [] ∧ gotE k f b e z = 1 := by unfold gotT gotE; rw [if_pos h, if_pos h]; exact ⟨rfl, rfl⟩
theorem got_yes {k : Dk} {f b : Int} {e : Nat} {z : Int} (h : regE k.L.length f b e = 0) : gotT k f b e z = getT (rdB k f b.toNat) e z ∧ gotE k f b e z = getE (rdB k f b.toNat) e z := by
  unfold gotT gotE; rw [if_neg (by omega), if_neg (by omega)]; exact ⟨rfl, rfl⟩
theorem got_18 {k : Dk} {f b : Int} {e : Nat} {z : Int} (h : regE k.L.length f b e = 0) (h1 : ¬ getOk (rdB k f b.toNat) e z) : gotT k f b e z = [] ∧ gotE k f b e z = 18 := by
  obtain ⟨e1, e2⟩ := got_yes (z := z) h
  obtain ⟨e3, e4⟩ := get_no h1
  exact ⟨e1.trans e3, e2.trans e4⟩
theorem got_0 {k : Dk} {f b : Int} {e : Nat} {z : Nat} (h : regE k.L.length f b e = 0) (h1 : manyS z ≤ b.toNat) (h2 : okTo (rdB k f b.toNat) e (manyS z)) (h3 : ∀ x ∈ (catD ((rdB k f b.toNat).take (manyS z))).drop z, x = 0) :
    gotT k f b e (z : Int) = (catD ((rdB k f b.toNat).take (manyS z))).take z ∧ gotE k f b e (z : Int) = 0 := by
  obtain ⟨e1, e2⟩ := got_yes (z := (z : Int)) h
  have hg : getOk (rdB k f b.toNat) e (z : Int) := by
    unfold getOk; rw [Int.toNat_natCast, rdB_len]; exact ⟨by omega, h1, h2, h3⟩
  obtain ⟨e3, e4⟩ := get_yes hg
  rw [Int.toNat_natCast] at e3
  exact ⟨e1.trans e3, e2.trans e4⟩
theorem getOk_small {bl : List (List UInt8)} {e z : Nat} (h : bl.length < manyS z) : ¬ getOk bl e (z : Int) := fun x => by
  have := x.2.1; rw [Int.toNat_natCast] at this; omega
theorem getOk_bad {bl : List (List UInt8)} {e z i : Nat} {b : List UInt8} (hi : i < manyS z) (hb : bl.getD i [] = b) (h : ¬ (openOk b = true ∧ openE b = e ∧ openI b = i)) : ¬ getOk bl e (z : Int) := fun x => by
  have := x.2.2.1; rw [Int.toNat_natCast] at this
  have := this i hi
  rw [hb, okB_iff] at this
  exact h this
theorem getOk_rest {bl : List (List UInt8)} {e z : Nat} (h : ¬ ∀ x ∈ (catD (bl.take (manyS z))).drop z, x = 0) : ¬ getOk bl e (z : Int) := fun x => by
  have := x.2.2.2; rw [Int.toNat_natCast] at this; exact h this
theorem getOk_neg {bl : List (List UInt8)} {e : Nat} {z : Int} (h : z < 0) : ¬ getOk bl e z := fun x => by have := x.1; omega

set_option maxRecDepth 100000 in
set_option maxHeartbeats 2000000 in
theorem sn_getN (d n lb lcap : Nat) (lcs : Array Value) (uw : Sl) (k : Dk) (h : DkAt k n lb lcs lcap uw) (f b : Int) (e : Nat) (hf0 : -9223372036854775808 ≤ f) (hf1 : f ≤ 9223372036854775807) (hb0 : -9223372036854775808 ≤ b) (hb1 : b ≤ 9223372036854775807) (he : e < 4294967296) (z : Nat) (hzl : z ≤ 9223372036854775807) (hd : k.dead = false) :
    Ct Tryz.prog 55 [.pointer (some ⟨d, 0, none⟩), .int .i64 f, .int .i64 b, .int .u32 (e : Int), .int .i64 (z : Int)] [(some d, .cells #[.slice (some ⟨lb, 0, none⟩) n lcap, uw.v k.W.length, .int .i64 k.fuse, .bool k.dead] 67 (0, 0)), (some lb, .cells lcs 9 (0, 0)), (uw.ob, .cells uw.cs 90 uw.fz)] [] fun v post => v = .tuple #[.string (bs (gotT k f b e (z : Int))), .int .i64 (gotE k f b e (z : Int))] ∧ post = [] := by
 have hq := h.bd
 have hq1 := hq.n1
 have hq2 := hq.n4
 have hq3 := hq.ncs
 have hq4 := hq.ncap
 have hq5 := hq.cap
 have hq6 := hq.w
 have hq7 := hq.wc
 have hln := h.len
 have hroom := manyS_room z
 have hrl := rdB_len k f b.toNat
 refine ct_of Tryz.func55 rfl rfl (fun w0 => ?_)
 show G _ _ [(0, _), (1, _), (2, _), (3, _), (4, _)] _ _
 refine G_seq ?_
 refine G_region (l := [0, 1]) rfl ?_
 refine G_val rfl rfl rfl rfl (V_assign rfl rfl) ?_
 refine G_val rfl rfl rfl rfl (V_assign rfl rfl) ?_
 refine G_done ?_
 refine G_seq ?_
 refine G_seq ?_
 refine G_region (l := [0, 1, 2, 3, 4, 5]) rfl ?_
 refine G_val rfl rfl rfl rfl (V_move rfl rfl) ?_
 refine G_val rfl rfl rfl rfl (V_move rfl rfl) ?_
 refine G_val rfl rfl rfl rfl (V_move rfl rfl) ?_
 refine G_val rfl rfl rfl rfl (V_move rfl rfl) ?_
 refine G_call (L2 := []) rfl rfl rfl rfl rfl rfl Tryz.call72 (sn_check d n lb lcap lcs uw k h f b e hf0 hf1 hb0 hb1 he) [] [0] rfl rfl ?_
 rintro v post ⟨rfl, rfl⟩
 refine G_val rfl rfl rfl rfl (V_assign rfl rfl) ?_
 refine G_done ?_
 refine G_seq ?_
 refine G_region (l := [0, 1]) rfl ?_
 refine G_val rfl rfl rfl rfl (V_move rfl rfl) ?_
 refine G_val rfl rfl rfl rfl (V_neq rfl rfl rfl) ?_
 refine G_done ?_
 refine G_ifD rfl (fun hc1 => ?_) (fun hc1 => ?_)
 ·
  refine G_seq ?_
  refine G_region (l := [0, 1, 2]) rfl ?_
  refine G_val rfl rfl rfl rfl (V_move rfl rfl) ?_
  refine G_val rfl rfl rfl rfl (V_assign rfl rfl) ?_
  refine G_val rfl rfl rfl rfl (V_assign rfl rfl) ?_
  refine G_done ?_
  refine G_ret (post := []) Tryz.func55 rfl (RVs_cons (RV_tmp rfl) (RVs_cons (RV_tmp rfl) RVs_nil)) [] rfl ?_
  dsimp only [packed]
  first
    | (suffices hz : ¬ regE n f b e = 0 by (obtain ⟨e1, e2⟩ := got_no (k := k) (f := f) (b := b) (e := e) (z := (z : Int)) (by rw [hln]; exact hz); rw [e1, e2]; exact ⟨by rw [regE_one hz]; try rfl, rfl⟩)
       assumption)
    | (suffices hz : regE n f b e = 0 ∧ b < (manyS z : Int) by (obtain ⟨e1, e2⟩ := got_18 (k := k) (f := f) (b := b) (e := e) (by rw [hln]; exact hz.1) (getOk_small (z := z) (by rw [rdB_len]; omega)); rw [e1, e2]; exact ⟨rfl, rfl⟩)
       exact ⟨by assumption, by omega⟩)
    | (suffices hz : i < manyS z ∧ ¬ (openOk (k.readS (f + (i : Int))) = true ∧ openE (k.readS (f + (i : Int))) = e ∧ openI (k.readS (f + (i : Int))) = i) by (obtain ⟨e1, e2⟩ := got_18 (k := k) (f := f) (b := b) (e := e) (by rw [hln]; exact hreg) (getOk_bad (z := z) (i := i) hz.1 hbg hz.2); rw [e1, e2]; exact ⟨rfl, rfl⟩)
       exact ⟨by omega, by rintro ⟨x1, x2, x3⟩; first | omega | simp_all⟩)
    | (suffices hz : i = manyS z ∧ ¬ trimL (trimR (((catD ((rdB k f b.toNat).take i))).drop z)) = [] by (obtain ⟨e1, e2⟩ := got_18 (k := k) (f := f) (b := b) (e := e) (by rw [hln]; exact hreg) (getOk_rest (z := z) (fun x => hz.2 ((trim_nil _).2 (by rw [hz.1]; exact x)))); rw [e1, e2]; exact ⟨rfl, rfl⟩)
       exact ⟨by omega, by assumption⟩)
    | (suffices hz : i = manyS z ∧ trimL (trimR (((catD ((rdB k f b.toNat).take i))).drop z)) = [] by (obtain ⟨e1, e2⟩ := got_0 (k := k) (f := f) (b := b) (e := e) (z := z) (by rw [hln]; exact hreg) (by omega) (by rw [← hz.1]; exact hok) ((trim_nil _).1 (by rw [← hz.1]; exact hz.2)); rw [e1, e2]; exact ⟨by rw [hz.1], rfl⟩)
       exact ⟨by omega, by first | assumption | exact Classical.not_not.1 (by assumption)⟩)
 refine G_skip ?_
 refine G_seq ?_
 refine G_seq ?_
 have hreg : regE n f b e = 0 := by omega
 have hreg1 := hreg
 rw [regE_ok] at hreg1
 obtain ⟨hr1, hr2, hr3, hr4⟩ := hreg1
 refine G_region (l := [0, 1, 2, 3, 4, 5, 6, 7]) rfl ?_
 refine G_val rfl rfl rfl rfl (V_move rfl rfl) ?_
 refine G_val rfl rfl rfl rfl (V_lss rfl rfl rfl) ?_
 refine G_val rfl rfl rfl rfl (V_move rfl rfl) ?_
 refine G_splitD 32 rfl (fun hc2 => ?_) (fun hc2 => ?_)
 · (first | (exact absurd rfl hc2) | (exact absurd hc2 (by decide)) | (exact absurd (by decide) hc2) | (exfalso; omega))
 refine G_val rfl rfl rfl rfl (V_move rfl rfl) ?_
 refine G_call (L2 := []) rfl rfl rfl rfl rfl rfl Tryz.call43 (sn_many _ (by first | omega | (simp; done) | (simp; omega) | (simp at *; omega))) [] [] rfl rfl ?_
 rintro v post ⟨rfl, rfl⟩
 refine G_val rfl rfl rfl rfl (V_move rfl rfl) ?_
 refine G_val rfl rfl rfl rfl (V_gtr rfl rfl rfl) ?_
 refine G_val rfl rfl rfl rfl (V_pickF rfl rfl rfl) ?_
 refine G_done ?_
 refine G_ifD rfl (fun hc3 => ?_) (fun hc3 => ?_)
 ·
  refine G_seq ?_
  refine G_region (l := [0, 1]) rfl ?_
  refine G_val rfl rfl rfl rfl (V_assign rfl rfl) ?_
  refine G_val rfl rfl rfl rfl (V_assign rfl rfl) ?_
  refine G_done ?_
  refine G_ret (post := []) Tryz.func55 rfl (RVs_cons (RV_tmp rfl) (RVs_cons (RV_tmp rfl) RVs_nil)) [] rfl ?_
  dsimp only [packed]
  first
    | (suffices hz : ¬ regE n f b e = 0 by (obtain ⟨e1, e2⟩ := got_no (k := k) (f := f) (b := b) (e := e) (z := (z : Int)) (by rw [hln]; exact hz); rw [e1, e2]; exact ⟨by rw [regE_one hz]; try rfl, rfl⟩)
       assumption)
    | (suffices hz : regE n f b e = 0 ∧ b < (manyS z : Int) by (obtain ⟨e1, e2⟩ := got_18 (k := k) (f := f) (b := b) (e := e) (by rw [hln]; exact hz.1) (getOk_small (z := z) (by rw [rdB_len]; omega)); rw [e1, e2]; exact ⟨rfl, rfl⟩)
       exact ⟨by assumption, by omega⟩)
    | (suffices hz : i < manyS z ∧ ¬ (openOk (k.readS (f + (i : Int))) = true ∧ openE (k.readS (f + (i : Int))) = e ∧ openI (k.readS (f + (i : Int))) = i) by (obtain ⟨e1, e2⟩ := got_18 (k := k) (f := f) (b := b) (e := e) (by rw [hln]; exact hreg) (getOk_bad (z := z) (i := i) hz.1 hbg hz.2); rw [e1, e2]; exact ⟨rfl, rfl⟩)
       exact ⟨by omega, by rintro ⟨x1, x2, x3⟩; first | omega | simp_all⟩)
    | (suffices hz : i = manyS z ∧ ¬ trimL (trimR (((catD ((rdB k f b.toNat).take i))).drop z)) = [] by (obtain ⟨e1, e2⟩ := got_18 (k := k) (f := f) (b := b) (e := e) (by rw [hln]; exact hreg) (getOk_rest (z := z) (fun x => hz.2 ((trim_nil _).2 (by rw [hz.1]; exact x)))); rw [e1, e2]; exact ⟨rfl, rfl⟩)
       exact ⟨by omega, by assumption⟩)
    | (suffices hz : i = manyS z ∧ trimL (trimR (((catD ((rdB k f b.toNat).take i))).drop z)) = [] by (obtain ⟨e1, e2⟩ := got_0 (k := k) (f := f) (b := b) (e := e) (z := z) (by rw [hln]; exact hreg) (by omega) (by rw [← hz.1]; exact hok) ((trim_nil _).1 (by rw [← hz.1]; exact hz.2)); rw [e1, e2]; exact ⟨by rw [hz.1], rfl⟩)
       exact ⟨by omega, by first | assumption | exact Classical.not_not.1 (by assumption)⟩)
 refine G_skip ?_
 refine G_seq ?_
 refine G_region (l := [0]) rfl ?_
 refine G_new rfl rfl rfl rfl (N_allocA rfl infSnapW_98 rfl) (fun b13 => ?_)
 refine G_done ?_
 refine G_seq ?_
 refine G_seq ?_
 refine G_addNone (.cells #[] 5 (0, 0)) ?_
 refine G_region (l := [0, 1, 2]) rfl ?_
 refine G_val rfl rfl rfl rfl (V_move rfl rfl) ?_
 refine G_call (L2 := [_, _]) rfl rfl rfl rfl rfl rfl Tryz.call43 (sn_many _ (by first | omega | (simp; done) | (simp; omega) | (simp at *; omega))) [] [] rfl rfl ?_
 rintro v post ⟨rfl, rfl⟩
 show G _ _ _ [_, _] _
 refine G_val rfl rfl rfl rfl (V_move rfl rfl) ?_
 refine G_done ?_
 refine G_block ?_
 refine G_sub ?he8 [1, 0] ?hl8 (G_loop (X := Nat × Value × Sl) (fun x => match x with | ⟨i, pv, u⟩ => i ≤ manyS z ∧ UsedOr b13 pv ∧ Txt u (catD ((rdB k f b.toNat).take i)) ∧ okTo (rdB k f b.toNat) e i) (fun x => match x with | ⟨i, pv, u⟩ => manyS z - i) (fun x => match x with | ⟨i, pv, u⟩ => [(0, .pointer (some ⟨d, 0, none⟩)), (1, .int .i64 f), (3, .int .u32 (e : Int)), (4, .int .i64 (z : Int)), (13, .pointer (some ⟨b13, 0, none⟩)), (39, .int .i64 (manyS z : Int)), (40, .int .i64 (i : Int))]) (fun x => match x with | ⟨i, pv, u⟩ => [(some b13, .cells #[pv, u.v (catD ((rdB k f b.toNat).take i)).length] 98 (0, 0)), (u.ob, .cells u.cs 5 u.fz)]) ?round8 (0, .pointer none, slNil) ?h08)
 case he8 => exact (And.intro rfl (And.intro rfl (And.intro rfl (And.intro rfl (And.intro rfl (And.intro rfl (And.intro rfl trivial)))))))
 case hl8 => exact ⟨_, rfl⟩
 case h08 => exact ⟨Nat.zero_le _, .inl rfl, txt_nil, fun j hj => by omega⟩
 case round8 =>
  intro x hJ ih
  try dsimp only at hJ ih
  obtain ⟨i, pv, u⟩ := x
  try dsimp only at hJ ih
  obtain ⟨hi, hpx, hux, hok⟩ := hJ
  show G _ _ [(0, .pointer (some ⟨d, 0, none⟩)), (1, .int .i64 f), (3, .int .u32 (e : Int)), (4, .int .i64 (z : Int)), (13, .pointer (some ⟨b13, 0, none⟩)), (39, .int .i64 (manyS z : Int)), (40, .int .i64 (i : Int))] [(some b13, .cells #[pv, u.v (catD ((rdB k f b.toNat).take i)).length] 98 (0, 0)), (u.ob, .cells u.cs 5 u.fz)] _
  refine G_seq ?_
  refine G_region (l := [0]) rfl ?_
  refine G_val rfl rfl rfl rfl (V_lss rfl rfl rfl) ?_
  refine G_done ?_
  refine G_seq ?_
  refine G_ifD rfl (fun hc4 => ?_) (fun hc4 => ?_)
  ·
   refine G_skip ?_
   refine G_seq ?_
   refine G_block ?_
   refine G_seq ?_
   refine G_region (l := [0, 1]) rfl ?_
   refine G_val rfl rfl rfl rfl (V_move rfl rfl) ?_
   refine G_val rfl rfl rfl rfl (V_assign rfl rfl) ?_
   refine G_done ?_
   refine G_seq ?_
   have hre : k.readE (f + (i : Int)) = 0 := (read_yes (hasE_ok.2 (by omega)) (by rw [hd]; exact Bool.false_ne_true)).1
   have hbx := rdB_at (k := k) (f := f) (show i < b.toNat by omega)
   have hbg := rdB_get (k := k) (f := f) (show i < b.toNat by omega)
   have hr64 := readS_len h.ok (f + (i : Int))
   have hq1 := openE_lt (k.readS (f + (i : Int)))
   have hq2 := openI_lt (k.readS (f + (i : Int)))
   have hq3 := openD_len (k.readS (f + (i : Int)))
   refine G_region (l := [0, 1, 2, 3, 4, 5, 6, 7, 8, 9]) rfl ?_
   refine G_val rfl rfl rfl rfl (V_move rfl rfl) ?_
   refine G_val rfl rfl rfl rfl (V_move rfl rfl) ?_
   refine G_val rfl rfl rfl rfl (V_move rfl rfl) ?_
   refine G_val rfl rfl rfl rfl ((V_add rfl rfl rfl).int (wrap_i64 (by omega))) ?_
   refine G_call (L2 := [_, _]) rfl rfl rfl rfl rfl rfl Tryz.call73 ((dk_read d n lb lcap lcs uw k h (f + (i : Int))).weaken (fun v post h => by rw [hre] at h; exact h)) [] [0, 1, 2] rfl rfl ?_
   rintro v post ⟨rfl, rfl⟩
   show G _ _ _ [_, _] _
   refine G_val rfl rfl rfl rfl (V_move rfl rfl) ?_
   refine G_val rfl rfl rfl rfl (V_extract rfl rfl rfl) ?_
   refine G_val rfl rfl rfl rfl (V_extract rfl rfl rfl) ?_
   refine G_val rfl rfl rfl rfl (V_assign rfl rfl) ?_
   refine G_val rfl rfl rfl rfl (V_assign rfl rfl) ?_
   refine G_done ?_
   refine G_seq ?_
   refine G_seq ?_
   refine G_region (l := [0, 1]) rfl ?_
   refine G_val rfl rfl rfl rfl (V_move rfl rfl) ?_
   refine G_val rfl rfl rfl rfl (V_neq rfl rfl rfl) ?_
   refine G_done ?_
   refine G_ifD rfl (fun hc5 => ?_) (fun hc5 => ?_)
   · (first | (exact absurd rfl hc5) | (exact absurd hc5 (by decide)) | (exact absurd (by decide) hc5) | (exfalso; omega))
   refine G_skip ?_
   refine G_seq ?_
   refine G_region (l := [0, 1, 2, 3, 4, 5, 6, 7, 8, 9, 10]) rfl ?_
   refine G_val rfl rfl rfl rfl (V_move rfl rfl) ?_
   refine G_call (L2 := [_, _]) rfl rfl rfl rfl rfl rfl Tryz.call75 (seal_open _ (by first | omega | (simp; omega))) [] [] rfl rfl ?_
   rintro v post ⟨rfl, rfl⟩
   show G _ _ _ [_, _] _
   refine G_val rfl rfl rfl rfl (V_move rfl rfl) ?_
   refine G_val rfl rfl rfl rfl (V_extract rfl rfl rfl) ?_
   refine G_val rfl rfl rfl rfl (V_extract rfl rfl rfl) ?_
   refine G_val rfl rfl rfl rfl (V_extract rfl rfl rfl) ?_
   refine G_val rfl rfl rfl rfl (V_extract rfl rfl rfl) ?_
   refine G_val rfl rfl rfl rfl (V_assign rfl rfl) ?_
   refine G_val rfl rfl rfl rfl (V_assign rfl rfl) ?_
   refine G_val rfl rfl rfl rfl (V_assign rfl rfl) ?_
   refine G_val rfl rfl rfl rfl (V_assign rfl rfl) ?_
   refine G_done ?_
   refine G_seq ?_
   refine G_seq ?_
   refine G_region (l := [0, 1, 2, 3, 4, 5, 6, 7, 8, 9, 10, 11, 12]) rfl ?_
   refine G_val rfl rfl rfl rfl (V_move rfl rfl) ?_
   refine G_val rfl rfl rfl rfl (V_not rfl rfl) ?_
   refine G_val rfl rfl rfl rfl (V_move rfl rfl) ?_
   refine G_split 63 rfl (fun hc6 => ?_) (fun hc6 => ?_)
   ·
    refine G_off rfl rfl rfl rfl ?_
    refine G_off rfl rfl rfl rfl ?_
    refine G_off rfl rfl rfl rfl ?_
    refine G_val rfl rfl rfl rfl (V_pickT rfl rfl rfl) ?_
    refine G_val rfl rfl rfl rfl (V_move rfl rfl) ?_
    refine G_off rfl rfl rfl rfl ?_
    refine G_off rfl rfl rfl rfl ?_
    refine G_off rfl rfl rfl rfl ?_
    refine G_off rfl rfl rfl rfl ?_
    refine G_val rfl rfl rfl rfl (V_pickT rfl rfl rfl) ?_
    refine G_done ?_
    refine G_then rfl ?_
    refine G_seq ?_
    refine G_region (l := [0, 1]) rfl ?_
    refine G_val rfl rfl rfl rfl (V_assign rfl rfl) ?_
    refine G_val rfl rfl rfl rfl (V_assign rfl rfl) ?_
    refine G_done ?_
    refine G_ret (post := []) Tryz.func55 rfl (RVs_cons (RV_tmp rfl) (RVs_cons (RV_tmp rfl) RVs_nil)) [] rfl ?_
    dsimp only [packed]
    first
      | (suffices hz : ¬ regE n f b e = 0 by (obtain ⟨e1, e2⟩ := got_no (k := k) (f := f) (b := b) (e := e) (z := (z : Int)) (by rw [hln]; exact hz); rw [e1, e2]; exact ⟨by rw [regE_one hz]; try rfl, rfl⟩)
         assumption)
      | (suffices hz : regE n f b e = 0 ∧ b < (manyS z : Int) by (obtain ⟨e1, e2⟩ := got_18 (k := k) (f := f) (b := b) (e := e) (by rw [hln]; exact hz.1) (getOk_small (z := z) (by rw [rdB_len]; omega)); rw [e1, e2]; exact ⟨rfl, rfl⟩)
         exact ⟨by assumption, by omega⟩)
      | (suffices hz : i < manyS z ∧ ¬ (openOk (k.readS (f + (i : Int))) = true ∧ openE (k.readS (f + (i : Int))) = e ∧ openI (k.readS (f + (i : Int))) = i) by (obtain ⟨e1, e2⟩ := got_18 (k := k) (f := f) (b := b) (e := e) (by rw [hln]; exact hreg) (getOk_bad (z := z) (i := i) hz.1 hbg hz.2); rw [e1, e2]; exact ⟨rfl, rfl⟩)
         exact ⟨by omega, by rintro ⟨x1, x2, x3⟩; first | omega | simp_all⟩)
      | (suffices hz : i = manyS z ∧ ¬ trimL (trimR (((catD ((rdB k f b.toNat).take i))).drop z)) = [] by (obtain ⟨e1, e2⟩ := got_18 (k := k) (f := f) (b := b) (e := e) (by rw [hln]; exact hreg) (getOk_rest (z := z) (fun x => hz.2 ((trim_nil _).2 (by rw [hz.1]; exact x)))); rw [e1, e2]; exact ⟨rfl, rfl⟩)
         exact ⟨by omega, by assumption⟩)
      | (suffices hz : i = manyS z ∧ trimL (trimR (((catD ((rdB k f b.toNat).take i))).drop z)) = [] by (obtain ⟨e1, e2⟩ := got_0 (k := k) (f := f) (b := b) (e := e) (z := z) (by rw [hln]; exact hreg) (by omega) (by rw [← hz.1]; exact hok) ((trim_nil _).1 (by rw [← hz.1]; exact hz.2)); rw [e1, e2]; exact ⟨by rw [hz.1], rfl⟩)
         exact ⟨by omega, by first | assumption | exact Classical.not_not.1 (by assumption)⟩)
   refine G_val rfl rfl rfl rfl (V_move rfl rfl) ?_
   refine G_val rfl rfl rfl rfl (V_move rfl rfl) ?_
   refine G_val rfl rfl rfl rfl (V_neq rfl rfl rfl) ?_
   refine G_val rfl rfl rfl rfl (V_pickF rfl rfl rfl) ?_
   refine G_val rfl rfl rfl rfl (V_move rfl rfl) ?_
   refine G_splitD 68 rfl (fun hc7 => ?_) (fun hc7 => ?_)
   ·
    refine G_off rfl rfl rfl rfl ?_
    refine G_off rfl rfl rfl rfl ?_
    refine G_off rfl rfl rfl rfl ?_
    refine G_off rfl rfl rfl rfl ?_
    refine G_val rfl rfl rfl rfl (V_pickT rfl rfl rfl) ?_
    refine G_done ?_
    refine G_then rfl ?_
    refine G_seq ?_
    refine G_region (l := [0, 1]) rfl ?_
    refine G_val rfl rfl rfl rfl (V_assign rfl rfl) ?_
    refine G_val rfl rfl rfl rfl (V_assign rfl rfl) ?_
    refine G_done ?_
    refine G_ret (post := []) Tryz.func55 rfl (RVs_cons (RV_tmp rfl) (RVs_cons (RV_tmp rfl) RVs_nil)) [] rfl ?_
    dsimp only [packed]
    first
      | (suffices hz : ¬ regE n f b e = 0 by (obtain ⟨e1, e2⟩ := got_no (k := k) (f := f) (b := b) (e := e) (z := (z : Int)) (by rw [hln]; exact hz); rw [e1, e2]; exact ⟨by rw [regE_one hz]; try rfl, rfl⟩)
         assumption)
      | (suffices hz : regE n f b e = 0 ∧ b < (manyS z : Int) by (obtain ⟨e1, e2⟩ := got_18 (k := k) (f := f) (b := b) (e := e) (by rw [hln]; exact hz.1) (getOk_small (z := z) (by rw [rdB_len]; omega)); rw [e1, e2]; exact ⟨rfl, rfl⟩)
         exact ⟨by assumption, by omega⟩)
      | (suffices hz : i < manyS z ∧ ¬ (openOk (k.readS (f + (i : Int))) = true ∧ openE (k.readS (f + (i : Int))) = e ∧ openI (k.readS (f + (i : Int))) = i) by (obtain ⟨e1, e2⟩ := got_18 (k := k) (f := f) (b := b) (e := e) (by rw [hln]; exact hreg) (getOk_bad (z := z) (i := i) hz.1 hbg hz.2); rw [e1, e2]; exact ⟨rfl, rfl⟩)
         exact ⟨by omega, by rintro ⟨x1, x2, x3⟩; first | omega | simp_all⟩)
      | (suffices hz : i = manyS z ∧ ¬ trimL (trimR (((catD ((rdB k f b.toNat).take i))).drop z)) = [] by (obtain ⟨e1, e2⟩ := got_18 (k := k) (f := f) (b := b) (e := e) (by rw [hln]; exact hreg) (getOk_rest (z := z) (fun x => hz.2 ((trim_nil _).2 (by rw [hz.1]; exact x)))); rw [e1, e2]; exact ⟨rfl, rfl⟩)
         exact ⟨by omega, by assumption⟩)
      | (suffices hz : i = manyS z ∧ trimL (trimR (((catD ((rdB k f b.toNat).take i))).drop z)) = [] by (obtain ⟨e1, e2⟩ := got_0 (k := k) (f := f) (b := b) (e := e) (z := z) (by rw [hln]; exact hreg) (by omega) (by rw [← hz.1]; exact hok) ((trim_nil _).1 (by rw [← hz.1]; exact hz.2)); rw [e1, e2]; exact ⟨by rw [hz.1], rfl⟩)
         exact ⟨by omega, by first | assumption | exact Classical.not_not.1 (by assumption)⟩)
   refine G_val rfl rfl rfl rfl (V_move rfl rfl) ?_
   refine G_val rfl rfl rfl rfl (V_move rfl rfl) ?_
   refine G_val rfl rfl rfl rfl ((V_conv rfl rfl Tryz.underlying3 Tryz.underlying50).int (wrap_u32 (by omega))) ?_
   refine G_val rfl rfl rfl rfl (V_neq rfl rfl rfl) ?_
   refine G_val rfl rfl rfl rfl (V_pickF rfl rfl rfl) ?_
   refine G_done ?_
   refine G_ifD rfl (fun hc8 => ?_) (fun hc8 => ?_)
   ·
    refine G_seq ?_
    refine G_region (l := [0, 1]) rfl ?_
    refine G_val rfl rfl rfl rfl (V_assign rfl rfl) ?_
    refine G_val rfl rfl rfl rfl (V_assign rfl rfl) ?_
    refine G_done ?_
    refine G_ret (post := []) Tryz.func55 rfl (RVs_cons (RV_tmp rfl) (RVs_cons (RV_tmp rfl) RVs_nil)) [] rfl ?_
    dsimp only [packed]
    first
      | (suffices hz : ¬ regE n f b e = 0 by (obtain ⟨e1, e2⟩ := got_no (k := k) (f := f) (b := b) (e := e) (z := (z : Int)) (by rw [hln]; exact hz); rw [e1, e2]; exact ⟨by rw [regE_one hz]; try rfl, rfl⟩)
         assumption)
      | (suffices hz : regE n f b e = 0 ∧ b < (manyS z : Int) by (obtain ⟨e1, e2⟩ := got_18 (k := k) (f := f) (b := b) (e := e) (by rw [hln]; exact hz.1) (getOk_small (z := z) (by rw [rdB_len]; omega)); rw [e1, e2]; exact ⟨rfl, rfl⟩)
         exact ⟨by assumption, by omega⟩)
      | (suffices hz : i < manyS z ∧ ¬ (openOk (k.readS (f + (i : Int))) = true ∧ openE (k.readS (f + (i : Int))) = e ∧ openI (k.readS (f + (i : Int))) = i) by (obtain ⟨e1, e2⟩ := got_18 (k := k) (f := f) (b := b) (e := e) (by rw [hln]; exact hreg) (getOk_bad (z := z) (i := i) hz.1 hbg hz.2); rw [e1, e2]; exact ⟨rfl, rfl⟩)
         exact ⟨by omega, by rintro ⟨x1, x2, x3⟩; first | omega | simp_all⟩)
      | (suffices hz : i = manyS z ∧ ¬ trimL (trimR (((catD ((rdB k f b.toNat).take i))).drop z)) = [] by (obtain ⟨e1, e2⟩ := got_18 (k := k) (f := f) (b := b) (e := e) (by rw [hln]; exact hreg) (getOk_rest (z := z) (fun x => hz.2 ((trim_nil _).2 (by rw [hz.1]; exact x)))); rw [e1, e2]; exact ⟨rfl, rfl⟩)
         exact ⟨by omega, by assumption⟩)
      | (suffices hz : i = manyS z ∧ trimL (trimR (((catD ((rdB k f b.toNat).take i))).drop z)) = [] by (obtain ⟨e1, e2⟩ := got_0 (k := k) (f := f) (b := b) (e := e) (z := z) (by rw [hln]; exact hreg) (by omega) (by rw [← hz.1]; exact hok) ((trim_nil _).1 (by rw [← hz.1]; exact hz.2)); rw [e1, e2]; exact ⟨by rw [hz.1], rfl⟩)
         exact ⟨by omega, by first | assumption | exact Classical.not_not.1 (by assumption)⟩)
   refine G_skip ?_
   have hcl := okTo_len hok (by omega)
   refine G_region (l := [0, 1]) rfl ?_
   refine G_val rfl rfl rfl rfl (V_move rfl rfl) ?_
   refine G_call (L2 := []) rfl rfl rfl rfl rfl rfl Tryz.call48 (bld_write _ _ _ _ _ hpx hux (by omega)) [0, 0] [] rfl rfl ?_
   rintro v post ⟨rfl, u1, hu1, rfl⟩
   show G _ _ _ [_, _] _
   rw [← catD_next hbx] at hu1 ⊢
   refine G_done ?_
   refine G_inBlock ?_
   refine G_region (l := [0, 1]) rfl ?_
   refine G_val rfl rfl rfl rfl ((V_add rfl rfl rfl).int (wrap_i64 (by omega))) ?_
   refine G_val rfl rfl rfl rfl (V_move rfl rfl) ?_
   refine G_done ?_
   refine G_sub ?_ [0, 0] ?_ (ih (i + 1, .pointer (some ⟨b13, 0, none⟩), u1) ?_ ?_)
   · (refine (And.intro ?_ (And.intro ?_ (And.intro ?_ (And.intro ?_ (And.intro ?_ (And.intro ?_ (And.intro ?_ trivial))))))) <;> first | rfl | exact slot_int (by omega) | exact slot_int (by simp))
   · exact ⟨_, rfl⟩
   · exact ⟨by omega, .inr rfl, hu1, okTo_next hok (by rw [hbg]; exact okB_iff.2 ⟨by simp_all, by omega, by omega⟩)⟩
   · (first | omega | (dsimp only; omega))
  refine G_exit rfl ?_
  refine G_seq ?_
  have hcl := okTo_len hok (by omega)
  refine G_region (l := [0, 1]) rfl ?_
  refine G_call (L2 := []) rfl rfl rfl rfl rfl rfl Tryz.call50 (bld_string _ _ _ _ hux (by omega)) [0, 0] [] rfl rfl ?_
  rintro v post ⟨rfl, u1, hu1, rfl⟩
  show G _ _ _ [_, _] _
  refine G_val rfl rfl rfl rfl (V_assign rfl rfl) ?_
  refine G_done ?_
  refine G_seq ?_
  refine G_seq ?_
  refine G_region (l := [0, 1, 2, 3, 4]) rfl ?_
  refine G_val rfl rfl rfl rfl (V_move rfl rfl) ?_
  refine G_val rfl rfl rfl rfl (V_move rfl rfl) ?_
  refine G_val rfl rfl rfl rfl (V_ssliceLN (lo := _) rfl Tryz.underlying9 rfl rfl rfl (by first | omega | (simp [wCells, kCells]; done) | (simp [wCells, kCells]; omega) | (simp [wCells, kCells] at *; omega))) ?_
  refine G_call (L2 := [_, _]) rfl rfl rfl rfl rfl rfl Tryz.call76 (str_trim _ (by simp; omega)) [] [] rfl rfl ?_
  rintro v post ⟨rfl, rfl⟩
  show G _ _ _ [_, _] _
  refine G_val rfl rfl rfl rfl (V_sneq rfl rfl rfl) ?_
  refine G_done ?_
  refine G_ifD rfl (fun hc5 => ?_) (fun hc5 => ?_)
  ·
   refine G_seq ?_
   refine G_region (l := [0, 1]) rfl ?_
   refine G_val rfl rfl rfl rfl (V_assign rfl rfl) ?_
   refine G_val rfl rfl rfl rfl (V_assign rfl rfl) ?_
   refine G_done ?_
   refine G_ret (post := []) Tryz.func55 rfl (RVs_cons (RV_tmp rfl) (RVs_cons (RV_tmp rfl) RVs_nil)) [] rfl ?_
   dsimp only [packed]
   first
     | (suffices hz : ¬ regE n f b e = 0 by (obtain ⟨e1, e2⟩ := got_no (k := k) (f := f) (b := b) (e := e) (z := (z : Int)) (by rw [hln]; exact hz); rw [e1, e2]; exact ⟨by rw [regE_one hz]; try rfl, rfl⟩)
        assumption)
     | (suffices hz : regE n f b e = 0 ∧ b < (manyS z : Int) by (obtain ⟨e1, e2⟩ := got_18 (k := k) (f := f) (b := b) (e := e) (by rw [hln]; exact hz.1) (getOk_small (z := z) (by rw [rdB_len]; omega)); rw [e1, e2]; exact ⟨rfl, rfl⟩)
        exact ⟨by assumption, by omega⟩)
     | (suffices hz : i < manyS z ∧ ¬ (openOk (k.readS (f + (i : Int))) = true ∧ openE (k.readS (f + (i : Int))) = e ∧ openI (k.readS (f + (i : Int))) = i) by (obtain ⟨e1, e2⟩ := got_18 (k := k) (f := f) (b := b) (e := e) (by rw [hln]; exact hreg) (getOk_bad (z := z) (i := i) hz.1 hbg hz.2); rw [e1, e2]; exact ⟨rfl, rfl⟩)
        exact ⟨by omega, by rintro ⟨x1, x2, x3⟩; first | omega | simp_all⟩)
     | (suffices hz : i = manyS z ∧ ¬ trimL (trimR (((catD ((rdB k f b.toNat).take i))).drop z)) = [] by (obtain ⟨e1, e2⟩ := got_18 (k := k) (f := f) (b := b) (e := e) (by rw [hln]; exact hreg) (getOk_rest (z := z) (fun x => hz.2 ((trim_nil _).2 (by rw [hz.1]; exact x)))); rw [e1, e2]; exact ⟨rfl, rfl⟩)
        exact ⟨by omega, by assumption⟩)
     | (suffices hz : i = manyS z ∧ trimL (trimR (((catD ((rdB k f b.toNat).take i))).drop z)) = [] by (obtain ⟨e1, e2⟩ := got_0 (k := k) (f := f) (b := b) (e := e) (z := z) (by rw [hln]; exact hreg) (by omega) (by rw [← hz.1]; exact hok) ((trim_nil _).1 (by rw [← hz.1]; exact hz.2)); rw [e1, e2]; exact ⟨by rw [hz.1], rfl⟩)
        exact ⟨by omega, by first | assumption | exact Classical.not_not.1 (by assumption)⟩)
  refine G_skip ?_
  refine G_seq ?_
  refine G_region (l := [0, 1, 2, 3, 4]) rfl ?_
  refine G_val rfl rfl rfl rfl (V_move rfl rfl) ?_
  refine G_val rfl rfl rfl rfl (V_move rfl rfl) ?_
  refine G_val rfl rfl rfl rfl (V_ssliceHN (hi := _) rfl Tryz.underlying9 rfl rfl rfl (by first | omega | (simp [wCells, kCells]; done) | (simp [wCells, kCells]; omega) | (simp [wCells, kCells] at *; omega))) ?_
  refine G_val rfl rfl rfl rfl (V_assign rfl rfl) ?_
  refine G_val rfl rfl rfl rfl (V_assign rfl rfl) ?_
  refine G_done ?_
  refine G_ret (post := []) Tryz.func55 rfl (RVs_cons (RV_tmp rfl) (RVs_cons (RV_tmp rfl) RVs_nil)) [] rfl ?_
  dsimp only [packed]
  first
    | (suffices hz : ¬ regE n f b e = 0 by (obtain ⟨e1, e2⟩ := got_no (k := k) (f := f) (b := b) (e := e) (z := (z : Int)) (by rw [hln]; exact hz); rw [e1, e2]; exact ⟨by rw [regE_one hz]; try rfl, rfl⟩)
       assumption)
    | (suffices hz : regE n f b e = 0 ∧ b < (manyS z : Int) by (obtain ⟨e1, e2⟩ := got_18 (k := k) (f := f) (b := b) (e := e) (by rw [hln]; exact hz.1) (getOk_small (z := z) (by rw [rdB_len]; omega)); rw [e1, e2]; exact ⟨rfl, rfl⟩)
       exact ⟨by assumption, by omega⟩)
    | (suffices hz : i < manyS z ∧ ¬ (openOk (k.readS (f + (i : Int))) = true ∧ openE (k.readS (f + (i : Int))) = e ∧ openI (k.readS (f + (i : Int))) = i) by (obtain ⟨e1, e2⟩ := got_18 (k := k) (f := f) (b := b) (e := e) (by rw [hln]; exact hreg) (getOk_bad (z := z) (i := i) hz.1 hbg hz.2); rw [e1, e2]; exact ⟨rfl, rfl⟩)
       exact ⟨by omega, by rintro ⟨x1, x2, x3⟩; first | omega | simp_all⟩)
    | (suffices hz : i = manyS z ∧ ¬ trimL (trimR (((catD ((rdB k f b.toNat).take i))).drop z)) = [] by (obtain ⟨e1, e2⟩ := got_18 (k := k) (f := f) (b := b) (e := e) (by rw [hln]; exact hreg) (getOk_rest (z := z) (fun x => hz.2 ((trim_nil _).2 (by rw [hz.1]; exact x)))); rw [e1, e2]; exact ⟨rfl, rfl⟩)
       exact ⟨by omega, by assumption⟩)
    | (suffices hz : i = manyS z ∧ trimL (trimR (((catD ((rdB k f b.toNat).take i))).drop z)) = [] by (obtain ⟨e1, e2⟩ := got_0 (k := k) (f := f) (b := b) (e := e) (z := z) (by rw [hln]; exact hreg) (by omega) (by rw [← hz.1]; exact hok) ((trim_nil _).1 (by rw [← hz.1]; exact hz.2)); rw [e1, e2]; exact ⟨by rw [hz.1], rfl⟩)
       exact ⟨by omega, by first | assumption | exact Classical.not_not.1 (by assumption)⟩)

set_option maxRecDepth 100000 in
set_option maxHeartbeats 1000000 in
theorem sn_get_neg (d n lb lcap : Nat) (lcs : Array Value) (uw : Sl) (k : Dk) (h : DkAt k n lb lcs lcap uw) (f b : Int) (e : Nat) (hf0 : -9223372036854775808 ≤ f) (hf1 : f ≤ 9223372036854775807) (hb0 : -9223372036854775808 ≤ b) (hb1 : b ≤ 9223372036854775807) (he : e < 4294967296) (z : Int) (hzn : z < 0) :
    Ct Tryz.prog 55 [.pointer (some ⟨d, 0, none⟩), .int .i64 f, .int .i64 b, .int .u32 (e : Int), .int .i64 z] [(some d, .cells #[.slice (some ⟨lb, 0, none⟩) n lcap, uw.v k.W.length, .int .i64 k.fuse, .bool k.dead] 67 (0, 0)), (some lb, .cells lcs 9 (0, 0)), (uw.ob, .cells uw.cs 90 uw.fz)] [] fun v post => v = .tuple #[.string (bs (gotT k f b e z)), .int .i64 (gotE k f b e z)] ∧ post = [] := by
 have hq := h.bd
 have hq1 := hq.n1
 have hq2 := hq.n4
 have hq3 := hq.ncs
 have hq4 := hq.ncap
 have hq5 := hq.cap
 have hq6 := hq.w
 have hq7 := hq.wc
 have hln := h.len
 refine ct_of Tryz.func55 rfl rfl (fun w0 => ?_)
 show G _ _ [(0, _), (1, _), (2, _), (3, _), (4, _)] _ _
 refine G_seq ?_
 refine G_region (l := [0, 1]) rfl ?_
 refine G_val rfl rfl rfl rfl (V_assign rfl rfl) ?_
 refine G_val rfl rfl rfl rfl (V_assign rfl rfl) ?_
 refine G_done ?_
 refine G_seq ?_
 refine G_seq ?_
 refine G_region (l := [0, 1, 2, 3, 4, 5]) rfl ?_
 refine G_val rfl rfl rfl rfl (V_move rfl rfl) ?_
 refine G_val rfl rfl rfl rfl (V_move rfl rfl) ?_
 refine G_val rfl rfl rfl rfl (V_move rfl rfl) ?_
 refine G_val rfl rfl rfl rfl (V_move rfl rfl) ?_
 refine G_call (L2 := []) rfl rfl rfl rfl rfl rfl Tryz.call72 (sn_check d n lb lcap lcs uw k h f b e hf0 hf1 hb0 hb1 he) [] [0] rfl rfl ?_
 rintro v post ⟨rfl, rfl⟩
 refine G_val rfl rfl rfl rfl (V_assign rfl rfl) ?_
 refine G_done ?_
 refine G_seq ?_
 refine G_region (l := [0, 1]) rfl ?_
 refine G_val rfl rfl rfl rfl (V_move rfl rfl) ?_
 refine G_val rfl rfl rfl rfl (V_neq rfl rfl rfl) ?_
 refine G_done ?_
 refine G_ifD rfl (fun hc1 => ?_) (fun hc1 => ?_)
 ·
  refine G_seq ?_
  refine G_region (l := [0, 1, 2]) rfl ?_
  refine G_val rfl rfl rfl rfl (V_move rfl rfl) ?_
  refine G_val rfl rfl rfl rfl (V_assign rfl rfl) ?_
  refine G_val rfl rfl rfl rfl (V_assign rfl rfl) ?_
  refine G_done ?_
  refine G_ret (post := []) Tryz.func55 rfl (RVs_cons (RV_tmp rfl) (RVs_cons (RV_tmp rfl) RVs_nil)) [] rfl ?_
  dsimp only [packed]
  first
    | (suffices hz : ¬ regE n f b e = 0 by (obtain ⟨e1, e2⟩ := got_no (k := k) (f := f) (b := b) (e := e) (z := z) (by rw [hln]; exact hz); rw [e1, e2]; exact ⟨by rw [regE_one hz]; try rfl, rfl⟩)
       assumption)
    | (suffices hz : regE n f b e = 0 by (obtain ⟨e1, e2⟩ := got_18 (k := k) (f := f) (b := b) (e := e) (by rw [hln]; exact hz) (getOk_neg (by omega)); rw [e1, e2]; exact ⟨rfl, rfl⟩)
       assumption)
 refine G_skip ?_
 refine G_seq ?_
 refine G_seq ?_
 have hreg : regE n f b e = 0 := by omega
 refine G_region (l := [0, 1, 2, 3, 4, 5, 6, 7]) rfl ?_
 refine G_val rfl rfl rfl rfl (V_move rfl rfl) ?_
 refine G_val rfl rfl rfl rfl (V_lss rfl rfl rfl) ?_
 refine G_val rfl rfl rfl rfl (V_move rfl rfl) ?_
 refine G_splitD 32 rfl (fun hc2 => ?_) (fun hc2 => ?_)
 rotate_left
 · (first | (exact absurd rfl hc2) | (exact absurd hc2 (by decide)) | (exact absurd (by decide) hc2) | (exfalso; omega))
 refine G_off rfl rfl rfl rfl ?_
 refine G_off rfl rfl rfl rfl ?_
 refine G_off rfl rfl rfl rfl ?_
 refine G_off rfl rfl rfl rfl ?_
 refine G_val rfl rfl rfl rfl (V_pickT rfl rfl rfl) ?_
 refine G_done ?_
 refine G_then rfl ?_
 refine G_seq ?_
 refine G_region (l := [0, 1]) rfl ?_
 refine G_val rfl rfl rfl rfl (V_assign rfl rfl) ?_
 refine G_val rfl rfl rfl rfl (V_assign rfl rfl) ?_
 refine G_done ?_
 refine G_ret (post := []) Tryz.func55 rfl (RVs_cons (RV_tmp rfl) (RVs_cons (RV_tmp rfl) RVs_nil)) [] rfl ?_
 dsimp only [packed]
 first
   | (suffices hz : ¬ regE n f b e = 0 by (obtain ⟨e1, e2⟩ := got_no (k := k) (f := f) (b := b) (e := e) (z := z) (by rw [hln]; exact hz); rw [e1, e2]; exact ⟨by rw [regE_one hz]; try rfl, rfl⟩)
      assumption)
   | (suffices hz : regE n f b e = 0 by (obtain ⟨e1, e2⟩ := got_18 (k := k) (f := f) (b := b) (e := e) (by rw [hln]; exact hz) (getOk_neg (by omega)); rw [e1, e2]; exact ⟨rfl, rfl⟩)
      assumption)


theorem sn_get (d n lb lcap : Nat) (lcs : Array Value) (uw : Sl) (k : Dk) (h : DkAt k n lb lcs lcap uw) (f b : Int) (e : Nat) (hf0 : -9223372036854775808 ≤ f) (hf1 : f ≤ 9223372036854775807) (hb0 : -9223372036854775808 ≤ b) (hb1 : b ≤ 9223372036854775807) (he : e < 4294967296) (z : Int) (hz : z ≤ 9223372036854775807) (hd : k.dead = false) : Ct Tryz.prog 55 [.pointer (some ⟨d, 0, none⟩), .int .i64 f, .int .i64 b, .int .u32 (e : Int), .int .i64 z] [(some d, .cells #[.slice (some ⟨lb, 0, none⟩) n lcap, uw.v k.W.length, .int .i64 k.fuse, .bool k.dead] 67 (0, 0)), (some lb, .cells lcs 9 (0, 0)), (uw.ob, .cells uw.cs 90 uw.fz)] [] (fun v post => v = .tuple #[.string (bs (gotT k f b e z)), .int .i64 (gotE k f b e z)] ∧ post = []) := by
  rcases Int.lt_or_le z 0 with h0 | h0
  · exact sn_get_neg d n lb lcap lcs uw k h f b e hf0 hf1 hb0 hb1 he z h0
  · obtain ⟨m, rfl⟩ := Int.eq_ofNat_of_zero_le h0
    exact sn_getN d n lb lcap lcs uw k h f b e hf0 hf1 hb0 hb1 he m (by omega) hd

set_option maxRecDepth 100000 in
set_option maxHeartbeats 1000000 in
theorem sn_get_nil (x y z w : Value) :
    Ct Tryz.prog 55 [.pointer none, x, y, z, w] [] [] fun v post => v = .tuple #[.string (bs []), .int .i64 19] ∧ post = [] := by
 refine ct_of Tryz.func55 rfl rfl (fun w0 => ?_)
 show G _ _ [(0, _), (1, _), (2, _), (3, _), (4, _)] _ _
 refine G_seq ?_
 refine G_region (l := [0, 1]) rfl ?_
 refine G_val rfl rfl rfl rfl (V_assign rfl rfl) ?_
 refine G_val rfl rfl rfl rfl (V_assign rfl rfl) ?_
 refine G_done ?_
 refine G_seq ?_
 refine G_seq ?_
 refine G_region (l := [0, 1, 2, 3, 4, 5]) rfl ?_
 refine G_val rfl rfl rfl rfl (V_move rfl rfl) ?_
 refine G_val rfl rfl rfl rfl (V_move rfl rfl) ?_
 refine G_val rfl rfl rfl rfl (V_move rfl rfl) ?_
 refine G_val rfl rfl rfl rfl (V_move rfl rfl) ?_
 refine G_call (L2 := []) rfl rfl rfl rfl rfl rfl Tryz.call72 (sn_check_nil _ _ _) [] [] rfl rfl ?_
 rintro v post ⟨rfl, rfl⟩
 refine G_val rfl rfl rfl rfl (V_assign rfl rfl) ?_
 refine G_done ?_
 refine G_seq ?_
 refine G_region (l := [0, 1]) rfl ?_
 refine G_val rfl rfl rfl rfl (V_move rfl rfl) ?_
 refine G_val rfl rfl rfl rfl (V_neq rfl rfl rfl) ?_
 refine G_done ?_
 refine G_ifD rfl (fun hc1 => ?_) (fun hc1 => ?_)
 rotate_left
 · (first | (exact absurd rfl hc1) | (exact absurd hc1 (by decide)) | (exact absurd (by decide) hc1) | (exfalso; omega))
 refine G_seq ?_
 refine G_region (l := [0, 1, 2]) rfl ?_
 refine G_val rfl rfl rfl rfl (V_move rfl rfl) ?_
 refine G_val rfl rfl rfl rfl (V_assign rfl rfl) ?_
 refine G_val rfl rfl rfl rfl (V_assign rfl rfl) ?_
 refine G_done ?_
 refine G_ret (post := []) Tryz.func55 rfl (RVs_cons (RV_tmp rfl) (RVs_cons (RV_tmp rfl) RVs_nil)) [] rfl ?_
 dsimp only [packed]
 exact ⟨rfl, rfl⟩

end
end Go.Proofs.YtbblkgdejgoncaaGreatDoor
