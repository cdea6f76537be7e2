/- The walks of layer 25: texts joined, trimmed; the record of pieces. -/
import Derived.Test.YtbblkgdejgoncaaDoorFrameW
import Derived.Test.YtbblkgdejgoncaaDoorRep
set_option linter.unusedSimpArgs false
set_option linter.unusedVariables false
namespace Go.Proofs.YtbblkgdejgoncaaDoor
open Go Go.RowKit

section
theorem infFrameX_9 : Tryd.prog.info? 9 = some Tryd.t9 := by kernel_rfl
theorem infFrameX_120 : Tryd.prog.info? 120 = some Tryd.t120 := by kernel_rfl


theorem flat_next {ls : List (List UInt8)} {i : Nat} {s : List UInt8} (h : ls[i]? = some s) : (ls.take (i + 1)).flatten = (ls.take i).flatten ++ s := by
  rw [take_succ_of h, List.flatten_append]; simp
theorem flat_le (ls : List (List UInt8)) (i : Nat) : (ls.take i).flatten.length ≤ ls.flatten.length := by
  conv => rhs; rw [← List.take_append_drop i ls, List.flatten_append, List.length_append]
  omega
theorem join_one {ls : List (List UInt8)} {s : List UInt8} (h : ls[0]? = some s) (h1 : ls.length = 1) : ls.flatten = s := by
  match ls, h1, h with
  | [x], _, h => simp at h; subst h; simp
theorem flat_first {ls : List (List UInt8)} {s : List UInt8} (h : ls[0]? = some s) : s = (ls.take (0 + 1)).flatten := by
  rw [flat_next h]; simp
def trimL (l : List UInt8) : List UInt8 := l.dropWhile (· == 0)
def trimR (l : List UInt8) : List UInt8 := (l.reverse.dropWhile (· == 0)).reverse
theorem trimL_drop {t : List UInt8} (h0 : 0 < t.length) (h1 : ((t.getD (Int.toNat 0) 0).toNat : Int) = 0) : trimL (t.drop 1) = trimL t := by
  match t, h0, h1 with
  | c :: r, _, h1 =>
    have hc : c = 0 := UInt8.toNat_inj.1 (by simpa using h1)
    subst hc; rfl
theorem trimL_stop {t : List UInt8} (h1 : ¬ ((t.getD (Int.toNat 0) 0).toNat : Int) = 0) : trimL t = t := by
  match t, h1 with
  | [], _ => rfl
  | c :: r, h1 =>
    have hc : ¬ c = 0 := fun e => h1 (by subst e; rfl)
    unfold trimL; rw [List.dropWhile_cons_of_neg (by simpa using hc)]
theorem trimL_nil {t : List UInt8} (h : t.length = 0) : trimL t = t := by
  rw [List.length_eq_zero_iff.1 h]; rfl
theorem trimR_take {t : List UInt8} (h0 : 0 < t.length) (h1 : ((t.getD (t.length - 1) 0).toNat : Int) = 0) : trimR (t.take (t.length - 1)) = trimR t := by
  obtain ⟨m, c, rfl⟩ : ∃ m c, t = m ++ [c] := ⟨t.dropLast, t.getLast (by intro h; simp [h] at h0), (List.dropLast_concat_getLast _).symm⟩
  have hc : c = 0 := UInt8.toNat_inj.1 (by simpa [List.getD] using h1)
  subst hc
  rw [List.length_append, List.length_singleton, Nat.add_sub_cancel, List.take_left' rfl]
  unfold trimR; simp
theorem trimR_stop {t : List UInt8} (h0 : 0 < t.length) (h1 : ¬ ((t.getD (t.length - 1) 0).toNat : Int) = 0) : trimR t = t := by
  obtain ⟨m, c, rfl⟩ : ∃ m c, t = m ++ [c] := ⟨t.dropLast, t.getLast (by intro h; simp [h] at h0), (List.dropLast_concat_getLast _).symm⟩
  have hc : ¬ c = 0 := fun e => h1 (by subst e; simp [List.getD])
  unfold trimR
  rw [List.reverse_append, List.reverse_singleton, List.singleton_append, List.dropWhile_cons_of_neg (by simpa using hc)]
  simp
theorem trimR_nil {t : List UInt8} (h : t.length = 0) : trimR t = t := by
  rw [List.length_eq_zero_iff.1 h]; rfl
theorem dropWhile_nil : ∀ l : List UInt8, l.dropWhile (· == 0) = [] ↔ ∀ x ∈ l, (x == 0) = true
  | [] => by simp
  | c :: r => by
    by_cases hc : c = 0
    · subst hc
      rw [List.dropWhile_cons_of_pos (by rfl), dropWhile_nil r]; simp
    · rw [List.dropWhile_cons_of_neg (by simpa using hc)]; simp [hc]
theorem drop_all : ∀ l : List UInt8, (∀ x ∈ l.dropWhile (· == 0), x = 0) → ∀ x ∈ l, x = 0
  | [], _ => by simp
  | c :: r, h => by
    by_cases hc : c = 0
    · subst hc
      rw [List.dropWhile_cons_of_pos (by rfl)] at h
      intro x hx
      rcases List.mem_cons.1 hx with rfl | hx
      · rfl
      · exact drop_all r h x hx
    · rwa [List.dropWhile_cons_of_neg (by simpa using hc)] at h
theorem trim_nil (l : List UInt8) : trimL (trimR l) = [] ↔ ∀ x ∈ l, x = 0 := by
  unfold trimL trimR
  rw [dropWhile_nil]
  constructor
  · intro h x hx
    exact drop_all l.reverse (fun y hy => by simpa using h y (List.mem_reverse.2 hy)) x (List.mem_reverse.2 hx)
  · intro h x hx
    have := h x (List.mem_reverse.1 ((List.dropWhile_sublist _).mem (List.mem_reverse.1 hx)))
    simpa using this

set_option maxRecDepth 100000 in
set_option maxHeartbeats 1000000 in
theorem str_trimL (l : List UInt8) (h : l.length ≤ 9223372036854775807) :
    Ct Tryd.prog 87 [.string (bs l), .int .u8 0] [] [] fun v post => v = .string (bs (trimL l)) ∧ post = [] := by
 refine ct_of Tryd.func87 rfl rfl (fun w0 => ?_)
 show G _ _ [(0, _), (1, _)] _ _
 refine G_seq ?_
 refine G_region (l := [0]) rfl ?_
 refine G_val rfl rfl rfl rfl (V_assign rfl rfl) ?_
 refine G_done ?_
 refine G_seq ?_
 refine G_block ?_
 refine G_sub ?he1 [] ?hl1 (G_loop (X := List UInt8) (fun t => trimL t = trimL l ∧ t.length ≤ l.length) (fun t => t.length) (fun t => [(0, .string (bs t)), (1, .int .u8 0)]) (fun t => []) ?round1 l ?h01)
 case he1 => exact (And.intro rfl (And.intro rfl trivial))
 case hl1 => exact ⟨_, rfl⟩
 case h01 => exact ⟨rfl, Nat.le_refl _⟩
 case round1 =>
  intro t hJ ih
  try dsimp only at hJ ih
  obtain ⟨hJ1, hJ2⟩ := hJ
  refine G_seq ?_
  refine G_seq ?_
  refine G_region (l := [0, 1, 2, 3, 4, 5, 6, 7, 8]) rfl ?_
  refine G_val rfl rfl rfl rfl (V_move rfl rfl) ?_
  refine G_val rfl rfl rfl rfl (V_slen rfl rfl Tryd.underlying9 rfl) ?_
  refine G_val rfl rfl rfl rfl (V_gtr rfl rfl rfl) ?_
  refine G_val rfl rfl rfl rfl (V_move rfl rfl) ?_
  refine G_splitD 8 rfl (fun hc1 => ?_) (fun hc1 => ?_)
  · skip
    refine G_val rfl rfl rfl rfl (V_move rfl rfl) ?_
    first
      | refine G_val rfl rfl rfl rfl (V_sindexN rfl Tryd.underlying9 rfl rfl rfl (by omega)) ?_
      | refine G_val rfl rfl rfl rfl (V_sindexD rfl Tryd.underlying9 rfl rfl (by omega) (by first | omega | (simp; done) | (simp; omega) | (simp at *; omega))) ?_
    refine G_val rfl rfl rfl rfl (V_move rfl rfl) ?_
    refine G_val rfl rfl rfl rfl (V_eql rfl rfl rfl) ?_
    refine G_val rfl rfl rfl rfl (V_pickT rfl rfl rfl) ?_
    refine G_done ?_
    refine G_ifD rfl (fun hc2 => ?_) (fun hc2 => ?_)
    · skip
      refine G_skip ?_
      refine G_block ?_
      refine G_region (l := [0, 1, 2]) rfl ?_
      refine G_val rfl rfl rfl rfl (V_move rfl rfl) ?_
      first
        | refine G_val rfl rfl rfl rfl (V_ssliceLN (lo := 1) rfl Tryd.underlying9 rfl rfl rfl (by first | omega | (simp; done) | (simp; omega) | (simp at *; omega))) ?_
        | refine G_val rfl rfl rfl rfl (V_ssliceL rfl Tryd.underlying9 rfl rfl (by first | omega | (simp; done) | (simp; omega) | (simp at *; omega)) (by first | omega | (simp; done) | (simp; omega) | (simp at *; omega))) ?_
      refine G_val rfl rfl rfl rfl (V_assign rfl rfl) ?_
      refine G_done ?_
      refine G_inBlock ?_
      refine G_sub ?_ [] ?_ (ih (t.drop 1) ?_ ?_)
      · (refine (And.intro ?_ (And.intro ?_ trivial)) <;> first | rfl | exact slot_int (by omega) | exact slot_int (by simp))
      · exact ⟨_, rfl⟩
      · exact ⟨by rw [trimL_drop (by omega) (by assumption)]; exact hJ1, by simp; omega⟩
      · (simp; omega)
    refine G_exit rfl ?_
    refine G_seq ?_
    refine G_region (l := [0, 1]) rfl ?_
    refine G_val rfl rfl rfl rfl (V_move rfl rfl) ?_
    refine G_val rfl rfl rfl rfl (V_assign rfl rfl) ?_
    refine G_done ?_
    refine G_ret (post := []) Tryd.func87 rfl (RVs_cons (RV_tmp rfl) RVs_nil) [] rfl ?_
    dsimp only [packed]
    first | exact ⟨by rw [← hJ1, trimL_nil (by omega)], rfl⟩ | exact ⟨by rw [← hJ1, trimL_stop (by assumption)], rfl⟩
  refine G_off rfl rfl rfl rfl ?_
  refine G_off rfl rfl rfl rfl ?_
  refine G_off rfl rfl rfl rfl ?_
  refine G_off rfl rfl rfl rfl ?_
  refine G_val rfl rfl rfl rfl (V_pickF rfl rfl rfl) ?_
  refine G_done ?_
  refine G_else rfl ?_
  refine G_exit rfl ?_
  refine G_seq ?_
  refine G_region (l := [0, 1]) rfl ?_
  refine G_val rfl rfl rfl rfl (V_move rfl rfl) ?_
  refine G_val rfl rfl rfl rfl (V_assign rfl rfl) ?_
  refine G_done ?_
  refine G_ret (post := []) Tryd.func87 rfl (RVs_cons (RV_tmp rfl) RVs_nil) [] rfl ?_
  dsimp only [packed]
  first | exact ⟨by rw [← hJ1, trimL_nil (by omega)], rfl⟩ | exact ⟨by rw [← hJ1, trimL_stop (by assumption)], rfl⟩

set_option maxRecDepth 100000 in
set_option maxHeartbeats 1000000 in
theorem str_trimR (l : List UInt8) (h : l.length ≤ 9223372036854775807) :
    Ct Tryd.prog 88 [.string (bs l), .int .u8 0] [] [] fun v post => v = .string (bs (trimR l)) ∧ post = [] := by
 refine ct_of Tryd.func88 rfl rfl (fun w0 => ?_)
 show G _ _ [(0, _), (1, _)] _ _
 refine G_seq ?_
 refine G_region (l := [0]) rfl ?_
 refine G_val rfl rfl rfl rfl (V_assign rfl rfl) ?_
 refine G_done ?_
 refine G_seq ?_
 refine G_block ?_
 refine G_sub ?he1 [] ?hl1 (G_loop (X := List UInt8) (fun t => trimR t = trimR l ∧ t.length ≤ l.length) (fun t => t.length) (fun t => [(0, .string (bs t)), (1, .int .u8 0)]) (fun t => []) ?round1 l ?h01)
 case he1 => exact (And.intro rfl (And.intro rfl trivial))
 case hl1 => exact ⟨_, rfl⟩
 case h01 => exact ⟨rfl, Nat.le_refl _⟩
 case round1 =>
  intro t hJ ih
  try dsimp only at hJ ih
  obtain ⟨hJ1, hJ2⟩ := hJ
  refine G_seq ?_
  refine G_seq ?_
  refine G_region (l := [0, 1, 2, 3, 4, 5, 6, 7, 8, 9, 10, 11]) rfl ?_
  refine G_val rfl rfl rfl rfl (V_move rfl rfl) ?_
  refine G_val rfl rfl rfl rfl (V_slen rfl rfl Tryd.underlying9 rfl) ?_
  refine G_val rfl rfl rfl rfl (V_gtr rfl rfl rfl) ?_
  refine G_val rfl rfl rfl rfl (V_move rfl rfl) ?_
  refine G_splitD 8 rfl (fun hc1 => ?_) (fun hc1 => ?_)
  · skip
    refine G_val rfl rfl rfl rfl (V_move rfl rfl) ?_
    refine G_val rfl rfl rfl rfl (V_move rfl rfl) ?_
    refine G_val rfl rfl rfl rfl (V_slen rfl rfl Tryd.underlying9 rfl) ?_
    refine G_val rfl rfl rfl rfl (Val.int (e' := ((t.length - 1 : Nat) : Int)) (V_sub rfl rfl rfl) (by rw [wrap_i64 (by omega)]; omega)) ?_
    first
      | refine G_val rfl rfl rfl rfl (V_sindexN rfl Tryd.underlying9 rfl rfl rfl (by omega)) ?_
      | refine G_val rfl rfl rfl rfl (V_sindexD rfl Tryd.underlying9 rfl rfl (by omega) (by first | omega | (simp; done) | (simp; omega) | (simp at *; omega))) ?_
    refine G_val rfl rfl rfl rfl (V_move rfl rfl) ?_
    refine G_val rfl rfl rfl rfl (V_eql rfl rfl rfl) ?_
    refine G_val rfl rfl rfl rfl (V_pickT rfl rfl rfl) ?_
    refine G_done ?_
    refine G_ifD rfl (fun hc2 => ?_) (fun hc2 => ?_)
    · skip
      refine G_skip ?_
      refine G_block ?_
      refine G_region (l := [0, 1, 2, 3, 4, 5]) rfl ?_
      refine G_val rfl rfl rfl rfl (V_move rfl rfl) ?_
      refine G_val rfl rfl rfl rfl (V_move rfl rfl) ?_
      refine G_val rfl rfl rfl rfl (V_slen rfl rfl Tryd.underlying9 rfl) ?_
      refine G_val rfl rfl rfl rfl (Val.int (e' := ((t.length - 1 : Nat) : Int)) (V_sub rfl rfl rfl) (by rw [wrap_i64 (by omega)]; omega)) ?_
      first
        | refine G_val rfl rfl rfl rfl (V_ssliceHN (hi := _) rfl Tryd.underlying9 rfl rfl rfl (by first | omega | (simp; done) | (simp; omega) | (simp at *; omega))) ?_
        | refine G_val rfl rfl rfl rfl (V_ssliceH rfl Tryd.underlying9 rfl rfl (by first | omega | (simp; done) | (simp; omega) | (simp at *; omega)) (by first | omega | (simp; done) | (simp; omega) | (simp at *; omega))) ?_
      refine G_val rfl rfl rfl rfl (V_assign rfl rfl) ?_
      refine G_done ?_
      refine G_inBlock ?_
      refine G_sub ?_ [] ?_ (ih (t.take (t.length - 1)) ?_ ?_)
      · (refine (And.intro ?_ (And.intro ?_ trivial)) <;> first | rfl | exact slot_int (by omega) | exact slot_int (by simp))
      · exact ⟨_, rfl⟩
      · exact ⟨by rw [trimR_take (by omega) (by assumption)]; exact hJ1, by simp; omega⟩
      · (simp; omega)
    refine G_exit rfl ?_
    refine G_seq ?_
    refine G_region (l := [0, 1]) rfl ?_
    refine G_val rfl rfl rfl rfl (V_move rfl rfl) ?_
    refine G_val rfl rfl rfl rfl (V_assign rfl rfl) ?_
    refine G_done ?_
    refine G_ret (post := []) Tryd.func88 rfl (RVs_cons (RV_tmp rfl) RVs_nil) [] rfl ?_
    dsimp only [packed]
    first | exact ⟨by rw [← hJ1, trimR_nil (by omega)], rfl⟩ | exact ⟨by rw [← hJ1, trimR_stop (by omega) (by assumption)], rfl⟩
  refine G_off rfl rfl rfl rfl ?_
  refine G_off rfl rfl rfl rfl ?_
  refine G_off rfl rfl rfl rfl ?_
  refine G_off rfl rfl rfl rfl ?_
  refine G_off rfl rfl rfl rfl ?_
  refine G_off rfl rfl rfl rfl ?_
  refine G_off rfl rfl rfl rfl ?_
  refine G_val rfl rfl rfl rfl (V_pickF rfl rfl rfl) ?_
  refine G_done ?_
  refine G_else rfl ?_
  refine G_exit rfl ?_
  refine G_seq ?_
  refine G_region (l := [0, 1]) rfl ?_
  refine G_val rfl rfl rfl rfl (V_move rfl rfl) ?_
  refine G_val rfl rfl rfl rfl (V_assign rfl rfl) ?_
  refine G_done ?_
  refine G_ret (post := []) Tryd.func88 rfl (RVs_cons (RV_tmp rfl) RVs_nil) [] rfl ?_
  dsimp only [packed]
  first | exact ⟨by rw [← hJ1, trimR_nil (by omega)], rfl⟩ | exact ⟨by rw [← hJ1, trimR_stop (by omega) (by assumption)], rfl⟩


theorem trimR_len (l : List UInt8) : (trimR l).length ≤ l.length := by
  unfold trimR
  have := (List.dropWhile_sublist (p := (· == (0 : UInt8))) (l := l.reverse)).length_le
  rw [List.length_reverse] at this ⊢
  exact this

set_option maxRecDepth 100000 in
set_option maxHeartbeats 1000000 in
theorem str_trim (l : List UInt8) (h : l.length ≤ 9223372036854775807) :
    Ct Tryd.prog 60 [.string (bs l), .string (bs [0])] [] [] fun v post => v = .string (bs (trimL (trimR l))) ∧ post = [] := by
 have hr := trimR_len l
 refine ct_of Tryd.func60 rfl rfl (fun w0 => ?_)
 show G _ _ [(0, _), (1, _)] _ _
 refine G_seq ?_
 refine G_region (l := [0]) rfl ?_
 refine G_val rfl rfl rfl rfl (V_assign rfl rfl) ?_
 refine G_done ?_
 refine G_seq ?_
 refine G_seq ?_
 refine G_region (l := [0, 1, 2, 3, 4, 5]) rfl ?_
 refine G_val rfl rfl rfl rfl (V_move rfl rfl) ?_
 refine G_val rfl rfl rfl rfl (V_seql rfl rfl rfl) ?_
 refine G_val rfl rfl rfl rfl (V_move rfl rfl) ?_
 refine G_splitD 9 rfl (fun hc1 => ?_) (fun hc1 => ?_)
 · skip
   refine G_off rfl rfl rfl rfl ?_
   refine G_off rfl rfl rfl rfl ?_
   refine G_val rfl rfl rfl rfl (V_pickT rfl rfl rfl) ?_
   refine G_done ?_
   refine G_then rfl ?_
   refine G_seq ?_
   refine G_region (l := [0, 1]) rfl ?_
   refine G_val rfl rfl rfl rfl (V_move rfl rfl) ?_
   refine G_val rfl rfl rfl rfl (V_assign rfl rfl) ?_
   refine G_done ?_
   refine G_ret (post := []) Tryd.func60 rfl (RVs_cons (RV_tmp rfl) RVs_nil) [] rfl ?_
   dsimp only [packed]
   first | exact ⟨rfl, rfl⟩ | (subst hc1; exact ⟨rfl, rfl⟩)
 refine G_val rfl rfl rfl rfl (V_move rfl rfl) ?_
 refine G_val rfl rfl rfl rfl (V_seql rfl rfl rfl) ?_
 refine G_val rfl rfl rfl rfl (V_pickF rfl rfl rfl) ?_
 refine G_done ?_
 refine G_ifD rfl (fun hc2 => ?_) (fun hc2 => ?_)
 · (first | (exact absurd rfl hc2) | (exfalso; simp at hc2; done) | (exfalso; omega))
 refine G_skip ?_
 refine G_seq ?_
 refine G_seq ?_
 refine G_region (l := [0, 1, 2, 3, 4, 5, 6, 7]) rfl ?_
 refine G_val rfl rfl rfl rfl (V_move rfl rfl) ?_
 refine G_val rfl rfl rfl rfl (Val.int (e' := 1) (V_slen rfl rfl Tryd.underlying9 rfl) (rfl)) ?_
 refine G_val rfl rfl rfl rfl (V_eql rfl rfl rfl) ?_
 refine G_val rfl rfl rfl rfl (V_move rfl rfl) ?_
 refine G_splitD 17 rfl (fun hc3 => ?_) (fun hc3 => ?_)
 rotate_left
 · (first | (exact absurd rfl hc3) | (exfalso; simp at hc3; done) | (exfalso; omega))
 refine G_val rfl rfl rfl rfl (V_move rfl rfl) ?_
 refine G_val rfl rfl rfl rfl (Val.int (e' := 0) (V_sindexN (j := 0) rfl Tryd.underlying9 rfl rfl rfl (by decide)) (rfl)) ?_
 refine G_val rfl rfl rfl rfl (V_lss rfl rfl rfl) ?_
 refine G_val rfl rfl rfl rfl (V_pickT rfl rfl rfl) ?_
 refine G_done ?_
 refine G_ifD rfl (fun hc4 => ?_) (fun hc4 => ?_)
 rotate_left
 · (first | (exact absurd rfl hc4) | (exfalso; simp at hc4; done) | (exfalso; omega))
 refine G_seq ?_
 refine G_draw mixedK (by kernel_rfl) ?_
 refine GQ_val rfl rfl rfl rfl (V_move rfl rfl) ?_
 refine GQ_val rfl rfl rfl rfl (V_move rfl rfl) ?_
 refine GQ_val rfl rfl rfl rfl (Val.int (e' := 0) (V_sindexN (j := 0) rfl Tryd.underlying9 rfl rfl rfl (by decide)) (rfl)) ?_
 refine GQ_call rfl rfl rfl rfl rfl rfl Tryd.call88 (str_trimR _ (by first | omega | (simp; done) | (simp; omega) | (simp at *; omega))) [] rfl (fun v post hp => (hp : _ ∧ _).1) ?_
 refine GQ_val rfl rfl rfl rfl (V_move rfl rfl) ?_
 refine GQ_val rfl rfl rfl rfl (Val.int (e' := 0) (V_sindexN (j := 0) rfl Tryd.underlying9 rfl rfl rfl (by decide)) (rfl)) ?_
 refine GQ_call rfl rfl rfl rfl rfl rfl Tryd.call87 (str_trimL _ (by first | omega | (simp; done) | (simp; omega) | (simp at *; omega))) [] rfl (fun v post hp => (hp : _ ∧ _).1) ?_
 refine GQ_val rfl rfl rfl rfl (V_assign rfl rfl) ?_
 refine GQ_done rfl ?_
 refine G_ret (post := []) Tryd.func60 rfl (RVs_cons (RV_tmp rfl) RVs_nil) [] rfl ?_
 dsimp only [packed]
 first | exact ⟨rfl, rfl⟩ | (subst hc1; exact ⟨rfl, rfl⟩)

set_option maxRecDepth 100000 in
set_option maxHeartbeats 1000000 in
theorem str_join (o1 : Option Nat) (p1 q1 : Nat) (c1 : Array Value) (T1 : TypeId) (f1 : Nat × Nat) (ls : List (List UInt8)) (n : Nat) (hn : ls.length = n) (hs : Sees 1 o1 p1 q1 c1 (ls.map strC) ls.length) (h0 : 1 ≤ ls.flatten.length) (h8 : ls.flatten.length ≤ 8192) :
    Ct Tryd.prog 57 [sv o1 p1 n q1, .string (bs [])] [(o1, .cells c1 T1 f1)] [] fun v post => v = .string (bs ls.flatten) ∧ post = [] := by
 subst hn
 have hk1 := hs.le
 have hk2 := hs.max
 refine ct_of Tryd.func57 rfl rfl (fun w0 => ?_)
 show G _ _ [(0, _), (1, _)] _ _
 refine G_seq ?_
 refine G_region (l := [0]) rfl ?_
 refine G_val rfl rfl rfl rfl (V_assign rfl rfl) ?_
 refine G_done ?_
 refine G_seq ?_
 refine G_seq ?_
 refine G_region (l := [0, 1]) rfl ?_
 refine G_val rfl rfl rfl rfl (V_move rfl rfl) ?_
 refine G_val rfl rfl rfl rfl (V_len rfl rfl Tryd.underlying24 rfl) ?_
 refine G_done ?_
 refine G_block ?_
 refine G_seq ?_
 refine G_region (l := [0, 1]) rfl ?_
 refine G_val rfl rfl rfl rfl (V_eql rfl rfl rfl) ?_
 refine G_val rfl rfl rfl rfl (V_assign rfl rfl) ?_
 refine G_done ?_
 refine G_ifD rfl (fun hc1 => ?_) (fun hc1 => ?_)
 · skip
   refine G_seq ?_
   refine G_region (l := [0]) rfl ?_
   refine G_val rfl rfl rfl rfl (V_assign rfl rfl) ?_
   refine G_done ?_
   refine G_ret (post := []) Tryd.func57 rfl (RVs_cons (RV_tmp rfl) RVs_nil) [] rfl ?_
   dsimp only [packed]
   first
     | exact ⟨by rw [List.take_of_length_le (show ls.length ≤ i + 1 by omega)], rfl⟩
     | exact ⟨by rw [join_one hx0 (by omega)]; rfl, rfl⟩
     | (exfalso; rw [List.length_eq_zero_iff.1 (show ls.length = 0 by omega)] at h0; simp at h0; done)
 refine G_seq ?_
 refine G_region (l := [0, 1]) rfl ?_
 refine G_val rfl rfl rfl rfl (V_eql rfl rfl rfl) ?_
 refine G_val rfl rfl rfl rfl (V_assign rfl rfl) ?_
 refine G_done ?_
 refine G_ifD rfl (fun hc2 => ?_) (fun hc2 => ?_)
 · skip
   refine G_seq ?_
   obtain ⟨s0, hx0⟩ := getI (show 0 < ls.length by omega)
   obtain ⟨b1, rfl⟩ := hs.isSome (by omega)
   refine G_region (l := [0, 1, 2, 3]) rfl ?_
   refine G_val rfl rfl rfl rfl (V_move rfl rfl) ?_
   first
     | refine G_val rfl rfl rfl rfl (V_indexAddrN (s := 1) rfl Tryd.underlying24 infFrameX_9 rfl rfl rfl rfl (by omega)) ?_
     | refine G_val rfl rfl rfl rfl (V_indexAddr (s := 1) rfl Tryd.underlying24 infFrameX_9 rfl rfl rfl (by omega) (by first | omega | (simp; done) | (simp; omega) | (simp at *; omega))) ?_
   refine G_val rfl rfl rfl rfl (V_load1 rfl rfl (mem_at 0 rfl) (nth_of (hs.cell hx0)) Tryd.underlying9 rfl) ?_
   refine G_val rfl rfl rfl rfl (V_assign rfl rfl) ?_
   refine G_done ?_
   refine G_ret (post := []) Tryd.func57 rfl (RVs_cons (RV_tmp rfl) RVs_nil) [] rfl ?_
   dsimp only [packed]
   first
     | exact ⟨by rw [List.take_of_length_le (show ls.length ≤ i + 1 by omega)], rfl⟩
     | exact ⟨by rw [join_one hx0 (by omega)]; rfl, rfl⟩
     | (exfalso; rw [List.length_eq_zero_iff.1 (show ls.length = 0 by omega)] at h0; simp at h0; done)
 refine G_skip ?_
 refine G_inBlock ?_
 refine G_seq ?_
 obtain ⟨s0, hx0⟩ := getI (show 0 < ls.length by omega)
 obtain ⟨b1, rfl⟩ := hs.isSome (by omega)
 refine G_region (l := [0]) rfl ?_
 refine G_val rfl rfl rfl rfl (V_assign rfl rfl) ?_
 refine G_done ?_
 refine G_seq ?_
 refine G_seq ?_
 refine G_region (l := [0, 1, 2]) rfl ?_
 refine G_val rfl rfl rfl rfl (V_move rfl rfl) ?_
 refine G_val rfl rfl rfl rfl (V_slen rfl rfl Tryd.underlying9 rfl) ?_
 refine G_val rfl rfl rfl rfl (V_gtr rfl rfl rfl) ?_
 refine G_done ?_
 refine G_ifD rfl (fun hc3 => ?_) (fun hc3 => ?_)
 · (first | (exact absurd rfl hc3) | (exfalso; simp at hc3; done) | (exfalso; omega))
 refine G_skip ?_
 refine G_seq ?_
 refine G_seq ?_
 refine G_region (l := [0, 1, 2]) rfl ?_
 refine G_val rfl rfl rfl rfl (V_move rfl rfl) ?_
 refine G_val rfl rfl rfl rfl (V_len rfl rfl Tryd.underlying24 rfl) ?_
 refine G_val rfl rfl rfl rfl (V_move rfl rfl) ?_
 refine G_done ?_
 refine G_block ?_
 refine G_sub ?he12 [] ?hl12 (G_loop (X := Nat) (fun i => i ≤ ls.length) (fun i => ls.length - i) (fun i => [(0, sv (some b1) p1 ls.length q1), (1, .string (bs [])), (5, .int .i64 ((ls.take i).flatten.length : Int)), (39, sv (some b1) p1 ls.length q1), (40, .int .i64 (ls.length : Int)), (41, .int .i64 (i : Int))]) (fun i => []) ?round12 0 ?h012)
 case he12 => exact (And.intro rfl (And.intro rfl (And.intro rfl (And.intro rfl (And.intro rfl (And.intro rfl trivial))))))
 case hl12 => exact ⟨_, rfl⟩
 case h012 => exact Nat.zero_le _
 case round12 =>
  intro i hJ ih
  try dsimp only at hJ ih
  refine G_seq ?_
  refine G_region (l := [0]) rfl ?_
  refine G_val rfl rfl rfl rfl (V_lss rfl rfl rfl) ?_
  refine G_done ?_
  refine G_seq ?_
  refine G_ifD rfl (fun hc4 => ?_) (fun hc4 => ?_)
  · skip
    refine G_skip ?_
    refine G_seq ?_
    refine G_block ?_
    refine G_seq ?_
    obtain ⟨s, hx⟩ := getI (show i < ls.length by omega)
    have hf1 := flat_le ls (i + 1)
    have hf2 := congrArg List.length (flat_next hx)
    rw [List.length_append] at hf2
    refine G_region (l := [0, 1, 2]) rfl ?_
    first
      | refine G_val rfl rfl rfl rfl (V_indexAddrN (s := 1) rfl Tryd.underlying24 infFrameX_9 rfl rfl rfl rfl (by omega)) ?_
      | refine G_val rfl rfl rfl rfl (V_indexAddr (s := 1) rfl Tryd.underlying24 infFrameX_9 rfl rfl rfl (by omega) (by first | omega | (simp; done) | (simp; omega) | (simp at *; omega))) ?_
    refine G_val rfl rfl rfl rfl (V_load1 rfl rfl (mem_at 0 rfl) (nth_of (hs.cell hx)) Tryd.underlying9 rfl) ?_
    refine G_val rfl rfl rfl rfl (V_assign rfl rfl) ?_
    refine G_done ?_
    refine G_seq ?_
    refine G_seq ?_
    refine G_region (l := [0, 1, 2, 3, 4]) rfl ?_
    refine G_val rfl rfl rfl rfl (V_move rfl rfl) ?_
    refine G_val rfl rfl rfl rfl (V_slen rfl rfl Tryd.underlying9 rfl) ?_
    refine G_val rfl rfl rfl rfl (V_move rfl rfl) ?_
    first
      | refine G_val rfl rfl rfl rfl ((V_sub rfl rfl rfl).int (wrap_i64 (by omega))) ?_
      | refine G_val rfl rfl rfl rfl (V_sub rfl rfl rfl) ?_
    refine G_val rfl rfl rfl rfl (V_gtr rfl rfl rfl) ?_
    refine G_done ?_
    refine G_ifD rfl (fun hc5 => ?_) (fun hc5 => ?_)
    · (first | (exact absurd rfl hc5) | (exfalso; simp at hc5; done) | (exfalso; omega))
    refine G_skip ?_
    refine G_region (l := [0, 1, 2, 3, 4]) rfl ?_
    refine G_val rfl rfl rfl rfl (V_move rfl rfl) ?_
    refine G_val rfl rfl rfl rfl (V_move rfl rfl) ?_
    refine G_val rfl rfl rfl rfl (V_slen rfl rfl Tryd.underlying9 rfl) ?_
    first
      | refine G_val rfl rfl rfl rfl ((V_add rfl rfl rfl).int (wrap_i64 (by omega))) ?_
      | refine G_val rfl rfl rfl rfl (V_add rfl rfl rfl) ?_
    rw [show (((ls.take i).flatten.length : Int) + (s.length : Int)) = (((ls.take (i + 1)).flatten.length : Nat) : Int) by rw [hf2]; omega]
    refine G_val rfl rfl rfl rfl (V_assign rfl rfl) ?_
    refine G_done ?_
    refine G_inBlock ?_
    refine G_region (l := [0, 1]) rfl ?_
    first
      | refine G_val rfl rfl rfl rfl ((V_add rfl rfl rfl).int (wrap_i64 (by omega))) ?_
      | refine G_val rfl rfl rfl rfl (V_add rfl rfl rfl) ?_
    refine G_val rfl rfl rfl rfl (V_move rfl rfl) ?_
    refine G_done ?_
    refine G_sub ?_ [] ?_ (ih (i + 1) ?_ ?_)
    · (refine (And.intro ?_ (And.intro ?_ (And.intro ?_ (And.intro ?_ (And.intro ?_ (And.intro ?_ trivial)))))) <;> first | rfl | exact slot_int (by omega) | exact slot_int (by simp))
    · exact ⟨_, rfl⟩
    · omega
    · (first | omega | (dsimp only; omega))
  refine G_exit rfl ?_
  refine G_seq ?_
  obtain rfl : i = ls.length := by omega
  rw [List.take_length]
  refine G_region (l := [0]) rfl ?_
  refine G_new rfl rfl rfl rfl (N_allocA rfl infFrameX_120 rfl) (fun b8 => ?_)
  refine G_done ?_
  refine G_seq ?_
  refine G_region (l := [0, 1]) rfl ?_
  refine G_val rfl rfl rfl rfl (V_move rfl rfl) ?_
  refine G_call (L2 := []) rfl rfl rfl rfl rfl rfl Tryd.call85 (bld_grow _ _ (by omega) (by omega)) [0] [] rfl rfl ?_
  rintro v post ⟨rfl, u1, hu1, rfl⟩
  show G _ _ _ [_, _] _
  refine G_done ?_
  refine G_seq ?_
  have hf1 := flat_le ls (0 + 1)
  have hf2 := flat_first hx0
  have hf3 := congrArg List.length hf2
  refine G_region (l := [0, 1, 2, 3]) rfl ?_
  refine G_val rfl rfl rfl rfl (V_move rfl rfl) ?_
  first
    | refine G_val rfl rfl rfl rfl (V_indexAddrN (s := 1) rfl Tryd.underlying24 infFrameX_9 rfl rfl rfl rfl (by omega)) ?_
    | refine G_val rfl rfl rfl rfl (V_indexAddr (s := 1) rfl Tryd.underlying24 infFrameX_9 rfl rfl rfl (by omega) (by first | omega | (simp; done) | (simp; omega) | (simp at *; omega))) ?_
  refine G_val rfl rfl rfl rfl (V_load1 rfl rfl (mem_at 0 rfl) (nth_of (hs.cell hx0)) Tryd.underlying9 rfl) ?_
  refine G_call (L2 := []) rfl rfl rfl rfl rfl rfl Tryd.call69 (bld_write _ _ _ [] s0 (.inr rfl) hu1 (by simp; omega)) [0, 0] [] rfl rfl ?_
  rintro v post ⟨rfl, u1, hu1, rfl⟩
  show G _ _ _ [_, _] _
  rw [List.nil_append, hf2] at hu1
  rw [List.nil_append, hf2]
  refine G_done ?_
  refine G_seq ?_
  refine G_seq ?_
  refine G_region (l := [0, 1, 2, 3]) rfl ?_
  refine G_val rfl rfl rfl rfl (V_move rfl rfl) ?_
  refine G_val rfl rfl rfl rfl (V_sliceLo (lo := 1) rfl Tryd.underlying24 infFrameX_9 rfl rfl rfl rfl (by first | omega | (simp; done) | (simp; omega) | (simp at *; omega)) (by first | omega | (simp; done) | (simp; omega) | (simp at *; omega))) ?_
  rw [if_neg (show ¬ q1 = 1 by omega)]
  refine G_val rfl rfl rfl rfl (V_len rfl rfl Tryd.underlying24 rfl) ?_
  refine G_val rfl rfl rfl rfl (V_move rfl rfl) ?_
  refine G_done ?_
  refine G_block ?_
  refine G_sub ?he22 [0, 0] ?hl22 (G_loop (X := Nat × Sl) (fun x => match x with | ⟨i, u⟩ => i + 1 ≤ ls.length ∧ Txt u (ls.take (i + 1)).flatten) (fun x => match x with | ⟨i, u⟩ => ls.length - i) (fun x => match x with | ⟨i, u⟩ => [(1, .string (bs [])), (8, .pointer (some ⟨b8, 0, none⟩)), (63, .slice (some ⟨b1, p1 + 1 * 1, none⟩) (ls.length - 1) (q1 - 1)), (64, .int .i64 ((ls.length - 1 : Nat) : Int)), (65, .int .i64 (i : Int))]) (fun x => match x with | ⟨i, u⟩ => [(some b8, .cells #[.pointer (some ⟨b8, 0, none⟩), u.v (ls.take (i + 1)).flatten.length] 120 (0, 0)), (u.ob, .cells u.cs 5 u.fz)]) ?round22 (0, u1) ?h022)
  case he22 => exact (And.intro rfl (And.intro rfl (And.intro rfl (And.intro rfl (And.intro rfl trivial)))))
  case hl22 => exact ⟨_, rfl⟩
  case h022 => exact ⟨by omega, hu1⟩
  case round22 =>
   intro x hJ ih
   try dsimp only at hJ ih
   obtain ⟨i, u⟩ := x
   try dsimp only at hJ ih
   obtain ⟨hi, hux⟩ := hJ
   show G _ _ [(1, .string (bs [])), (8, .pointer (some ⟨b8, 0, none⟩)), (63, .slice (some ⟨b1, p1 + 1 * 1, none⟩) (ls.length - 1) (q1 - 1)), (64, .int .i64 ((ls.length - 1 : Nat) : Int)), (65, .int .i64 (i : Int))] [(some b8, .cells #[.pointer (some ⟨b8, 0, none⟩), u.v (ls.take (i + 1)).flatten.length] 120 (0, 0)), (u.ob, .cells u.cs 5 u.fz)] _
   have hf0 := flat_le ls (i + 1)
   refine G_seq ?_
   refine G_region (l := [0]) rfl ?_
   refine G_val rfl rfl rfl rfl (V_lss rfl rfl rfl) ?_
   refine G_done ?_
   refine G_seq ?_
   refine G_ifD rfl (fun hc5 => ?_) (fun hc5 => ?_)
   · skip
     refine G_skip ?_
     refine G_seq ?_
     refine G_block ?_
     refine G_seq ?_
     obtain ⟨s, hx⟩ := getI (show i + 1 < ls.length by omega)
     have hf1 := flat_le ls (i + 1 + 1)
     have hf2 := congrArg List.length (flat_next hx)
     rw [List.length_append] at hf2
     refine G_region (l := [0, 1, 2]) rfl ?_
     first
       | refine G_val rfl rfl rfl rfl (V_indexAddrN (s := 1) rfl Tryd.underlying24 infFrameX_9 rfl rfl rfl rfl (by omega)) ?_
       | refine G_val rfl rfl rfl rfl (V_indexAddr (s := 1) rfl Tryd.underlying24 infFrameX_9 rfl rfl rfl (by omega) (by first | omega | (simp; done) | (simp; omega) | (simp at *; omega))) ?_
     refine G_val rfl rfl rfl rfl (V_load1 rfl rfl (mem_at 0 rfl) (nth_of (by have := hs.cell hx; rwa [show p1 + (i + 1) * 1 = p1 + 1 * 1 + i * 1 by omega] at this)) Tryd.underlying9 rfl) ?_
     refine G_val rfl rfl rfl rfl (V_assign rfl rfl) ?_
     refine G_done ?_
     refine G_seq ?_
     refine G_region (l := [0, 1]) rfl ?_
     refine G_val rfl rfl rfl rfl (V_move rfl rfl) ?_
     refine G_call (L2 := []) rfl rfl rfl rfl rfl rfl Tryd.call69 (bld_write _ _ _ _ [] (.inr rfl) hux (by simp only [List.length_nil]; omega)) [0, 0] [] rfl rfl ?_
     rintro v post ⟨rfl, u1, hu1, rfl⟩
     show G _ _ _ [_, _] _
     rw [List.append_nil] at hu1 ⊢
     refine G_done ?_
     refine G_region (l := [0, 1]) rfl ?_
     refine G_val rfl rfl rfl rfl (V_move rfl rfl) ?_
     refine G_call (L2 := []) rfl rfl rfl rfl rfl rfl Tryd.call69 (bld_write _ _ _ _ s (.inr rfl) hu1 (by omega)) [0, 0] [] rfl rfl ?_
     rintro v post ⟨rfl, u1, hu1, rfl⟩
     show G _ _ _ [_, _] _
     rw [← flat_next hx] at hu1 ⊢
     refine G_done ?_
     refine G_inBlock ?_
     refine G_region (l := [0, 1]) rfl ?_
     first
       | refine G_val rfl rfl rfl rfl ((V_add rfl rfl rfl).int (wrap_i64 (by omega))) ?_
       | refine G_val rfl rfl rfl rfl (V_add rfl rfl rfl) ?_
     refine G_val rfl rfl rfl rfl (V_move rfl rfl) ?_
     refine G_done ?_
     refine G_sub ?_ [0, 0] ?_ (ih (i + 1, u1) ?_ ?_)
     · (refine (And.intro ?_ (And.intro ?_ (And.intro ?_ (And.intro ?_ (And.intro ?_ trivial))))) <;> first | rfl | exact slot_int (by omega) | exact slot_int (by simp))
     · exact ⟨_, rfl⟩
     · exact ⟨by omega, hu1⟩
     · (first | omega | (dsimp only; omega))
   refine G_exit rfl ?_
   refine G_seq ?_
   refine G_region (l := [0, 1]) rfl ?_
   refine G_call (L2 := []) rfl rfl rfl rfl rfl rfl Tryd.call70 (bld_string _ _ _ _ hux (by have := flat_le ls (i + 1); omega)) [0, 0] [] rfl rfl ?_
   rintro v post ⟨rfl, u1, hu1, rfl⟩
   show G _ _ _ [_, _] _
   refine G_val rfl rfl rfl rfl (V_assign rfl rfl) ?_
   refine G_done ?_
   refine G_ret (post := []) Tryd.func57 rfl (RVs_cons (RV_tmp rfl) RVs_nil) [] rfl ?_
   dsimp only [packed]
   first
     | exact ⟨by rw [List.take_of_length_le (show ls.length ≤ i + 1 by omega)], rfl⟩
     | exact ⟨by rw [join_one hx0 (by omega)]; rfl, rfl⟩
     | (exfalso; rw [List.length_eq_zero_iff.1 (show ls.length = 0 by omega)] at h0; simp at h0; done)

end
end Go.Proofs.YtbblkgdejgoncaaDoor
