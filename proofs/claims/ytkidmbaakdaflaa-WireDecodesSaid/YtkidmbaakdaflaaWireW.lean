/- The walks of layer 20: requests as bytes. -/
import Derived.Test.YtkidmbaakdaflaaWireQ
import Derived.Test.YtkidmbaakdaflaaBld2
import Derived.Test.YtkidmbaakdaflaaReadW
import Derived.Test.YtkidmbaakdaflaaG12
set_option linter.unusedSimpArgs false
set_option linter.unusedVariables false
namespace Go.Proofs.Ytkidmbaakdaflaa
open Go Go.RowKit

section
theorem infWireW_3 : Try.prog.info? 3 = some Try.t3 := by kernel_rfl
theorem infWireW_4 : Try.prog.info? 4 = some Try.t4 := by kernel_rfl
theorem infWireW_9 : Try.prog.info? 9 = some Try.t9 := by kernel_rfl
theorem infWireW_99 : Try.prog.info? 99 = some Try.t99 := by kernel_rfl
theorem infWireW_109 : Try.prog.info? 109 = some Try.t109 := by kernel_rfl
theorem infWireW_127 : Try.prog.info? 127 = some Try.t127 := by kernel_rfl
theorem infWireW_187 : Try.prog.info? 187 = some Try.t187 := by kernel_rfl

set_option maxRecDepth 100000 in
set_option maxHeartbeats 1000000 in
theorem w_num (bc bq : Nat) (p : Value) (u : Sl) (tx : List UInt8) (hp : UsedOr bc p) (hu : Txt u tx) (hs : tx.length ≤ 140737488340000) (qs : Array Value) (off : Nat) (x : Int) (hx : 0 ≤ x ∧ x ≤ 1099511627776) (hq : qs[off]? = some (.int .i64 x)) :
    Ct Try.prog 138 [.pointer (some ⟨bc, 0, none⟩), .pointer (some ⟨bq, off, none⟩)] [(some bq, .cells qs 40 (0, 0))] [(some bc, .cells #[p, u.v (tx).length, .pointer none, .bool false] 136 (0, 0)), (u.ob, .cells u.cs 5 u.fz)] fun v post => v = .tuple #[] ∧ ∃ u1, Txt u1 (tx ++ chainI x) ∧ post = [(some bc, .cells #[.pointer (some ⟨bc, 0, none⟩), u1.v (tx ++ chainI x).length, .pointer none, .bool false] 136 (0, 0)), (u1.ob, .cells u1.cs 5 u1.fz)] := by
 obtain ⟨hx0, hx1⟩ := hx
 have hcl := chainI_len x hx0 (by omega)
 refine ct_of Try.func138 rfl rfl (fun w0 => ?_)
 show G _ _ [(0, _), (1, _)] _ _
 refine G_seq ?_
 refine G_seq ?_
 refine G_region (l := [0, 1, 2, 3]) rfl ?_
 refine G_val rfl rfl rfl rfl (V_move rfl rfl) ?_
 first
   | refine G_val rfl rfl rfl rfl (V_nilCheck rfl rfl) ?_
   | refine G_val rfl rfl rfl rfl (V_nilCheckF rfl rfl) ?_
 refine G_val rfl rfl rfl rfl (V_fieldAddr (fo := 3) rfl Try.underlying136 rfl infWireW_4 rfl rfl rfl) ?_
 refine G_val rfl rfl rfl rfl (V_load1 rfl rfl (mem_at 1 rfl) rfl Try.underlying4 rfl) ?_
 refine G_done ?_
 refine G_else rfl ?_
 refine G_skip ?_
 refine GH_start (Lq := []) (isq := []) (m := 9) mixedK rfl rfl ?_
 refine GH_take 0 rfl rfl rfl rfl (by kernel_rfl) (by kernel_rfl) (by kernel_rfl) (fun _ _ => (V_move rfl rfl)) ?_
 first
   | refine GH_take 1 rfl rfl rfl rfl (by kernel_rfl) (by kernel_rfl) (by kernel_rfl) (fun _ _ => (V_nilCheck rfl rfl)) ?_
   | refine GH_take 1 rfl rfl rfl rfl (by kernel_rfl) (by kernel_rfl) (by kernel_rfl) (fun _ _ => (V_nilCheckF rfl rfl)) ?_
 refine GH_take 2 rfl rfl rfl rfl (by kernel_rfl) (by kernel_rfl) (by kernel_rfl) (fun _ _ => (V_fieldAddr (fo := 0) rfl Try.underlying136 rfl infWireW_109 rfl rfl rfl)) ?_
 refine GH_take 3 rfl rfl rfl rfl (by kernel_rfl) (by kernel_rfl) (by kernel_rfl) (fun _ _ => (V_move rfl rfl)) ?_
 first
   | refine GH_take 4 rfl rfl rfl rfl (by kernel_rfl) (by kernel_rfl) (by kernel_rfl) (fun _ _ => (V_nilCheck rfl rfl)) ?_
   | refine GH_take 4 rfl rfl rfl rfl (by kernel_rfl) (by kernel_rfl) (by kernel_rfl) (fun _ _ => (V_nilCheckF rfl rfl)) ?_
 refine GH_take 5 rfl rfl rfl rfl (by kernel_rfl) (by kernel_rfl) (by kernel_rfl) (fun _ _ => (V_load1 rfl rfl (mem_at 0 rfl) (nth_of hq) Try.underlying3 rfl)) ?_
 first
   | refine GH_take 6 rfl rfl rfl rfl (by kernel_rfl) (by kernel_rfl) (by kernel_rfl) (fun _ _ => ((V_conv rfl rfl Try.underlying3 Try.underlying94).int (wrap_u64 (by omega)))) ?_
   | refine GH_take 6 rfl rfl rfl rfl (by kernel_rfl) (by kernel_rfl) (by kernel_rfl) (fun _ _ => (V_conv rfl rfl Try.underlying3 Try.underlying94)) ?_
 refine GH_all [7] (by kernel_rfl) (by decide) ?_
 refine (And.intro ?_ trivial)
 · skip
   refine GHop_call (L2 := [_, _]) rfl rfl rfl rfl rfl rfl Try.call69 (ct_chain _ (by omega) (by omega)) [] [] rfl rfl [] (by rintro v post ⟨rfl, rfl⟩; exact ⟨_, rfl⟩) ?_
   rintro v post ⟨rfl, rfl⟩
   show GH _ _ _ _ _ _ _ [_, _] _
   refine GH_all [8] (by kernel_rfl) (by decide) ?_
   refine (And.intro ?_ trivial)
   · skip
     refine GHop_call (L2 := []) rfl rfl rfl rfl rfl rfl Try.call68 (cbld_write _ _ _ _ _ _ _ (by first | assumption | exact .inr rfl | exact .inl rfl) (by first | assumption | exact txt_nil) (by first | omega | (simp [rqCells, rqCells]; done) | (simp [rqCells, rqCells]; omega) | (simp [rqCells, rqCells] at *; omega))) [0, 0] [] rfl rfl [] (by rintro v post ⟨rfl, u1, hu1, rfl⟩; exact ⟨_, rfl⟩) ?_
     rintro v post ⟨rfl, u1, hu1, rfl⟩
     show GH _ _ _ _ _ _ _ [_, _] _
     refine GH_done (by kernel_rfl) ?_
     refine G_end (post := [_, _]) Try.func138 rfl RVs_nil [0, 0] rfl ?_
     dsimp only [packed]
     exact ⟨rfl, u1, hu1, rfl⟩

set_option maxRecDepth 100000 in
set_option maxHeartbeats 1000000 in
theorem w_text (bc bq : Nat) (p : Value) (u : Sl) (tx : List UInt8) (hp : UsedOr bc p) (hu : Txt u tx) (hs : tx.length ≤ 140737488340000) (qs : Array Value) (off : Nat) (s : List UInt8) (hx : s.length ≤ 100) (hq : qs[off]? = some (.string (bs s))) :
    Ct Try.prog 155 [.pointer (some ⟨bc, 0, none⟩), .pointer (some ⟨bq, off, none⟩)] [(some bq, .cells qs 40 (0, 0))] [(some bc, .cells #[p, u.v (tx).length, .pointer none, .bool false] 136 (0, 0)), (u.ob, .cells u.cs 5 u.fz)] fun v post => v = .tuple #[] ∧ ∃ u1, Txt u1 (tx ++ text s) ∧ post = [(some bc, .cells #[.pointer (some ⟨bc, 0, none⟩), u1.v (tx ++ text s).length, .pointer none, .bool false] 136 (0, 0)), (u1.ob, .cells u1.cs 5 u1.fz)] := by
 have hcl := text_len s (by omega)
 refine ct_of Try.func155 rfl rfl (fun w0 => ?_)
 show G _ _ [(0, _), (1, _)] _ _
 refine G_seq ?_
 refine G_seq ?_
 refine G_region (l := [0, 1, 2, 3]) rfl ?_
 refine G_val rfl rfl rfl rfl (V_move rfl rfl) ?_
 first
   | refine G_val rfl rfl rfl rfl (V_nilCheck rfl rfl) ?_
   | refine G_val rfl rfl rfl rfl (V_nilCheckF rfl rfl) ?_
 refine G_val rfl rfl rfl rfl (V_fieldAddr (fo := 3) rfl Try.underlying136 rfl infWireW_4 rfl rfl rfl) ?_
 refine G_val rfl rfl rfl rfl (V_load1 rfl rfl (mem_at 1 rfl) rfl Try.underlying4 rfl) ?_
 refine G_done ?_
 refine G_else rfl ?_
 refine G_skip ?_
 refine GH_start (Lq := []) (isq := []) (m := 8) mixedK rfl rfl ?_
 refine GH_take 0 rfl rfl rfl rfl (by kernel_rfl) (by kernel_rfl) (by kernel_rfl) (fun _ _ => (V_move rfl rfl)) ?_
 first
   | refine GH_take 1 rfl rfl rfl rfl (by kernel_rfl) (by kernel_rfl) (by kernel_rfl) (fun _ _ => (V_nilCheck rfl rfl)) ?_
   | refine GH_take 1 rfl rfl rfl rfl (by kernel_rfl) (by kernel_rfl) (by kernel_rfl) (fun _ _ => (V_nilCheckF rfl rfl)) ?_
 refine GH_take 2 rfl rfl rfl rfl (by kernel_rfl) (by kernel_rfl) (by kernel_rfl) (fun _ _ => (V_fieldAddr (fo := 0) rfl Try.underlying136 rfl infWireW_109 rfl rfl rfl)) ?_
 refine GH_take 3 rfl rfl rfl rfl (by kernel_rfl) (by kernel_rfl) (by kernel_rfl) (fun _ _ => (V_move rfl rfl)) ?_
 first
   | refine GH_take 4 rfl rfl rfl rfl (by kernel_rfl) (by kernel_rfl) (by kernel_rfl) (fun _ _ => (V_nilCheck rfl rfl)) ?_
   | refine GH_take 4 rfl rfl rfl rfl (by kernel_rfl) (by kernel_rfl) (by kernel_rfl) (fun _ _ => (V_nilCheckF rfl rfl)) ?_
 refine GH_take 5 rfl rfl rfl rfl (by kernel_rfl) (by kernel_rfl) (by kernel_rfl) (fun _ _ => (V_load1 rfl rfl (mem_at 0 rfl) (nth_of hq) Try.underlying9 rfl)) ?_
 refine GH_all [6] (by kernel_rfl) (by decide) ?_
 refine (And.intro ?_ trivial)
 · skip
   refine GHop_call (L2 := [_, _]) rfl rfl rfl rfl rfl rfl Try.call71 (ct_text _ (by first | omega | (simp; done) | (simp; omega) | (simp at *; omega))) [] [] rfl rfl [] (by rintro v post ⟨rfl, rfl⟩; exact ⟨_, rfl⟩) ?_
   rintro v post ⟨rfl, rfl⟩
   show GH _ _ _ _ _ _ _ [_, _] _
   refine GH_all [7] (by kernel_rfl) (by decide) ?_
   refine (And.intro ?_ trivial)
   · skip
     refine GHop_call (L2 := []) rfl rfl rfl rfl rfl rfl Try.call68 (cbld_write _ _ _ _ _ _ _ (by first | assumption | exact .inr rfl | exact .inl rfl) (by first | assumption | exact txt_nil) (by first | omega | (simp [rqCells, rqCells]; done) | (simp [rqCells, rqCells]; omega) | (simp [rqCells, rqCells] at *; omega))) [0, 0] [] rfl rfl [] (by rintro v post ⟨rfl, u1, hu1, rfl⟩; exact ⟨_, rfl⟩) ?_
     rintro v post ⟨rfl, u1, hu1, rfl⟩
     show GH _ _ _ _ _ _ _ [_, _] _
     refine GH_done (by kernel_rfl) ?_
     refine G_end (post := [_, _]) Try.func155 rfl RVs_nil [0, 0] rfl ?_
     dsimp only [packed]
     exact ⟨rfl, u1, hu1, rfl⟩

set_option maxRecDepth 100000 in
set_option maxHeartbeats 1000000 in
theorem w_flag (bc bq : Nat) (p : Value) (u : Sl) (tx : List UInt8) (hp : UsedOr bc p) (hu : Txt u tx) (hs : tx.length ≤ 140737488340000) (qs : Array Value) (off : Nat) (b : Bool) (hq : qs[off]? = some (.bool b)) :
    Ct Try.prog 156 [.pointer (some ⟨bc, 0, none⟩), .pointer (some ⟨bq, off, none⟩)] [(some bq, .cells qs 40 (0, 0))] [(some bc, .cells #[p, u.v (tx).length, .pointer none, .bool false] 136 (0, 0)), (u.ob, .cells u.cs 5 u.fz)] fun v post => v = .tuple #[] ∧ ∃ u1, Txt u1 (tx ++ chainI (if b then 1 else 0)) ∧ post = [(some bc, .cells #[.pointer (some ⟨bc, 0, none⟩), u1.v (tx ++ chainI (if b then 1 else 0)).length, .pointer none, .bool false] 136 (0, 0)), (u1.ob, .cells u1.cs 5 u1.fz)] := by
 have hcl1 := chainI_len 1 (by omega) (by omega)
 have hcl0 := chainI_len 0 (by omega) (by omega)
 refine ct_of Try.func156 rfl rfl (fun w0 => ?_)
 show G _ _ [(0, _), (1, _)] _ _
 refine G_block ?_
 refine G_seq ?_
 refine G_region (l := [0, 1, 2, 3, 4]) rfl ?_
 refine G_val rfl rfl rfl rfl (V_move rfl rfl) ?_
 first
   | refine G_val rfl rfl rfl rfl (V_nilCheck rfl rfl) ?_
   | refine G_val rfl rfl rfl rfl (V_nilCheckF rfl rfl) ?_
 refine G_val rfl rfl rfl rfl (V_fieldAddr (fo := 3) rfl Try.underlying136 rfl infWireW_4 rfl rfl rfl) ?_
 refine G_val rfl rfl rfl rfl (V_load1 rfl rfl (mem_at 1 rfl) rfl Try.underlying4 rfl) ?_
 refine G_val rfl rfl rfl rfl (V_assign rfl rfl) ?_
 refine G_done ?_
 refine G_else rfl ?_
 refine G_seq ?_
 cases b
 · skip
   refine G_region (l := [0, 1, 2, 3]) rfl ?_
   refine G_val rfl rfl rfl rfl (V_move rfl rfl) ?_
   first
     | refine G_val rfl rfl rfl rfl (V_nilCheck rfl rfl) ?_
     | refine G_val rfl rfl rfl rfl (V_nilCheckF rfl rfl) ?_
   refine G_val rfl rfl rfl rfl (V_load1 rfl rfl (mem_at 0 rfl) (nth_of hq) Try.underlying4 rfl) ?_
   refine G_val rfl rfl rfl rfl (V_assign rfl rfl) ?_
   refine G_done ?_
   refine G_if rfl (fun hc1 => ?_) (fun hc1 => ?_)
   · (first | (exact absurd rfl hc1) | (exact absurd hc1 Bool.false_ne_true) | (exact absurd hc1 (by decide)) | (exfalso; omega))
   refine GH_start (Lq := []) (isq := []) (m := 5) mixedK rfl rfl ?_
   refine GH_take 0 rfl rfl rfl rfl (by kernel_rfl) (by kernel_rfl) (by kernel_rfl) (fun _ _ => (V_move rfl rfl)) ?_
   first
     | refine GH_take 1 rfl rfl rfl rfl (by kernel_rfl) (by kernel_rfl) (by kernel_rfl) (fun _ _ => (V_nilCheck rfl rfl)) ?_
     | refine GH_take 1 rfl rfl rfl rfl (by kernel_rfl) (by kernel_rfl) (by kernel_rfl) (fun _ _ => (V_nilCheckF rfl rfl)) ?_
   refine GH_take 2 rfl rfl rfl rfl (by kernel_rfl) (by kernel_rfl) (by kernel_rfl) (fun _ _ => (V_fieldAddr (fo := 0) rfl Try.underlying136 rfl infWireW_109 rfl rfl rfl)) ?_
   refine GH_all [3] (by kernel_rfl) (by decide) ?_
   refine (And.intro ?_ trivial)
   · skip
     refine GHop_call (L2 := [_, _]) rfl rfl rfl rfl rfl rfl Try.call69 (ct_chain _ (by omega) (by omega)) [] [] rfl rfl [] (by rintro v post ⟨rfl, rfl⟩; exact ⟨_, rfl⟩) ?_
     rintro v post ⟨rfl, rfl⟩
     show GH _ _ _ _ _ _ _ [_, _] _
     refine GH_all [4] (by kernel_rfl) (by decide) ?_
     refine (And.intro ?_ trivial)
     · skip
       refine GHop_call (L2 := []) rfl rfl rfl rfl rfl rfl Try.call68 (cbld_write _ _ _ _ _ _ _ (by first | assumption | exact .inr rfl | exact .inl rfl) (by first | assumption | exact txt_nil) (by first | omega | (simp [rqCells, rqCells]; done) | (simp [rqCells, rqCells]; omega) | (simp [rqCells, rqCells] at *; omega))) [0, 0] [] rfl rfl [] (by rintro v post ⟨rfl, u1, hu1, rfl⟩; exact ⟨_, rfl⟩) ?_
       rintro v post ⟨rfl, u1, hu1, rfl⟩
       show GH _ _ _ _ _ _ _ [_, _] _
       refine GH_done (by kernel_rfl) ?_
       refine G_inBlock ?_
       refine G_end (post := [_, _]) Try.func156 rfl RVs_nil [0, 0] rfl ?_
       dsimp only [packed]
       exact ⟨rfl, u1, hu1, rfl⟩
 · skip
   refine G_region (l := [0, 1, 2, 3]) rfl ?_
   refine G_val rfl rfl rfl rfl (V_move rfl rfl) ?_
   first
     | refine G_val rfl rfl rfl rfl (V_nilCheck rfl rfl) ?_
     | refine G_val rfl rfl rfl rfl (V_nilCheckF rfl rfl) ?_
   refine G_val rfl rfl rfl rfl (V_load1 rfl rfl (mem_at 0 rfl) (nth_of hq) Try.underlying4 rfl) ?_
   refine G_val rfl rfl rfl rfl (V_assign rfl rfl) ?_
   refine G_done ?_
   refine G_if rfl (fun hc1 => ?_) (fun hc1 => ?_)
   rotate_left
   · (first | (exact absurd rfl hc1) | (exact absurd hc1 Bool.false_ne_true) | (exact absurd hc1 (by decide)) | (exfalso; omega))
   refine GH_start (Lq := []) (isq := []) (m := 5) mixedK rfl rfl ?_
   refine GH_take 0 rfl rfl rfl rfl (by kernel_rfl) (by kernel_rfl) (by kernel_rfl) (fun _ _ => (V_move rfl rfl)) ?_
   first
     | refine GH_take 1 rfl rfl rfl rfl (by kernel_rfl) (by kernel_rfl) (by kernel_rfl) (fun _ _ => (V_nilCheck rfl rfl)) ?_
     | refine GH_take 1 rfl rfl rfl rfl (by kernel_rfl) (by kernel_rfl) (by kernel_rfl) (fun _ _ => (V_nilCheckF rfl rfl)) ?_
   refine GH_take 2 rfl rfl rfl rfl (by kernel_rfl) (by kernel_rfl) (by kernel_rfl) (fun _ _ => (V_fieldAddr (fo := 0) rfl Try.underlying136 rfl infWireW_109 rfl rfl rfl)) ?_
   refine GH_all [3] (by kernel_rfl) (by decide) ?_
   refine (And.intro ?_ trivial)
   · skip
     refine GHop_call (L2 := [_, _]) rfl rfl rfl rfl rfl rfl Try.call69 (ct_chain _ (by omega) (by omega)) [] [] rfl rfl [] (by rintro v post ⟨rfl, rfl⟩; exact ⟨_, rfl⟩) ?_
     rintro v post ⟨rfl, rfl⟩
     show GH _ _ _ _ _ _ _ [_, _] _
     refine GH_all [4] (by kernel_rfl) (by decide) ?_
     refine (And.intro ?_ trivial)
     · skip
       refine GHop_call (L2 := []) rfl rfl rfl rfl rfl rfl Try.call68 (cbld_write _ _ _ _ _ _ _ (by first | assumption | exact .inr rfl | exact .inl rfl) (by first | assumption | exact txt_nil) (by first | omega | (simp [rqCells, rqCells]; done) | (simp [rqCells, rqCells]; omega) | (simp [rqCells, rqCells] at *; omega))) [0, 0] [] rfl rfl [] (by rintro v post ⟨rfl, u1, hu1, rfl⟩; exact ⟨_, rfl⟩) ?_
       rintro v post ⟨rfl, u1, hu1, rfl⟩
       show GH _ _ _ _ _ _ _ [_, _] _
       refine GH_done (by kernel_rfl) ?_
       refine G_inBlock ?_
       refine G_end (post := [_, _]) Try.func156 rfl RVs_nil [0, 0] rfl ?_
       dsimp only [packed]
       exact ⟨rfl, u1, hu1, rfl⟩

set_option maxRecDepth 100000 in
set_option maxHeartbeats 1000000 in
theorem r_num (bc bq br : Nat) (l : List UInt8) (e : Nat) (hl : l.length ≤ 140737488350000) (he : e ≤ 1000) (qs : Array Value) (off : Nat) (ho : off < qs.size) :
    Ct Try.prog 138 [.pointer (some ⟨bc, 0, none⟩), .pointer (some ⟨bq, off, none⟩)] [(some bc, .cells #[.pointer none, .slice none 0 0, .pointer (some ⟨br, 0, none⟩), .bool true] 136 (0, 0))] [(some bq, .cells qs 40 (0, 0)), (some br, .cells #[.string (bs l), .int .i64 ((e : Nat) : Int)] 175 (0, 0))] fun v post => v = .tuple #[] ∧ post = [(some bq, .cells (qs.setIfInBounds off (.int .i64 (((rdInt 1099511627776 l e).1 : Nat) : Int))) 40 (0, 0)), (some br, .cells #[.string (bs (rdInt 1099511627776 l e).2.1), .int .i64 (((rdInt 1099511627776 l e).2.2 : Nat) : Int)] 175 (0, 0))] := by
 refine ct_of Try.func138 rfl rfl (fun w0 => ?_)
 show G _ _ [(0, _), (1, _)] _ _
 refine G_seq ?_
 refine G_seq ?_
 refine G_region (l := [0, 1, 2, 3]) rfl ?_
 refine G_val rfl rfl rfl rfl (V_move rfl rfl) ?_
 first
   | refine G_val rfl rfl rfl rfl (V_nilCheck rfl rfl) ?_
   | refine G_val rfl rfl rfl rfl (V_nilCheckF rfl rfl) ?_
 refine G_val rfl rfl rfl rfl (V_fieldAddr (fo := 3) rfl Try.underlying136 rfl infWireW_4 rfl rfl rfl) ?_
 refine G_val rfl rfl rfl rfl (V_load1 rfl rfl (mem_at 0 rfl) rfl Try.underlying4 rfl) ?_
 refine G_done ?_
 refine G_then rfl ?_
 refine G_seq ?_
 refine G_region (l := [0, 1, 2, 3, 4, 5, 6, 7]) rfl ?_
 refine G_val rfl rfl rfl rfl (V_move rfl rfl) ?_
 refine G_val rfl rfl rfl rfl (V_move rfl rfl) ?_
 first
   | refine G_val rfl rfl rfl rfl (V_nilCheck rfl rfl) ?_
   | refine G_val rfl rfl rfl rfl (V_nilCheckF rfl rfl) ?_
 refine G_val rfl rfl rfl rfl (V_fieldAddr (fo := 2) rfl Try.underlying136 rfl infWireW_127 rfl rfl rfl) ?_
 refine G_val rfl rfl rfl rfl (V_load1 rfl rfl (mem_at 0 rfl) rfl Try.underlying127 rfl) ?_
 refine G_call (L2 := [_]) rfl rfl rfl rfl rfl rfl Try.call86 (rd_int _ _ _ _ (by first | omega | (simp [rqCells, rqCells]; done) | (simp [rqCells, rqCells]; omega) | (simp [rqCells, rqCells] at *; omega)) (by omega) ⟨by omega, by omega⟩) [1] [] rfl rfl ?_
 rintro v post ⟨rfl, rfl⟩
 show G _ _ _ [_, _] _
 first
   | refine G_val rfl rfl rfl rfl (V_nilCheck rfl rfl) ?_
   | refine G_val rfl rfl rfl rfl (V_nilCheckF rfl rfl) ?_
 refine G_put (l1 := [_]) (L' := [_, _]) rfl rfl rfl rfl (P_store1 rfl rfl rfl (mem_at 1 rfl) (by first | exact of_decide_eq_true rfl | omega | (simp [rqCells, rqCells]; done) | (simp [rqCells, rqCells]; omega) | (simp [rqCells, rqCells] at *; omega)) infWireW_3 rfl rfl) rfl ?_
 refine G_done ?_
 refine G_ret (post := [_, _]) Try.func138 rfl RVs_nil [1, 0] rfl ?_
 dsimp only [packed]
 exact ⟨rfl, rfl⟩

set_option maxRecDepth 100000 in
set_option maxHeartbeats 1000000 in
theorem r_text (bc bq br : Nat) (l : List UInt8) (e : Nat) (hl : l.length ≤ 140737488350000) (he : e ≤ 1000) (qs : Array Value) (off : Nat) (ho : off < qs.size) :
    Ct Try.prog 155 [.pointer (some ⟨bc, 0, none⟩), .pointer (some ⟨bq, off, none⟩)] [(some bc, .cells #[.pointer none, .slice none 0 0, .pointer (some ⟨br, 0, none⟩), .bool true] 136 (0, 0))] [(some bq, .cells qs 40 (0, 0)), (some br, .cells #[.string (bs l), .int .i64 ((e : Nat) : Int)] 175 (0, 0))] fun v post => v = .tuple #[] ∧ post = [(some bq, .cells (qs.setIfInBounds off (.string (bs (rdStr 100 l e).1))) 40 (0, 0)), (some br, .cells #[.string (bs (rdStr 100 l e).2.1), .int .i64 (((rdStr 100 l e).2.2 : Nat) : Int)] 175 (0, 0))] := by
 refine ct_of Try.func155 rfl rfl (fun w0 => ?_)
 show G _ _ [(0, _), (1, _)] _ _
 refine G_seq ?_
 refine G_seq ?_
 refine G_region (l := [0, 1, 2, 3]) rfl ?_
 refine G_val rfl rfl rfl rfl (V_move rfl rfl) ?_
 first
   | refine G_val rfl rfl rfl rfl (V_nilCheck rfl rfl) ?_
   | refine G_val rfl rfl rfl rfl (V_nilCheckF rfl rfl) ?_
 refine G_val rfl rfl rfl rfl (V_fieldAddr (fo := 3) rfl Try.underlying136 rfl infWireW_4 rfl rfl rfl) ?_
 refine G_val rfl rfl rfl rfl (V_load1 rfl rfl (mem_at 0 rfl) rfl Try.underlying4 rfl) ?_
 refine G_done ?_
 refine G_then rfl ?_
 refine G_seq ?_
 refine G_region (l := [0, 1, 2, 3, 4, 5, 6, 7]) rfl ?_
 refine G_val rfl rfl rfl rfl (V_move rfl rfl) ?_
 refine G_val rfl rfl rfl rfl (V_move rfl rfl) ?_
 first
   | refine G_val rfl rfl rfl rfl (V_nilCheck rfl rfl) ?_
   | refine G_val rfl rfl rfl rfl (V_nilCheckF rfl rfl) ?_
 refine G_val rfl rfl rfl rfl (V_fieldAddr (fo := 2) rfl Try.underlying136 rfl infWireW_127 rfl rfl rfl) ?_
 refine G_val rfl rfl rfl rfl (V_load1 rfl rfl (mem_at 0 rfl) rfl Try.underlying127 rfl) ?_
 refine G_call (L2 := [_]) rfl rfl rfl rfl rfl rfl Try.call87 (rd_str _ _ _ _ (by first | omega | (simp [rqCells, rqCells]; done) | (simp [rqCells, rqCells]; omega) | (simp [rqCells, rqCells] at *; omega)) (by omega) ⟨by omega, by omega⟩) [1] [] rfl rfl ?_
 rintro v post ⟨rfl, rfl⟩
 show G _ _ _ [_, _] _
 first
   | refine G_val rfl rfl rfl rfl (V_nilCheck rfl rfl) ?_
   | refine G_val rfl rfl rfl rfl (V_nilCheckF rfl rfl) ?_
 refine G_put (l1 := [_]) (L' := [_, _]) rfl rfl rfl rfl (P_store1 rfl rfl rfl (mem_at 1 rfl) (by first | exact of_decide_eq_true rfl | omega | (simp [rqCells, rqCells]; done) | (simp [rqCells, rqCells]; omega) | (simp [rqCells, rqCells] at *; omega)) infWireW_9 rfl rfl) rfl ?_
 refine G_done ?_
 refine G_ret (post := [_, _]) Try.func155 rfl RVs_nil [1, 0] rfl ?_
 dsimp only [packed]
 exact ⟨rfl, rfl⟩

set_option maxRecDepth 100000 in
set_option maxHeartbeats 1000000 in
theorem r_flag (bc bq br : Nat) (l : List UInt8) (e : Nat) (hl : l.length ≤ 140737488350000) (he : e ≤ 1000) (qs : Array Value) (off : Nat) (ho : off < qs.size) :
    Ct Try.prog 156 [.pointer (some ⟨bc, 0, none⟩), .pointer (some ⟨bq, off, none⟩)] [(some bc, .cells #[.pointer none, .slice none 0 0, .pointer (some ⟨br, 0, none⟩), .bool true] 136 (0, 0))] [(some bq, .cells qs 40 (0, 0)), (some br, .cells #[.string (bs l), .int .i64 ((e : Nat) : Int)] 175 (0, 0))] fun v post => v = .tuple #[] ∧ post = [(some bq, .cells (qs.setIfInBounds off (.bool (rdFlag l e).1)) 40 (0, 0)), (some br, .cells #[.string (bs (rdFlag l e).2.1), .int .i64 (((rdFlag l e).2.2 : Nat) : Int)] 175 (0, 0))] := by
 refine ct_of Try.func156 rfl rfl (fun w0 => ?_)
 show G _ _ [(0, _), (1, _)] _ _
 refine G_block ?_
 refine G_seq ?_
 refine G_region (l := [0, 1, 2, 3, 4]) rfl ?_
 refine G_val rfl rfl rfl rfl (V_move rfl rfl) ?_
 first
   | refine G_val rfl rfl rfl rfl (V_nilCheck rfl rfl) ?_
   | refine G_val rfl rfl rfl rfl (V_nilCheckF rfl rfl) ?_
 refine G_val rfl rfl rfl rfl (V_fieldAddr (fo := 3) rfl Try.underlying136 rfl infWireW_4 rfl rfl rfl) ?_
 refine G_val rfl rfl rfl rfl (V_load1 rfl rfl (mem_at 0 rfl) rfl Try.underlying4 rfl) ?_
 refine G_val rfl rfl rfl rfl (V_assign rfl rfl) ?_
 refine G_done ?_
 refine G_then rfl ?_
 refine G_region (l := [0, 1, 2, 3, 4, 5, 6, 7]) rfl ?_
 refine G_val rfl rfl rfl rfl (V_move rfl rfl) ?_
 refine G_val rfl rfl rfl rfl (V_move rfl rfl) ?_
 first
   | refine G_val rfl rfl rfl rfl (V_nilCheck rfl rfl) ?_
   | refine G_val rfl rfl rfl rfl (V_nilCheckF rfl rfl) ?_
 refine G_val rfl rfl rfl rfl (V_fieldAddr (fo := 2) rfl Try.underlying136 rfl infWireW_127 rfl rfl rfl) ?_
 refine G_val rfl rfl rfl rfl (V_load1 rfl rfl (mem_at 0 rfl) rfl Try.underlying127 rfl) ?_
 refine G_call (L2 := [_]) rfl rfl rfl rfl rfl rfl Try.call163 (rd_flag _ _ _ (by first | omega | (simp [rqCells, rqCells]; done) | (simp [rqCells, rqCells]; omega) | (simp [rqCells, rqCells] at *; omega)) (by omega)) [1] [] rfl rfl ?_
 rintro v post ⟨rfl, rfl⟩
 show G _ _ _ [_, _] _
 first
   | refine G_val rfl rfl rfl rfl (V_nilCheck rfl rfl) ?_
   | refine G_val rfl rfl rfl rfl (V_nilCheckF rfl rfl) ?_
 refine G_put (l1 := [_]) (L' := [_, _]) rfl rfl rfl rfl (P_store1 rfl rfl rfl (mem_at 1 rfl) (by first | exact of_decide_eq_true rfl | omega | (simp [rqCells, rqCells]; done) | (simp [rqCells, rqCells]; omega) | (simp [rqCells, rqCells] at *; omega)) infWireW_4 rfl rfl) rfl ?_
 refine G_done ?_
 refine G_inBlock ?_
 refine G_end (post := [_, _]) Try.func156 rfl RVs_nil [1, 0] rfl ?_
 dsimp only [packed]
 exact ⟨rfl, rfl⟩


def tTab (b : Nat) : List (Int × Value) := [(116, .pointer (some ⟨b, 1, none⟩)), (105, .pointer (some ⟨b, 2, none⟩)), (110, .pointer (some ⟨b, 3, none⟩)), (107, .pointer (some ⟨b, 4, none⟩)), (99, .pointer (some ⟨b, 5, none⟩)), (112, .pointer (some ⟨b, 6, none⟩))]
def nTab (b : Nat) : List (Int × Value) := [(111, .pointer (some ⟨b, 7, none⟩)), (101, .pointer (some ⟨b, 8, none⟩)), (119, .pointer (some ⟨b, 9, none⟩)), (120, .pointer (some ⟨b, 10, none⟩)), (108, .pointer (some ⟨b, 11, none⟩)), (114, .pointer (some ⟨b, 12, none⟩)), (100, .pointer (some ⟨b, 13, none⟩)), (102, .pointer (some ⟨b, 14, none⟩)), (109, .pointer (some ⟨b, 15, none⟩))]
theorem tTab_nd (b : Nat) : ((tTab b).map (·.1)).Nodup := by show [116, 105, 110, 107, 99, 112].Nodup; decide
theorem nTab_nd (b : Nat) : ((nTab b).map (·.1)).Nodup := by show [111, 101, 119, 120, 108, 114, 100, 102, 109].Nodup; decide
theorem tfind {b : Nat} {c : Int} {i : Nat} {d : List (Int × Value)} (h : textIdx c = some i) (hd : d.Perm (tTab b)) : ∃ m, Instr.findNow (.int .i32) (.int .i32 c) (entries .i32 d 0) 0 = some (some (m, .pointer (some ⟨b, i, none⟩))) := by
  refine find_perm hd (tTab_nd b) ?_
  unfold textIdx at h
  unfold tTab
  repeat' split at h
  all_goals first | (cases h; subst_vars; simp; done) | cases h
theorem nfind {b : Nat} {c : Int} {i : Nat} {d : List (Int × Value)} (h : numIdx c = some i) (hd : d.Perm (nTab b)) : ∃ m, Instr.findNow (.int .i32) (.int .i32 c) (entries .i32 d 0) 0 = some (some (m, .pointer (some ⟨b, i, none⟩))) := by
  refine find_perm hd (nTab_nd b) ?_
  unfold numIdx at h
  unfold nTab
  repeat' split at h
  all_goals first | (cases h; subst_vars; simp; done) | cases h
theorem tfindN {b : Nat} {c : Int} {d : List (Int × Value)} (h : textIdx c = none) (hd : d.Perm (tTab b)) : Instr.findNow (.int .i32) (.int .i32 c) (entries .i32 d 0) 0 = some none := by
  refine find_permN hd ?_
  unfold textIdx at h
  repeat' split at h
  all_goals first | (cases h; done) | skip
  intro p hp
  simp only [tTab, List.mem_cons, List.not_mem_nil, or_false] at hp
  rcases hp with rfl | rfl | rfl | rfl | rfl | rfl <;> simp only <;> omega
theorem nfindN {b : Nat} {c : Int} {d : List (Int × Value)} (h : numIdx c = none) (hd : d.Perm (nTab b)) : Instr.findNow (.int .i32) (.int .i32 c) (entries .i32 d 0) 0 = some none := by
  refine find_permN hd ?_
  unfold numIdx at h
  repeat' split at h
  all_goals first | (cases h; done) | skip
  intro p hp
  simp only [nTab, List.mem_cons, List.not_mem_nil, or_false] at hp
  rcases hp with rfl | rfl | rfl | rfl | rfl | rfl | rfl | rfl | rfl <;> simp only <;> omega

set_option maxRecDepth 100000 in
set_option maxHeartbeats 1000000 in
theorem w_field (bc bq : Nat) (p : Value) (u : Sl) (tx : List UInt8) (hp : UsedOr bc p) (hu : Txt u tx) (hs : tx.length ≤ 140737488340000) (q : Rq) (c : Int) (hf : FOk q c) :
    Ct Try.prog 139 [.pointer (some ⟨bc, 0, none⟩), .pointer (some ⟨bq, 0, none⟩), .int .i32 c] [(some bq, .cells (rqCells q).toArray 40 (0, 0))] [(some bc, .cells #[p, u.v (tx).length, .pointer none, .bool false] 136 (0, 0)), (u.ob, .cells u.cs 5 u.fz)] fun v post => v = .tuple #[] ∧ ∃ u1, Txt u1 (tx ++ encF q c) ∧ post = [(some bc, .cells #[.pointer (some ⟨bc, 0, none⟩), u1.v (tx ++ encF q c).length, .pointer none, .bool false] 136 (0, 0)), (u1.ob, .cells u1.cs 5 u1.fz)] := by
 refine ct_of Try.func139 rfl rfl (fun w0 => ?_)
 show G _ _ [(0, _), (1, _), (2, _)] _ _
 refine G_seq ?_
 refine GH_start (Lq := []) (isq := []) (m := 27) mixedK rfl rfl ?_
 refine GH_take 1 rfl rfl rfl rfl (by kernel_rfl) (by kernel_rfl) (by kernel_rfl) (fun _ _ => (V_move rfl rfl)) ?_
 first
   | refine GH_take 2 rfl rfl rfl rfl (by kernel_rfl) (by kernel_rfl) (by kernel_rfl) (fun _ _ => (V_nilCheck rfl rfl)) ?_
   | refine GH_take 2 rfl rfl rfl rfl (by kernel_rfl) (by kernel_rfl) (by kernel_rfl) (fun _ _ => (V_nilCheckF rfl rfl)) ?_
 refine GH_take 3 rfl rfl rfl rfl (by kernel_rfl) (by kernel_rfl) (by kernel_rfl) (fun _ _ => (V_fieldAddr (fo := 1) rfl Try.underlying40 rfl infWireW_9 rfl rfl rfl)) ?_
 refine GH_take 5 rfl rfl rfl rfl (by kernel_rfl) (by kernel_rfl) (by kernel_rfl) (fun _ _ => (V_move rfl rfl)) ?_
 first
   | refine GH_take 6 rfl rfl rfl rfl (by kernel_rfl) (by kernel_rfl) (by kernel_rfl) (fun _ _ => (V_nilCheck rfl rfl)) ?_
   | refine GH_take 6 rfl rfl rfl rfl (by kernel_rfl) (by kernel_rfl) (by kernel_rfl) (fun _ _ => (V_nilCheckF rfl rfl)) ?_
 refine GH_take 7 rfl rfl rfl rfl (by kernel_rfl) (by kernel_rfl) (by kernel_rfl) (fun _ _ => (V_fieldAddr (fo := 2) rfl Try.underlying40 rfl infWireW_9 rfl rfl rfl)) ?_
 refine GH_take 9 rfl rfl rfl rfl (by kernel_rfl) (by kernel_rfl) (by kernel_rfl) (fun _ _ => (V_move rfl rfl)) ?_
 first
   | refine GH_take 10 rfl rfl rfl rfl (by kernel_rfl) (by kernel_rfl) (by kernel_rfl) (fun _ _ => (V_nilCheck rfl rfl)) ?_
   | refine GH_take 10 rfl rfl rfl rfl (by kernel_rfl) (by kernel_rfl) (by kernel_rfl) (fun _ _ => (V_nilCheckF rfl rfl)) ?_
 refine GH_take 11 rfl rfl rfl rfl (by kernel_rfl) (by kernel_rfl) (by kernel_rfl) (fun _ _ => (V_fieldAddr (fo := 3) rfl Try.underlying40 rfl infWireW_9 rfl rfl rfl)) ?_
 refine GH_take 13 rfl rfl rfl rfl (by kernel_rfl) (by kernel_rfl) (by kernel_rfl) (fun _ _ => (V_move rfl rfl)) ?_
 first
   | refine GH_take 14 rfl rfl rfl rfl (by kernel_rfl) (by kernel_rfl) (by kernel_rfl) (fun _ _ => (V_nilCheck rfl rfl)) ?_
   | refine GH_take 14 rfl rfl rfl rfl (by kernel_rfl) (by kernel_rfl) (by kernel_rfl) (fun _ _ => (V_nilCheckF rfl rfl)) ?_
 refine GH_take 15 rfl rfl rfl rfl (by kernel_rfl) (by kernel_rfl) (by kernel_rfl) (fun _ _ => (V_fieldAddr (fo := 4) rfl Try.underlying40 rfl infWireW_9 rfl rfl rfl)) ?_
 refine GH_take 17 rfl rfl rfl rfl (by kernel_rfl) (by kernel_rfl) (by kernel_rfl) (fun _ _ => (V_move rfl rfl)) ?_
 first
   | refine GH_take 18 rfl rfl rfl rfl (by kernel_rfl) (by kernel_rfl) (by kernel_rfl) (fun _ _ => (V_nilCheck rfl rfl)) ?_
   | refine GH_take 18 rfl rfl rfl rfl (by kernel_rfl) (by kernel_rfl) (by kernel_rfl) (fun _ _ => (V_nilCheckF rfl rfl)) ?_
 refine GH_take 19 rfl rfl rfl rfl (by kernel_rfl) (by kernel_rfl) (by kernel_rfl) (fun _ _ => (V_fieldAddr (fo := 5) rfl Try.underlying40 rfl infWireW_9 rfl rfl rfl)) ?_
 refine GH_take 21 rfl rfl rfl rfl (by kernel_rfl) (by kernel_rfl) (by kernel_rfl) (fun _ _ => (V_move rfl rfl)) ?_
 first
   | refine GH_take 22 rfl rfl rfl rfl (by kernel_rfl) (by kernel_rfl) (by kernel_rfl) (fun _ _ => (V_nilCheck rfl rfl)) ?_
   | refine GH_take 22 rfl rfl rfl rfl (by kernel_rfl) (by kernel_rfl) (by kernel_rfl) (fun _ _ => (V_nilCheckF rfl rfl)) ?_
 refine GH_take 23 rfl rfl rfl rfl (by kernel_rfl) (by kernel_rfl) (by kernel_rfl) (fun _ _ => (V_fieldAddr (fo := 6) rfl Try.underlying40 rfl infWireW_9 rfl rfl rfl)) ?_
 refine GH_all [0] (by kernel_rfl) (by decide) ?_
 refine (And.intro ?_ trivial)
 · skip
   refine GHop_new rfl rfl rfl rfl (N_map rfl) [] (fun _ => ⟨_, rfl⟩) (fun b10 => ?_)
   refine GH_inserts (m := 6) (F := #[true, true, true, true, true, true, true, true, true, true, true, true, true, true, true, true, true, true, true, true, true, true, true, true, true, false, false]) (l1 := []) (q := .i32) Try.underlying213 Try.underlying21 (InsAll_cons 4 rfl rfl rfl rfl rfl rfl rfl (InsAll_cons 8 rfl rfl rfl rfl rfl rfl rfl (InsAll_cons 12 rfl rfl rfl rfl rfl rfl rfl (InsAll_cons 16 rfl rfl rfl rfl rfl rfl rfl (InsAll_cons 20 rfl rfl rfl rfl rfl rfl rfl (InsAll_cons 24 rfl rfl rfl rfl rfl rfl rfl InsAll_nil)))))) rfl (by simp only [List.map_cons, List.map_nil]; decide) (by simp only [List.map_cons, List.map_nil]; decide) (by kernel_rfl) ?_
   intro dn10 hdn10
   show GH _ _ _ _ _ _ _ [_, _, _] _
   refine GH_take 25 rfl rfl rfl rfl (by kernel_rfl) (by kernel_rfl) (by kernel_rfl) (fun _ _ => (V_move rfl rfl)) ?_
   refine GH_take 26 rfl rfl rfl rfl (by kernel_rfl) (by kernel_rfl) (by kernel_rfl) (fun _ _ => (V_assign rfl rfl)) ?_
   refine GH_done (by kernel_rfl) ?_
   refine G_seq ?_
   refine GH_start (Lq := []) (isq := []) (m := 39) mixedK rfl rfl ?_
   refine GH_take 1 rfl rfl rfl rfl (by kernel_rfl) (by kernel_rfl) (by kernel_rfl) (fun _ _ => (V_move rfl rfl)) ?_
   first
     | refine GH_take 2 rfl rfl rfl rfl (by kernel_rfl) (by kernel_rfl) (by kernel_rfl) (fun _ _ => (V_nilCheck rfl rfl)) ?_
     | refine GH_take 2 rfl rfl rfl rfl (by kernel_rfl) (by kernel_rfl) (by kernel_rfl) (fun _ _ => (V_nilCheckF rfl rfl)) ?_
   refine GH_take 3 rfl rfl rfl rfl (by kernel_rfl) (by kernel_rfl) (by kernel_rfl) (fun _ _ => (V_fieldAddr (fo := 7) rfl Try.underlying40 rfl infWireW_3 rfl rfl rfl)) ?_
   refine GH_take 5 rfl rfl rfl rfl (by kernel_rfl) (by kernel_rfl) (by kernel_rfl) (fun _ _ => (V_move rfl rfl)) ?_
   first
     | refine GH_take 6 rfl rfl rfl rfl (by kernel_rfl) (by kernel_rfl) (by kernel_rfl) (fun _ _ => (V_nilCheck rfl rfl)) ?_
     | refine GH_take 6 rfl rfl rfl rfl (by kernel_rfl) (by kernel_rfl) (by kernel_rfl) (fun _ _ => (V_nilCheckF rfl rfl)) ?_
   refine GH_take 7 rfl rfl rfl rfl (by kernel_rfl) (by kernel_rfl) (by kernel_rfl) (fun _ _ => (V_fieldAddr (fo := 8) rfl Try.underlying40 rfl infWireW_3 rfl rfl rfl)) ?_
   refine GH_take 9 rfl rfl rfl rfl (by kernel_rfl) (by kernel_rfl) (by kernel_rfl) (fun _ _ => (V_move rfl rfl)) ?_
   first
     | refine GH_take 10 rfl rfl rfl rfl (by kernel_rfl) (by kernel_rfl) (by kernel_rfl) (fun _ _ => (V_nilCheck rfl rfl)) ?_
     | refine GH_take 10 rfl rfl rfl rfl (by kernel_rfl) (by kernel_rfl) (by kernel_rfl) (fun _ _ => (V_nilCheckF rfl rfl)) ?_
   refine GH_take 11 rfl rfl rfl rfl (by kernel_rfl) (by kernel_rfl) (by kernel_rfl) (fun _ _ => (V_fieldAddr (fo := 9) rfl Try.underlying40 rfl infWireW_3 rfl rfl rfl)) ?_
   refine GH_take 13 rfl rfl rfl rfl (by kernel_rfl) (by kernel_rfl) (by kernel_rfl) (fun _ _ => (V_move rfl rfl)) ?_
   first
     | refine GH_take 14 rfl rfl rfl rfl (by kernel_rfl) (by kernel_rfl) (by kernel_rfl) (fun _ _ => (V_nilCheck rfl rfl)) ?_
     | refine GH_take 14 rfl rfl rfl rfl (by kernel_rfl) (by kernel_rfl) (by kernel_rfl) (fun _ _ => (V_nilCheckF rfl rfl)) ?_
   refine GH_take 15 rfl rfl rfl rfl (by kernel_rfl) (by kernel_rfl) (by kernel_rfl) (fun _ _ => (V_fieldAddr (fo := 10) rfl Try.underlying40 rfl infWireW_3 rfl rfl rfl)) ?_
   refine GH_take 17 rfl rfl rfl rfl (by kernel_rfl) (by kernel_rfl) (by kernel_rfl) (fun _ _ => (V_move rfl rfl)) ?_
   first
     | refine GH_take 18 rfl rfl rfl rfl (by kernel_rfl) (by kernel_rfl) (by kernel_rfl) (fun _ _ => (V_nilCheck rfl rfl)) ?_
     | refine GH_take 18 rfl rfl rfl rfl (by kernel_rfl) (by kernel_rfl) (by kernel_rfl) (fun _ _ => (V_nilCheckF rfl rfl)) ?_
   refine GH_take 19 rfl rfl rfl rfl (by kernel_rfl) (by kernel_rfl) (by kernel_rfl) (fun _ _ => (V_fieldAddr (fo := 11) rfl Try.underlying40 rfl infWireW_3 rfl rfl rfl)) ?_
   refine GH_take 21 rfl rfl rfl rfl (by kernel_rfl) (by kernel_rfl) (by kernel_rfl) (fun _ _ => (V_move rfl rfl)) ?_
   first
     | refine GH_take 22 rfl rfl rfl rfl (by kernel_rfl) (by kernel_rfl) (by kernel_rfl) (fun _ _ => (V_nilCheck rfl rfl)) ?_
     | refine GH_take 22 rfl rfl rfl rfl (by kernel_rfl) (by kernel_rfl) (by kernel_rfl) (fun _ _ => (V_nilCheckF rfl rfl)) ?_
   refine GH_take 23 rfl rfl rfl rfl (by kernel_rfl) (by kernel_rfl) (by kernel_rfl) (fun _ _ => (V_fieldAddr (fo := 12) rfl Try.underlying40 rfl infWireW_3 rfl rfl rfl)) ?_
   refine GH_take 25 rfl rfl rfl rfl (by kernel_rfl) (by kernel_rfl) (by kernel_rfl) (fun _ _ => (V_move rfl rfl)) ?_
   first
     | refine GH_take 26 rfl rfl rfl rfl (by kernel_rfl) (by kernel_rfl) (by kernel_rfl) (fun _ _ => (V_nilCheck rfl rfl)) ?_
     | refine GH_take 26 rfl rfl rfl rfl (by kernel_rfl) (by kernel_rfl) (by kernel_rfl) (fun _ _ => (V_nilCheckF rfl rfl)) ?_
   refine GH_take 27 rfl rfl rfl rfl (by kernel_rfl) (by kernel_rfl) (by kernel_rfl) (fun _ _ => (V_fieldAddr (fo := 13) rfl Try.underlying40 rfl infWireW_3 rfl rfl rfl)) ?_
   refine GH_take 29 rfl rfl rfl rfl (by kernel_rfl) (by kernel_rfl) (by kernel_rfl) (fun _ _ => (V_move rfl rfl)) ?_
   first
     | refine GH_take 30 rfl rfl rfl rfl (by kernel_rfl) (by kernel_rfl) (by kernel_rfl) (fun _ _ => (V_nilCheck rfl rfl)) ?_
     | refine GH_take 30 rfl rfl rfl rfl (by kernel_rfl) (by kernel_rfl) (by kernel_rfl) (fun _ _ => (V_nilCheckF rfl rfl)) ?_
   refine GH_take 31 rfl rfl rfl rfl (by kernel_rfl) (by kernel_rfl) (by kernel_rfl) (fun _ _ => (V_fieldAddr (fo := 14) rfl Try.underlying40 rfl infWireW_3 rfl rfl rfl)) ?_
   refine GH_take 33 rfl rfl rfl rfl (by kernel_rfl) (by kernel_rfl) (by kernel_rfl) (fun _ _ => (V_move rfl rfl)) ?_
   first
     | refine GH_take 34 rfl rfl rfl rfl (by kernel_rfl) (by kernel_rfl) (by kernel_rfl) (fun _ _ => (V_nilCheck rfl rfl)) ?_
     | refine GH_take 34 rfl rfl rfl rfl (by kernel_rfl) (by kernel_rfl) (by kernel_rfl) (fun _ _ => (V_nilCheckF rfl rfl)) ?_
   refine GH_take 35 rfl rfl rfl rfl (by kernel_rfl) (by kernel_rfl) (by kernel_rfl) (fun _ _ => (V_fieldAddr (fo := 15) rfl Try.underlying40 rfl infWireW_3 rfl rfl rfl)) ?_
   refine GH_all [0] (by kernel_rfl) (by decide) ?_
   refine (And.intro ?_ trivial)
   · skip
     refine GHop_new rfl rfl rfl rfl (N_map rfl) [] (fun _ => ⟨_, rfl⟩) (fun b30 => ?_)
     refine GH_inserts (m := 9) (F := #[true, true, true, true, true, true, true, true, true, true, true, true, true, true, true, true, true, true, true, true, true, true, true, true, true, true, true, true, true, true, true, true, true, true, true, true, true, false, false]) (l1 := []) (q := .i32) Try.underlying214 Try.underlying21 (InsAll_cons 4 rfl rfl rfl rfl rfl rfl rfl (InsAll_cons 8 rfl rfl rfl rfl rfl rfl rfl (InsAll_cons 12 rfl rfl rfl rfl rfl rfl rfl (InsAll_cons 16 rfl rfl rfl rfl rfl rfl rfl (InsAll_cons 20 rfl rfl rfl rfl rfl rfl rfl (InsAll_cons 24 rfl rfl rfl rfl rfl rfl rfl (InsAll_cons 28 rfl rfl rfl rfl rfl rfl rfl (InsAll_cons 32 rfl rfl rfl rfl rfl rfl rfl (InsAll_cons 36 rfl rfl rfl rfl rfl rfl rfl InsAll_nil))))))))) rfl (by simp only [List.map_cons, List.map_nil]; decide) (by simp only [List.map_cons, List.map_nil]; decide) (by kernel_rfl) ?_
     intro dn30 hdn30
     show GH _ _ _ _ _ _ _ [_, _, _, _] _
     refine GH_take 37 rfl rfl rfl rfl (by kernel_rfl) (by kernel_rfl) (by kernel_rfl) (fun _ _ => (V_move rfl rfl)) ?_
     refine GH_take 38 rfl rfl rfl rfl (by kernel_rfl) (by kernel_rfl) (by kernel_rfl) (fun _ _ => (V_assign rfl rfl)) ?_
     refine GH_done (by kernel_rfl) ?_
     refine G_seq ?_
     refine G_seq ?_
     rcases letter3 c with ⟨i, htx, hnx, hb1, hb2⟩ | ⟨i, htx, hnx, hb1, hb2⟩ | ⟨htx, hnx⟩
     · skip
       refine G_region (l := [0, 1, 2, 3]) rfl ?_
       refine G_val rfl rfl rfl rfl (V_move rfl rfl) ?_
       refine G_val rfl rfl rfl rfl (V_move rfl rfl) ?_
       refine G_val rfl rfl rfl rfl (V_lookup rfl Try.underlying213 Try.underlying21 rfl rfl rfl (mem_at 2 rfl) (tfind (b := bq) htx hdn10).choose_spec) ?_
       refine G_val rfl rfl rfl rfl (V_assign rfl rfl) ?_
       refine G_done ?_
       refine G_seq ?_
       refine G_region (l := [0, 1]) rfl ?_
       refine G_val rfl rfl rfl rfl (V_move rfl rfl) ?_
       refine G_val rfl rfl rfl rfl (V_pneqN rfl Try.underlying187 rfl rfl) ?_
       refine G_done ?_
       refine G_then rfl ?_
       refine G_seq ?_
       refine G_region (l := [0, 1, 2]) rfl ?_
       refine G_val rfl rfl rfl rfl (V_move rfl rfl) ?_
       refine G_val rfl rfl rfl rfl (V_move rfl rfl) ?_
       refine G_call (L2 := [_, _]) rfl rfl rfl rfl rfl rfl Try.call155 (w_text _ _ _ _ _ (by assumption) (by assumption) (by omega) _ _ (q.tx i) (hf.t i htx) (rqCells_text q i hb1 hb2)) [2, 2] [0] rfl rfl ?_
       rintro v post ⟨rfl, u1, hu1, rfl⟩
       show G _ _ _ [_, _, _, _] _
       refine G_done ?_
       refine G_ret (post := [_, _]) Try.func139 rfl RVs_nil [0, 0] rfl ?_
       dsimp only [packed]
       first | (rw [encF_text htx]; exact ⟨rfl, u1, hu1, rfl⟩) | (rw [encF_num htx hnx]; exact ⟨rfl, u1, hu1, rfl⟩) | (rw [encF_flag htx hnx]; exact ⟨rfl, u1, hu1, rfl⟩)
     · skip
       refine G_region (l := [0, 1, 2, 3]) rfl ?_
       refine G_val rfl rfl rfl rfl (V_move rfl rfl) ?_
       refine G_val rfl rfl rfl rfl (V_move rfl rfl) ?_
       refine G_val rfl rfl rfl rfl (V_lookupN rfl Try.underlying213 Try.underlying21 rfl infWireW_187 rfl rfl rfl (mem_at 2 rfl) (tfindN (b := bq) htx hdn10)) ?_
       refine G_val rfl rfl rfl rfl (V_assign rfl rfl) ?_
       refine G_done ?_
       refine G_seq ?_
       refine G_region (l := [0, 1]) rfl ?_
       refine G_val rfl rfl rfl rfl (V_move rfl rfl) ?_
       refine G_val rfl rfl rfl rfl (V_pneqN rfl Try.underlying187 rfl rfl) ?_
       refine G_done ?_
       refine G_else rfl ?_
       refine G_skip ?_
       refine G_seq ?_
       refine G_seq ?_
       refine G_region (l := [0, 1, 2, 3]) rfl ?_
       refine G_val rfl rfl rfl rfl (V_move rfl rfl) ?_
       refine G_val rfl rfl rfl rfl (V_move rfl rfl) ?_
       refine G_val rfl rfl rfl rfl (V_lookup rfl Try.underlying214 Try.underlying21 rfl rfl rfl (mem_at 1 rfl) (nfind (b := bq) hnx hdn30).choose_spec) ?_
       refine G_val rfl rfl rfl rfl (V_assign rfl rfl) ?_
       refine G_done ?_
       refine G_seq ?_
       refine G_region (l := [0, 1]) rfl ?_
       refine G_val rfl rfl rfl rfl (V_move rfl rfl) ?_
       refine G_val rfl rfl rfl rfl (V_pneqN rfl Try.underlying99 rfl rfl) ?_
       refine G_done ?_
       refine G_then rfl ?_
       refine G_seq ?_
       refine G_region (l := [0, 1, 2]) rfl ?_
       refine G_val rfl rfl rfl rfl (V_move rfl rfl) ?_
       refine G_val rfl rfl rfl rfl (V_move rfl rfl) ?_
       refine G_call (L2 := [_, _]) rfl rfl rfl rfl rfl rfl Try.call138 (w_num _ _ _ _ _ (by assumption) (by assumption) (by omega) _ _ (q.nx i) (hf.n i htx hnx) (rqCells_num q i hb1 hb2)) [2, 2] [0] rfl rfl ?_
       rintro v post ⟨rfl, u1, hu1, rfl⟩
       show G _ _ _ [_, _, _, _] _
       refine G_done ?_
       refine G_ret (post := [_, _]) Try.func139 rfl RVs_nil [0, 0] rfl ?_
       dsimp only [packed]
       first | (rw [encF_text htx]; exact ⟨rfl, u1, hu1, rfl⟩) | (rw [encF_num htx hnx]; exact ⟨rfl, u1, hu1, rfl⟩) | (rw [encF_flag htx hnx]; exact ⟨rfl, u1, hu1, rfl⟩)
     · skip
       refine G_region (l := [0, 1, 2, 3]) rfl ?_
       refine G_val rfl rfl rfl rfl (V_move rfl rfl) ?_
       refine G_val rfl rfl rfl rfl (V_move rfl rfl) ?_
       refine G_val rfl rfl rfl rfl (V_lookupN rfl Try.underlying213 Try.underlying21 rfl infWireW_187 rfl rfl rfl (mem_at 2 rfl) (tfindN (b := bq) htx hdn10)) ?_
       refine G_val rfl rfl rfl rfl (V_assign rfl rfl) ?_
       refine G_done ?_
       refine G_seq ?_
       refine G_region (l := [0, 1]) rfl ?_
       refine G_val rfl rfl rfl rfl (V_move rfl rfl) ?_
       refine G_val rfl rfl rfl rfl (V_pneqN rfl Try.underlying187 rfl rfl) ?_
       refine G_done ?_
       refine G_else rfl ?_
       refine G_skip ?_
       refine G_seq ?_
       refine G_seq ?_
       refine G_region (l := [0, 1, 2, 3]) rfl ?_
       refine G_val rfl rfl rfl rfl (V_move rfl rfl) ?_
       refine G_val rfl rfl rfl rfl (V_move rfl rfl) ?_
       refine G_val rfl rfl rfl rfl (V_lookupN rfl Try.underlying214 Try.underlying21 rfl infWireW_99 rfl rfl rfl (mem_at 1 rfl) (nfindN (b := bq) hnx hdn30)) ?_
       refine G_val rfl rfl rfl rfl (V_assign rfl rfl) ?_
       refine G_done ?_
       refine G_seq ?_
       refine G_region (l := [0, 1]) rfl ?_
       refine G_val rfl rfl rfl rfl (V_move rfl rfl) ?_
       refine G_val rfl rfl rfl rfl (V_pneqN rfl Try.underlying99 rfl rfl) ?_
       refine G_done ?_
       refine G_else rfl ?_
       refine G_skip ?_
       refine G_region (l := [0, 1, 2, 3, 4]) rfl ?_
       refine G_val rfl rfl rfl rfl (V_move rfl rfl) ?_
       refine G_val rfl rfl rfl rfl (V_move rfl rfl) ?_
       first
         | refine G_val rfl rfl rfl rfl (V_nilCheck rfl rfl) ?_
         | refine G_val rfl rfl rfl rfl (V_nilCheckF rfl rfl) ?_
       refine G_val rfl rfl rfl rfl (V_fieldAddr (fo := 16) rfl Try.underlying40 rfl infWireW_4 rfl rfl rfl) ?_
       refine G_call (L2 := [_, _]) rfl rfl rfl rfl rfl rfl Try.call156 (w_flag _ _ _ _ _ (by assumption) (by assumption) (by omega) _ _ q.flag (rqCells_flag q)) [2, 2] [0] rfl rfl ?_
       rintro v post ⟨rfl, u1, hu1, rfl⟩
       show G _ _ _ [_, _, _, _] _
       refine G_done ?_
       refine G_end (post := [_, _]) Try.func139 rfl RVs_nil [0, 0] rfl ?_
       dsimp only [packed]
       first | (rw [encF_text htx]; exact ⟨rfl, u1, hu1, rfl⟩) | (rw [encF_num htx hnx]; exact ⟨rfl, u1, hu1, rfl⟩) | (rw [encF_flag htx hnx]; exact ⟨rfl, u1, hu1, rfl⟩)

set_option maxRecDepth 100000 in
set_option maxHeartbeats 1000000 in
theorem r_field (bc bq br : Nat) (l : List UInt8) (e : Nat) (hl : l.length ≤ 140737488350000) (he : e ≤ 1000) (q : Rq) (c : Int) :
    Ct Try.prog 139 [.pointer (some ⟨bc, 0, none⟩), .pointer (some ⟨bq, 0, none⟩), .int .i32 c] [(some bc, .cells #[.pointer none, .slice none 0 0, .pointer (some ⟨br, 0, none⟩), .bool true] 136 (0, 0))] [(some bq, .cells (rqCells q).toArray 40 (0, 0)), (some br, .cells #[.string (bs l), .int .i64 ((e : Nat) : Int)] 175 (0, 0))] fun v post => v = .tuple #[] ∧ post = [(some bq, .cells (rqCells (rdF q c l e).1).toArray 40 (0, 0)), (some br, .cells #[.string (bs (rdF q c l e).2.1), .int .i64 (((rdF q c l e).2.2 : Nat) : Int)] 175 (0, 0))] := by
 refine ct_of Try.func139 rfl rfl (fun w0 => ?_)
 show G _ _ [(0, _), (1, _), (2, _)] _ _
 refine G_seq ?_
 refine GH_start (Lq := []) (isq := []) (m := 27) mixedK rfl rfl ?_
 refine GH_take 1 rfl rfl rfl rfl (by kernel_rfl) (by kernel_rfl) (by kernel_rfl) (fun _ _ => (V_move rfl rfl)) ?_
 first
   | refine GH_take 2 rfl rfl rfl rfl (by kernel_rfl) (by kernel_rfl) (by kernel_rfl) (fun _ _ => (V_nilCheck rfl rfl)) ?_
   | refine GH_take 2 rfl rfl rfl rfl (by kernel_rfl) (by kernel_rfl) (by kernel_rfl) (fun _ _ => (V_nilCheckF rfl rfl)) ?_
 refine GH_take 3 rfl rfl rfl rfl (by kernel_rfl) (by kernel_rfl) (by kernel_rfl) (fun _ _ => (V_fieldAddr (fo := 1) rfl Try.underlying40 rfl infWireW_9 rfl rfl rfl)) ?_
 refine GH_take 5 rfl rfl rfl rfl (by kernel_rfl) (by kernel_rfl) (by kernel_rfl) (fun _ _ => (V_move rfl rfl)) ?_
 first
   | refine GH_take 6 rfl rfl rfl rfl (by kernel_rfl) (by kernel_rfl) (by kernel_rfl) (fun _ _ => (V_nilCheck rfl rfl)) ?_
   | refine GH_take 6 rfl rfl rfl rfl (by kernel_rfl) (by kernel_rfl) (by kernel_rfl) (fun _ _ => (V_nilCheckF rfl rfl)) ?_
 refine GH_take 7 rfl rfl rfl rfl (by kernel_rfl) (by kernel_rfl) (by kernel_rfl) (fun _ _ => (V_fieldAddr (fo := 2) rfl Try.underlying40 rfl infWireW_9 rfl rfl rfl)) ?_
 refine GH_take 9 rfl rfl rfl rfl (by kernel_rfl) (by kernel_rfl) (by kernel_rfl) (fun _ _ => (V_move rfl rfl)) ?_
 first
   | refine GH_take 10 rfl rfl rfl rfl (by kernel_rfl) (by kernel_rfl) (by kernel_rfl) (fun _ _ => (V_nilCheck rfl rfl)) ?_
   | refine GH_take 10 rfl rfl rfl rfl (by kernel_rfl) (by kernel_rfl) (by kernel_rfl) (fun _ _ => (V_nilCheckF rfl rfl)) ?_
 refine GH_take 11 rfl rfl rfl rfl (by kernel_rfl) (by kernel_rfl) (by kernel_rfl) (fun _ _ => (V_fieldAddr (fo := 3) rfl Try.underlying40 rfl infWireW_9 rfl rfl rfl)) ?_
 refine GH_take 13 rfl rfl rfl rfl (by kernel_rfl) (by kernel_rfl) (by kernel_rfl) (fun _ _ => (V_move rfl rfl)) ?_
 first
   | refine GH_take 14 rfl rfl rfl rfl (by kernel_rfl) (by kernel_rfl) (by kernel_rfl) (fun _ _ => (V_nilCheck rfl rfl)) ?_
   | refine GH_take 14 rfl rfl rfl rfl (by kernel_rfl) (by kernel_rfl) (by kernel_rfl) (fun _ _ => (V_nilCheckF rfl rfl)) ?_
 refine GH_take 15 rfl rfl rfl rfl (by kernel_rfl) (by kernel_rfl) (by kernel_rfl) (fun _ _ => (V_fieldAddr (fo := 4) rfl Try.underlying40 rfl infWireW_9 rfl rfl rfl)) ?_
 refine GH_take 17 rfl rfl rfl rfl (by kernel_rfl) (by kernel_rfl) (by kernel_rfl) (fun _ _ => (V_move rfl rfl)) ?_
 first
   | refine GH_take 18 rfl rfl rfl rfl (by kernel_rfl) (by kernel_rfl) (by kernel_rfl) (fun _ _ => (V_nilCheck rfl rfl)) ?_
   | refine GH_take 18 rfl rfl rfl rfl (by kernel_rfl) (by kernel_rfl) (by kernel_rfl) (fun _ _ => (V_nilCheckF rfl rfl)) ?_
 refine GH_take 19 rfl rfl rfl rfl (by kernel_rfl) (by kernel_rfl) (by kernel_rfl) (fun _ _ => (V_fieldAddr (fo := 5) rfl Try.underlying40 rfl infWireW_9 rfl rfl rfl)) ?_
 refine GH_take 21 rfl rfl rfl rfl (by kernel_rfl) (by kernel_rfl) (by kernel_rfl) (fun _ _ => (V_move rfl rfl)) ?_
 first
   | refine GH_take 22 rfl rfl rfl rfl (by kernel_rfl) (by kernel_rfl) (by kernel_rfl) (fun _ _ => (V_nilCheck rfl rfl)) ?_
   | refine GH_take 22 rfl rfl rfl rfl (by kernel_rfl) (by kernel_rfl) (by kernel_rfl) (fun _ _ => (V_nilCheckF rfl rfl)) ?_
 refine GH_take 23 rfl rfl rfl rfl (by kernel_rfl) (by kernel_rfl) (by kernel_rfl) (fun _ _ => (V_fieldAddr (fo := 6) rfl Try.underlying40 rfl infWireW_9 rfl rfl rfl)) ?_
 refine GH_all [0] (by kernel_rfl) (by decide) ?_
 refine (And.intro ?_ trivial)
 · skip
   refine GHop_new rfl rfl rfl rfl (N_map rfl) [] (fun _ => ⟨_, rfl⟩) (fun b10 => ?_)
   refine GH_inserts (m := 6) (F := #[true, true, true, true, true, true, true, true, true, true, true, true, true, true, true, true, true, true, true, true, true, true, true, true, true, false, false]) (l1 := []) (q := .i32) Try.underlying213 Try.underlying21 (InsAll_cons 4 rfl rfl rfl rfl rfl rfl rfl (InsAll_cons 8 rfl rfl rfl rfl rfl rfl rfl (InsAll_cons 12 rfl rfl rfl rfl rfl rfl rfl (InsAll_cons 16 rfl rfl rfl rfl rfl rfl rfl (InsAll_cons 20 rfl rfl rfl rfl rfl rfl rfl (InsAll_cons 24 rfl rfl rfl rfl rfl rfl rfl InsAll_nil)))))) rfl (by simp only [List.map_cons, List.map_nil]; decide) (by simp only [List.map_cons, List.map_nil]; decide) (by kernel_rfl) ?_
   intro dn10 hdn10
   show GH _ _ _ _ _ _ _ [_, _, _] _
   refine GH_take 25 rfl rfl rfl rfl (by kernel_rfl) (by kernel_rfl) (by kernel_rfl) (fun _ _ => (V_move rfl rfl)) ?_
   refine GH_take 26 rfl rfl rfl rfl (by kernel_rfl) (by kernel_rfl) (by kernel_rfl) (fun _ _ => (V_assign rfl rfl)) ?_
   refine GH_done (by kernel_rfl) ?_
   refine G_seq ?_
   refine GH_start (Lq := []) (isq := []) (m := 39) mixedK rfl rfl ?_
   refine GH_take 1 rfl rfl rfl rfl (by kernel_rfl) (by kernel_rfl) (by kernel_rfl) (fun _ _ => (V_move rfl rfl)) ?_
   first
     | refine GH_take 2 rfl rfl rfl rfl (by kernel_rfl) (by kernel_rfl) (by kernel_rfl) (fun _ _ => (V_nilCheck rfl rfl)) ?_
     | refine GH_take 2 rfl rfl rfl rfl (by kernel_rfl) (by kernel_rfl) (by kernel_rfl) (fun _ _ => (V_nilCheckF rfl rfl)) ?_
   refine GH_take 3 rfl rfl rfl rfl (by kernel_rfl) (by kernel_rfl) (by kernel_rfl) (fun _ _ => (V_fieldAddr (fo := 7) rfl Try.underlying40 rfl infWireW_3 rfl rfl rfl)) ?_
   refine GH_take 5 rfl rfl rfl rfl (by kernel_rfl) (by kernel_rfl) (by kernel_rfl) (fun _ _ => (V_move rfl rfl)) ?_
   first
     | refine GH_take 6 rfl rfl rfl rfl (by kernel_rfl) (by kernel_rfl) (by kernel_rfl) (fun _ _ => (V_nilCheck rfl rfl)) ?_
     | refine GH_take 6 rfl rfl rfl rfl (by kernel_rfl) (by kernel_rfl) (by kernel_rfl) (fun _ _ => (V_nilCheckF rfl rfl)) ?_
   refine GH_take 7 rfl rfl rfl rfl (by kernel_rfl) (by kernel_rfl) (by kernel_rfl) (fun _ _ => (V_fieldAddr (fo := 8) rfl Try.underlying40 rfl infWireW_3 rfl rfl rfl)) ?_
   refine GH_take 9 rfl rfl rfl rfl (by kernel_rfl) (by kernel_rfl) (by kernel_rfl) (fun _ _ => (V_move rfl rfl)) ?_
   first
     | refine GH_take 10 rfl rfl rfl rfl (by kernel_rfl) (by kernel_rfl) (by kernel_rfl) (fun _ _ => (V_nilCheck rfl rfl)) ?_
     | refine GH_take 10 rfl rfl rfl rfl (by kernel_rfl) (by kernel_rfl) (by kernel_rfl) (fun _ _ => (V_nilCheckF rfl rfl)) ?_
   refine GH_take 11 rfl rfl rfl rfl (by kernel_rfl) (by kernel_rfl) (by kernel_rfl) (fun _ _ => (V_fieldAddr (fo := 9) rfl Try.underlying40 rfl infWireW_3 rfl rfl rfl)) ?_
   refine GH_take 13 rfl rfl rfl rfl (by kernel_rfl) (by kernel_rfl) (by kernel_rfl) (fun _ _ => (V_move rfl rfl)) ?_
   first
     | refine GH_take 14 rfl rfl rfl rfl (by kernel_rfl) (by kernel_rfl) (by kernel_rfl) (fun _ _ => (V_nilCheck rfl rfl)) ?_
     | refine GH_take 14 rfl rfl rfl rfl (by kernel_rfl) (by kernel_rfl) (by kernel_rfl) (fun _ _ => (V_nilCheckF rfl rfl)) ?_
   refine GH_take 15 rfl rfl rfl rfl (by kernel_rfl) (by kernel_rfl) (by kernel_rfl) (fun _ _ => (V_fieldAddr (fo := 10) rfl Try.underlying40 rfl infWireW_3 rfl rfl rfl)) ?_
   refine GH_take 17 rfl rfl rfl rfl (by kernel_rfl) (by kernel_rfl) (by kernel_rfl) (fun _ _ => (V_move rfl rfl)) ?_
   first
     | refine GH_take 18 rfl rfl rfl rfl (by kernel_rfl) (by kernel_rfl) (by kernel_rfl) (fun _ _ => (V_nilCheck rfl rfl)) ?_
     | refine GH_take 18 rfl rfl rfl rfl (by kernel_rfl) (by kernel_rfl) (by kernel_rfl) (fun _ _ => (V_nilCheckF rfl rfl)) ?_
   refine GH_take 19 rfl rfl rfl rfl (by kernel_rfl) (by kernel_rfl) (by kernel_rfl) (fun _ _ => (V_fieldAddr (fo := 11) rfl Try.underlying40 rfl infWireW_3 rfl rfl rfl)) ?_
   refine GH_take 21 rfl rfl rfl rfl (by kernel_rfl) (by kernel_rfl) (by kernel_rfl) (fun _ _ => (V_move rfl rfl)) ?_
   first
     | refine GH_take 22 rfl rfl rfl rfl (by kernel_rfl) (by kernel_rfl) (by kernel_rfl) (fun _ _ => (V_nilCheck rfl rfl)) ?_
     | refine GH_take 22 rfl rfl rfl rfl (by kernel_rfl) (by kernel_rfl) (by kernel_rfl) (fun _ _ => (V_nilCheckF rfl rfl)) ?_
   refine GH_take 23 rfl rfl rfl rfl (by kernel_rfl) (by kernel_rfl) (by kernel_rfl) (fun _ _ => (V_fieldAddr (fo := 12) rfl Try.underlying40 rfl infWireW_3 rfl rfl rfl)) ?_
   refine GH_take 25 rfl rfl rfl rfl (by kernel_rfl) (by kernel_rfl) (by kernel_rfl) (fun _ _ => (V_move rfl rfl)) ?_
   first
     | refine GH_take 26 rfl rfl rfl rfl (by kernel_rfl) (by kernel_rfl) (by kernel_rfl) (fun _ _ => (V_nilCheck rfl rfl)) ?_
     | refine GH_take 26 rfl rfl rfl rfl (by kernel_rfl) (by kernel_rfl) (by kernel_rfl) (fun _ _ => (V_nilCheckF rfl rfl)) ?_
   refine GH_take 27 rfl rfl rfl rfl (by kernel_rfl) (by kernel_rfl) (by kernel_rfl) (fun _ _ => (V_fieldAddr (fo := 13) rfl Try.underlying40 rfl infWireW_3 rfl rfl rfl)) ?_
   refine GH_take 29 rfl rfl rfl rfl (by kernel_rfl) (by kernel_rfl) (by kernel_rfl) (fun _ _ => (V_move rfl rfl)) ?_
   first
     | refine GH_take 30 rfl rfl rfl rfl (by kernel_rfl) (by kernel_rfl) (by kernel_rfl) (fun _ _ => (V_nilCheck rfl rfl)) ?_
     | refine GH_take 30 rfl rfl rfl rfl (by kernel_rfl) (by kernel_rfl) (by kernel_rfl) (fun _ _ => (V_nilCheckF rfl rfl)) ?_
   refine GH_take 31 rfl rfl rfl rfl (by kernel_rfl) (by kernel_rfl) (by kernel_rfl) (fun _ _ => (V_fieldAddr (fo := 14) rfl Try.underlying40 rfl infWireW_3 rfl rfl rfl)) ?_
   refine GH_take 33 rfl rfl rfl rfl (by kernel_rfl) (by kernel_rfl) (by kernel_rfl) (fun _ _ => (V_move rfl rfl)) ?_
   first
     | refine GH_take 34 rfl rfl rfl rfl (by kernel_rfl) (by kernel_rfl) (by kernel_rfl) (fun _ _ => (V_nilCheck rfl rfl)) ?_
     | refine GH_take 34 rfl rfl rfl rfl (by kernel_rfl) (by kernel_rfl) (by kernel_rfl) (fun _ _ => (V_nilCheckF rfl rfl)) ?_
   refine GH_take 35 rfl rfl rfl rfl (by kernel_rfl) (by kernel_rfl) (by kernel_rfl) (fun _ _ => (V_fieldAddr (fo := 15) rfl Try.underlying40 rfl infWireW_3 rfl rfl rfl)) ?_
   refine GH_all [0] (by kernel_rfl) (by decide) ?_
   refine (And.intro ?_ trivial)
   · skip
     refine GHop_new rfl rfl rfl rfl (N_map rfl) [] (fun _ => ⟨_, rfl⟩) (fun b30 => ?_)
     refine GH_inserts (m := 9) (F := #[true, true, true, true, true, true, true, true, true, true, true, true, true, true, true, true, true, true, true, true, true, true, true, true, true, true, true, true, true, true, true, true, true, true, true, true, true, false, false]) (l1 := []) (q := .i32) Try.underlying214 Try.underlying21 (InsAll_cons 4 rfl rfl rfl rfl rfl rfl rfl (InsAll_cons 8 rfl rfl rfl rfl rfl rfl rfl (InsAll_cons 12 rfl rfl rfl rfl rfl rfl rfl (InsAll_cons 16 rfl rfl rfl rfl rfl rfl rfl (InsAll_cons 20 rfl rfl rfl rfl rfl rfl rfl (InsAll_cons 24 rfl rfl rfl rfl rfl rfl rfl (InsAll_cons 28 rfl rfl rfl rfl rfl rfl rfl (InsAll_cons 32 rfl rfl rfl rfl rfl rfl rfl (InsAll_cons 36 rfl rfl rfl rfl rfl rfl rfl InsAll_nil))))))))) rfl (by simp only [List.map_cons, List.map_nil]; decide) (by simp only [List.map_cons, List.map_nil]; decide) (by kernel_rfl) ?_
     intro dn30 hdn30
     show GH _ _ _ _ _ _ _ [_, _, _, _] _
     refine GH_take 37 rfl rfl rfl rfl (by kernel_rfl) (by kernel_rfl) (by kernel_rfl) (fun _ _ => (V_move rfl rfl)) ?_
     refine GH_take 38 rfl rfl rfl rfl (by kernel_rfl) (by kernel_rfl) (by kernel_rfl) (fun _ _ => (V_assign rfl rfl)) ?_
     refine GH_done (by kernel_rfl) ?_
     refine G_seq ?_
     refine G_seq ?_
     rcases letter3 c with ⟨i, htx, hnx, hb1, hb2⟩ | ⟨i, htx, hnx, hb1, hb2⟩ | ⟨htx, hnx⟩
     · skip
       refine G_region (l := [0, 1, 2, 3]) rfl ?_
       refine G_val rfl rfl rfl rfl (V_move rfl rfl) ?_
       refine G_val rfl rfl rfl rfl (V_move rfl rfl) ?_
       refine G_val rfl rfl rfl rfl (V_lookup rfl Try.underlying213 Try.underlying21 rfl rfl rfl (mem_at 2 rfl) (tfind (b := bq) htx hdn10).choose_spec) ?_
       refine G_val rfl rfl rfl rfl (V_assign rfl rfl) ?_
       refine G_done ?_
       refine G_seq ?_
       refine G_region (l := [0, 1]) rfl ?_
       refine G_val rfl rfl rfl rfl (V_move rfl rfl) ?_
       refine G_val rfl rfl rfl rfl (V_pneqN rfl Try.underlying187 rfl rfl) ?_
       refine G_done ?_
       refine G_then rfl ?_
       refine G_seq ?_
       refine G_region (l := [0, 1, 2]) rfl ?_
       refine G_val rfl rfl rfl rfl (V_move rfl rfl) ?_
       refine G_val rfl rfl rfl rfl (V_move rfl rfl) ?_
       refine G_call (L2 := [_, _]) rfl rfl rfl rfl rfl rfl Try.call155 (r_text _ _ _ l e hl he _ i (by have : (rqCells q).toArray.size = 17 := rfl; omega)) [2, 2] [0] rfl rfl ?_
       rintro v post ⟨rfl, rfl⟩
       show G _ _ _ [_, _, _, _] _
       refine G_done ?_
       refine G_ret (post := [_, _]) Try.func139 rfl RVs_nil [0, 0] rfl ?_
       dsimp only [packed]
       first
         | (rw [rdF_text l e htx, rqCells_setText _ i hb1 hb2]; exact ⟨rfl, rfl⟩)
         | (rw [rdF_num l e htx hnx, rqCells_setNum _ i hb1 hb2]; exact ⟨rfl, rfl⟩)
         | (rw [rdF_flag l e htx hnx, rqCells_setFlag]; exact ⟨rfl, rfl⟩)
     · skip
       refine G_region (l := [0, 1, 2, 3]) rfl ?_
       refine G_val rfl rfl rfl rfl (V_move rfl rfl) ?_
       refine G_val rfl rfl rfl rfl (V_move rfl rfl) ?_
       refine G_val rfl rfl rfl rfl (V_lookupN rfl Try.underlying213 Try.underlying21 rfl infWireW_187 rfl rfl rfl (mem_at 2 rfl) (tfindN (b := bq) htx hdn10)) ?_
       refine G_val rfl rfl rfl rfl (V_assign rfl rfl) ?_
       refine G_done ?_
       refine G_seq ?_
       refine G_region (l := [0, 1]) rfl ?_
       refine G_val rfl rfl rfl rfl (V_move rfl rfl) ?_
       refine G_val rfl rfl rfl rfl (V_pneqN rfl Try.underlying187 rfl rfl) ?_
       refine G_done ?_
       refine G_else rfl ?_
       refine G_skip ?_
       refine G_seq ?_
       refine G_seq ?_
       refine G_region (l := [0, 1, 2, 3]) rfl ?_
       refine G_val rfl rfl rfl rfl (V_move rfl rfl) ?_
       refine G_val rfl rfl rfl rfl (V_move rfl rfl) ?_
       refine G_val rfl rfl rfl rfl (V_lookup rfl Try.underlying214 Try.underlying21 rfl rfl rfl (mem_at 1 rfl) (nfind (b := bq) hnx hdn30).choose_spec) ?_
       refine G_val rfl rfl rfl rfl (V_assign rfl rfl) ?_
       refine G_done ?_
       refine G_seq ?_
       refine G_region (l := [0, 1]) rfl ?_
       refine G_val rfl rfl rfl rfl (V_move rfl rfl) ?_
       refine G_val rfl rfl rfl rfl (V_pneqN rfl Try.underlying99 rfl rfl) ?_
       refine G_done ?_
       refine G_then rfl ?_
       refine G_seq ?_
       refine G_region (l := [0, 1, 2]) rfl ?_
       refine G_val rfl rfl rfl rfl (V_move rfl rfl) ?_
       refine G_val rfl rfl rfl rfl (V_move rfl rfl) ?_
       refine G_call (L2 := [_, _]) rfl rfl rfl rfl rfl rfl Try.call138 (r_num _ _ _ l e hl he _ i (by have : (rqCells q).toArray.size = 17 := rfl; omega)) [2, 2] [0] rfl rfl ?_
       rintro v post ⟨rfl, rfl⟩
       show G _ _ _ [_, _, _, _] _
       refine G_done ?_
       refine G_ret (post := [_, _]) Try.func139 rfl RVs_nil [0, 0] rfl ?_
       dsimp only [packed]
       first
         | (rw [rdF_text l e htx, rqCells_setText _ i hb1 hb2]; exact ⟨rfl, rfl⟩)
         | (rw [rdF_num l e htx hnx, rqCells_setNum _ i hb1 hb2]; exact ⟨rfl, rfl⟩)
         | (rw [rdF_flag l e htx hnx, rqCells_setFlag]; exact ⟨rfl, rfl⟩)
     · skip
       refine G_region (l := [0, 1, 2, 3]) rfl ?_
       refine G_val rfl rfl rfl rfl (V_move rfl rfl) ?_
       refine G_val rfl rfl rfl rfl (V_move rfl rfl) ?_
       refine G_val rfl rfl rfl rfl (V_lookupN rfl Try.underlying213 Try.underlying21 rfl infWireW_187 rfl rfl rfl (mem_at 2 rfl) (tfindN (b := bq) htx hdn10)) ?_
       refine G_val rfl rfl rfl rfl (V_assign rfl rfl) ?_
       refine G_done ?_
       refine G_seq ?_
       refine G_region (l := [0, 1]) rfl ?_
       refine G_val rfl rfl rfl rfl (V_move rfl rfl) ?_
       refine G_val rfl rfl rfl rfl (V_pneqN rfl Try.underlying187 rfl rfl) ?_
       refine G_done ?_
       refine G_else rfl ?_
       refine G_skip ?_
       refine G_seq ?_
       refine G_seq ?_
       refine G_region (l := [0, 1, 2, 3]) rfl ?_
       refine G_val rfl rfl rfl rfl (V_move rfl rfl) ?_
       refine G_val rfl rfl rfl rfl (V_move rfl rfl) ?_
       refine G_val rfl rfl rfl rfl (V_lookupN rfl Try.underlying214 Try.underlying21 rfl infWireW_99 rfl rfl rfl (mem_at 1 rfl) (nfindN (b := bq) hnx hdn30)) ?_
       refine G_val rfl rfl rfl rfl (V_assign rfl rfl) ?_
       refine G_done ?_
       refine G_seq ?_
       refine G_region (l := [0, 1]) rfl ?_
       refine G_val rfl rfl rfl rfl (V_move rfl rfl) ?_
       refine G_val rfl rfl rfl rfl (V_pneqN rfl Try.underlying99 rfl rfl) ?_
       refine G_done ?_
       refine G_else rfl ?_
       refine G_skip ?_
       refine G_region (l := [0, 1, 2, 3, 4]) rfl ?_
       refine G_val rfl rfl rfl rfl (V_move rfl rfl) ?_
       refine G_val rfl rfl rfl rfl (V_move rfl rfl) ?_
       first
         | refine G_val rfl rfl rfl rfl (V_nilCheck rfl rfl) ?_
         | refine G_val rfl rfl rfl rfl (V_nilCheckF rfl rfl) ?_
       refine G_val rfl rfl rfl rfl (V_fieldAddr (fo := 16) rfl Try.underlying40 rfl infWireW_4 rfl rfl rfl) ?_
       refine G_call (L2 := [_, _]) rfl rfl rfl rfl rfl rfl Try.call156 (r_flag _ _ _ l e hl he (rqCells q).toArray 16 (by show 16 < 17; omega)) [2, 2] [0] rfl rfl ?_
       rintro v post ⟨rfl, rfl⟩
       show G _ _ _ [_, _, _, _] _
       refine G_done ?_
       refine G_end (post := [_, _]) Try.func139 rfl RVs_nil [0, 0] rfl ?_
       dsimp only [packed]
       first
         | (rw [rdF_text l e htx, rqCells_setText _ i hb1 hb2]; exact ⟨rfl, rfl⟩)
         | (rw [rdF_num l e htx hnx, rqCells_setNum _ i hb1 hb2]; exact ⟨rfl, rfl⟩)
         | (rw [rdF_flag l e htx hnx, rqCells_setFlag]; exact ⟨rfl, rfl⟩)

set_option maxRecDepth 100000 in
set_option maxHeartbeats 1000000 in
theorem w_all (bc bq : Nat) (p : Value) (u : Sl) (hp : UsedOr bc p) (hu : Txt u []) (q : Rq) (hm : mayQ q = true) :
    Ct Try.prog 96 [.pointer (some ⟨bc, 0, none⟩), .pointer (some ⟨bq, 0, none⟩)] [(some bq, .cells (rqCells q).toArray 40 (0, 0))] [(some bc, .cells #[p, u.v 0, .pointer none, .bool false] 136 (0, 0)), (u.ob, .cells u.cs 5 u.fz)] fun v post => v = .tuple #[] ∧ ∃ u1, Txt u1 (encQ q) ∧ post = [(some bc, .cells #[.pointer (some ⟨bc, 0, none⟩), u1.v (encQ q).length, .pointer none, .bool false] 136 (0, 0)), (u1.ob, .cells u1.cs 5 u1.fz)] := by
 obtain ⟨⟨hk1, hk2⟩, hfk⟩ := may_fok hm
 have hkl := chainI_len q.kind (by omega) (by omega)
 have hfl := fieldsK_len q.kind
 refine ct_of Try.func96 rfl rfl (fun w0 => ?_)
 show G _ _ [(0, _), (1, _)] _ _
 refine G_seq ?_
 refine G_region (l := [0, 1, 2, 3, 4]) rfl ?_
 refine G_val rfl rfl rfl rfl (V_move rfl rfl) ?_
 refine G_val rfl rfl rfl rfl (V_move rfl rfl) ?_
 first
   | refine G_val rfl rfl rfl rfl (V_nilCheck rfl rfl) ?_
   | refine G_val rfl rfl rfl rfl (V_nilCheckF rfl rfl) ?_
 refine G_val rfl rfl rfl rfl (V_fieldAddr (fo := 0) rfl Try.underlying40 rfl infWireW_3 rfl rfl rfl) ?_
 refine G_call (L2 := []) rfl rfl rfl rfl rfl rfl Try.call138 (w_num _ _ p u [] hp hu (by simp) _ 0 q.kind ⟨by omega, by omega⟩ rfl) [0, 0] [0] rfl rfl ?_
 rintro v post ⟨rfl, u1, hu1, rfl⟩
 show G _ _ _ [_, _] _
 refine G_done ?_
 refine G_seq ?_
 refine G_region (l := [0, 1, 2, 3, 4, 5]) rfl ?_
 refine G_val rfl rfl rfl rfl (V_move rfl rfl) ?_
 first
   | refine G_val rfl rfl rfl rfl (V_nilCheck rfl rfl) ?_
   | refine G_val rfl rfl rfl rfl (V_nilCheckF rfl rfl) ?_
 refine G_val rfl rfl rfl rfl (V_fieldAddr (fo := 0) rfl Try.underlying40 rfl infWireW_3 rfl rfl rfl) ?_
 refine G_val rfl rfl rfl rfl (V_load1 rfl rfl (mem_at 0 rfl) rfl Try.underlying3 rfl) ?_
 refine G_call (L2 := [_, _]) rfl rfl rfl rfl rfl rfl Try.call135 (msg_fields _) [] [] rfl rfl ?_
 rintro v post ⟨rfl, rfl⟩
 show G _ _ _ [_, _] _
 refine G_new rfl rfl rfl rfl (N_range rfl Try.underlying9 rfl) (fun b16 => ?_)
 refine G_done ?_
 refine G_block ?_
 refine G_sub ?he2 [0, 0, 0] ?hl2 (G_loop (X := Nat × Sl) (fun x => match x with | ⟨k, u⟩ => k ≤ (fieldsK q.kind).length ∧ Txt u (chainI q.kind ++ encFs q ((fieldsK q.kind).take k))) (fun x => match x with | ⟨k, u⟩ => (fieldsK q.kind).length - k) (fun x => match x with | ⟨k, u⟩ => [(0, .pointer (some ⟨bc, 0, none⟩)), (1, .pointer (some ⟨bq, 0, none⟩)), (16, .pointer (some ⟨b16, 0, none⟩))]) (fun x => match x with | ⟨k, u⟩ => [(some b16, .stringIter (bs (fieldsK q.kind)) k), (some bc, .cells #[.pointer (some ⟨bc, 0, none⟩), u.v (chainI q.kind ++ encFs q ((fieldsK q.kind).take k)).length, .pointer none, .bool false] 136 (0, 0)), (u.ob, .cells u.cs 5 u.fz)]) ?round2 (0, u1) ?h02)
 case he2 => exact (And.intro rfl (And.intro rfl (And.intro rfl trivial)))
 case hl2 => exact ⟨_, by simp [encFs]; rfl⟩
 case h02 => exact ⟨Nat.zero_le _, by simpa [encFs] using hu1⟩
 case round2 =>
  intro x hJ ih
  try dsimp only at hJ ih
  obtain ⟨k, u⟩ := x
  try dsimp only at hJ ih
  obtain ⟨hk, hux⟩ := hJ
  show G _ _ [(0, .pointer (some ⟨bc, 0, none⟩)), (1, .pointer (some ⟨bq, 0, none⟩)), (16, .pointer (some ⟨b16, 0, none⟩))] [(some b16, .stringIter (bs (fieldsK q.kind)) k), (some bc, .cells #[.pointer (some ⟨bc, 0, none⟩), u.v (chainI q.kind ++ encFs q ((fieldsK q.kind).take k)).length, .pointer none, .bool false] 136 (0, 0)), (u.ob, .cells u.cs 5 u.fz)] _
  refine G_seq ?_
  refine G_region (l := [0, 1]) rfl ?_
  rcases Nat.lt_or_ge k (fieldsK q.kind).length with hlt | hlt
  · skip
    refine G_putV (l1 := []) (L' := [_, _, _]) rfl rfl rfl rfl rfl (P_next rfl rfl (mem_at 0 rfl) hlt (fieldsK_ascii q.kind k hlt)) rfl ?_
    refine G_val rfl rfl rfl rfl (V_extract rfl rfl rfl) ?_
    refine G_done ?_
    refine G_seq ?_
    refine G_then rfl ?_
    refine G_skip ?_
    refine G_block ?_
    refine G_seq ?_
    refine G_region (l := [0, 1]) rfl ?_
    refine G_val rfl rfl rfl rfl (V_extract rfl rfl rfl) ?_
    refine G_val rfl rfl rfl rfl (V_assign rfl rfl) ?_
    refine G_done ?_
    have hen := encFs_len (q := q) ((fieldsK q.kind).take k) (fun c hc => hfk c (List.mem_of_mem_take hc))
    have hkl3 : ((fieldsK q.kind).take k).length ≤ 7 := by simp; omega
    refine G_region (l := [0, 1, 2, 3]) rfl ?_
    refine G_val rfl rfl rfl rfl (V_move rfl rfl) ?_
    refine G_val rfl rfl rfl rfl (V_move rfl rfl) ?_
    refine G_val rfl rfl rfl rfl (V_move rfl rfl) ?_
    refine G_call (L2 := [_]) rfl rfl rfl rfl rfl rfl Try.call139 (w_field _ _ _ _ _ (.inr rfl) hux (by simp only [List.length_append]; omega) q _ (hfk _ (getD_mem hlt))) [1, 1] [0] rfl rfl ?_
    rintro v post ⟨rfl, u1, hu1, rfl⟩
    show G _ _ _ [_, _, _] _
    rw [List.append_assoc, ← encFs_next q (fieldsK q.kind) k hlt] at hu1 ⊢
    refine G_done ?_
    refine G_inBlock ?_
    refine G_sub ?_ [2, 0, 0] ?_ (ih (k + 1, u1) ?_ ?_)
    · (refine (And.intro ?_ (And.intro ?_ (And.intro ?_ trivial))) <;> first | rfl | exact slot_int (by omega) | exact slot_int (by simp))
    · exact ⟨_, rfl⟩
    · exact ⟨hlt, hu1⟩
    · (first | omega | (dsimp only; omega))
  refine G_val rfl rfl rfl rfl (V_nextE rfl rfl (mem_at 0 rfl) hlt) ?_
  refine G_val rfl rfl rfl rfl (V_extract rfl rfl rfl) ?_
  refine G_done ?_
  refine G_seq ?_
  refine G_else rfl ?_
  refine G_exit rfl ?_
  refine G_end (post := [_, _]) Try.func96 rfl RVs_nil [1, 1] rfl ?_
  dsimp only [packed]
  rw [List.take_of_length_le hlt] at hux ⊢; exact ⟨rfl, u, hux, rfl⟩


theorem dk_bd (l : List UInt8) : (((dk l).1 : Nat) : Int) ≤ 1099511627776 ∧ (dk l).2.1.length ≤ l.length ∧ (dk l).2.2 ≤ 1000 := rdInt_bd 1099511627776 l 0 (by omega) (by omega)
theorem set_kind (k : Int) : (rqCells (rqBare 0)).toArray.setIfInBounds 0 (.int .i64 k) = (rqCells (rqBare k)).toArray := rfl
theorem rdFs_zero (q : Rq) (cs l : List UInt8) (e : Nat) : rdFs q (cs.take 0) l e = (q, l, e) := rfl
theorem r_kind (bc bq br : Nat) (l : List UInt8) (hl : l.length ≤ 140737488350000) : Ct Try.prog 138 [.pointer (some ⟨bc, 0, none⟩), .pointer (some ⟨bq, 0, none⟩)] [(some bc, .cells #[.pointer none, .slice none 0 0, .pointer (some ⟨br, 0, none⟩), .bool true] 136 (0, 0))] [(some bq, .cells (rqCells (rqBare 0)).toArray 40 (0, 0)), (some br, .cells #[.string (bs l), .int .i64 ((0 : Nat) : Int)] 175 (0, 0))] (fun v post => v = .tuple #[] ∧ post = [(some bq, .cells (rqCells (rqBare (((dk l).1 : Nat) : Int))).toArray 40 (0, 0)), (some br, .cells #[.string (bs (dk l).2.1), .int .i64 (((dk l).2.2 : Nat) : Int)] 175 (0, 0))]) := by
  rw [← set_kind]
  unfold dk
  exact r_num bc bq br l 0 hl (by omega) _ 0 (Nat.zero_lt_succ _)
attribute [local irreducible] dk

set_option maxRecDepth 100000 in
set_option maxHeartbeats 1000000 in
theorem r_all (bc bq br : Nat) (l : List UInt8) (hl : l.length ≤ 140737488350000) :
    Ct Try.prog 96 [.pointer (some ⟨bc, 0, none⟩), .pointer (some ⟨bq, 0, none⟩)] [(some bc, .cells #[.pointer none, .slice none 0 0, .pointer (some ⟨br, 0, none⟩), .bool true] 136 (0, 0))] [(some bq, .cells (rqCells (rqBare 0)).toArray 40 (0, 0)), (some br, .cells #[.string (bs l), .int .i64 ((0 : Nat) : Int)] 175 (0, 0))] fun v post => v = .tuple #[] ∧ post = [(some bq, .cells (rqCells (dfs l).1).toArray 40 (0, 0)), (some br, .cells #[.string (bs (dfs l).2.1), .int .i64 (((dfs l).2.2 : Nat) : Int)] 175 (0, 0))] := by
 have hkb := dk_bd l
 refine ct_of Try.func96 rfl rfl (fun w0 => ?_)
 show G _ _ [(0, _), (1, _)] _ _
 refine G_seq ?_
 refine G_region (l := [0, 1, 2, 3, 4]) rfl ?_
 refine G_val rfl rfl rfl rfl (V_move rfl rfl) ?_
 refine G_val rfl rfl rfl rfl (V_move rfl rfl) ?_
 first
   | refine G_val rfl rfl rfl rfl (V_nilCheck rfl rfl) ?_
   | refine G_val rfl rfl rfl rfl (V_nilCheckF rfl rfl) ?_
 refine G_val rfl rfl rfl rfl (V_fieldAddr (fo := 0) rfl Try.underlying40 rfl infWireW_3 rfl rfl rfl) ?_
 refine G_call (L2 := []) rfl rfl rfl rfl rfl rfl Try.call138 (r_kind _ _ _ l hl) [0, 0] [0] rfl rfl ?_
 rintro v post ⟨rfl, rfl⟩
 show G _ _ _ [_, _] _
 refine G_done ?_
 refine G_seq ?_
 refine G_region (l := [0, 1, 2, 3, 4, 5]) rfl ?_
 refine G_val rfl rfl rfl rfl (V_move rfl rfl) ?_
 first
   | refine G_val rfl rfl rfl rfl (V_nilCheck rfl rfl) ?_
   | refine G_val rfl rfl rfl rfl (V_nilCheckF rfl rfl) ?_
 refine G_val rfl rfl rfl rfl (V_fieldAddr (fo := 0) rfl Try.underlying40 rfl infWireW_3 rfl rfl rfl) ?_
 refine G_val rfl rfl rfl rfl (V_load1 rfl rfl (mem_at 1 rfl) rfl Try.underlying3 rfl) ?_
 refine G_call (L2 := [_, _]) rfl rfl rfl rfl rfl rfl Try.call135 (msg_fields _) [] [] rfl rfl ?_
 rintro v post ⟨rfl, rfl⟩
 show G _ _ _ [_, _] _
 refine G_new rfl rfl rfl rfl (N_range rfl Try.underlying9 rfl) (fun b16 => ?_)
 refine G_done ?_
 refine G_block ?_
 refine G_sub ?he2 [0, 0, 0] ?hl2 (G_loop (X := Nat) (fun k => k ≤ (fieldsK (((dk l).1 : Nat) : Int)).length) (fun k => (fieldsK (((dk l).1 : Nat) : Int)).length - k) (fun k => [(0, .pointer (some ⟨bc, 0, none⟩)), (1, .pointer (some ⟨bq, 0, none⟩)), (16, .pointer (some ⟨b16, 0, none⟩))]) (fun k => [(some b16, .stringIter (bs (fieldsK (((dk l).1 : Nat) : Int))) k), (some bq, .cells (rqCells (rdFs (rqBare (((dk l).1 : Nat) : Int)) ((fieldsK (((dk l).1 : Nat) : Int)).take k) (dk l).2.1 (dk l).2.2).1).toArray 40 (0, 0)), (some br, .cells #[.string (bs (rdFs (rqBare (((dk l).1 : Nat) : Int)) ((fieldsK (((dk l).1 : Nat) : Int)).take k) (dk l).2.1 (dk l).2.2).2.1), .int .i64 (((rdFs (rqBare (((dk l).1 : Nat) : Int)) ((fieldsK (((dk l).1 : Nat) : Int)).take k) (dk l).2.1 (dk l).2.2).2.2 : Nat) : Int)] 175 (0, 0))]) ?round2 0 ?h02)
 case he2 => exact (And.intro rfl (And.intro rfl (And.intro rfl trivial)))
 case hl2 => exact ⟨_, rfl⟩
 case h02 => exact Nat.zero_le _
 case round2 =>
  intro k hJ ih
  try dsimp only at hJ ih
  refine G_seq ?_
  refine G_region (l := [0, 1]) rfl ?_
  rcases Nat.lt_or_ge k (fieldsK (((dk l).1 : Nat) : Int)).length with hlt | hlt
  · skip
    refine G_putV (l1 := []) (L' := [_, _, _]) rfl rfl rfl rfl rfl (P_next rfl rfl (mem_at 0 rfl) hlt (fieldsK_ascii _ k hlt)) rfl ?_
    refine G_val rfl rfl rfl rfl (V_extract rfl rfl rfl) ?_
    refine G_done ?_
    refine G_seq ?_
    refine G_then rfl ?_
    refine G_skip ?_
    refine G_block ?_
    refine G_seq ?_
    refine G_region (l := [0, 1]) rfl ?_
    refine G_val rfl rfl rfl rfl (V_extract rfl rfl rfl) ?_
    refine G_val rfl rfl rfl rfl (V_assign rfl rfl) ?_
    refine G_done ?_
    have hst := rdFs_bd (rqBare (((dk l).1 : Nat) : Int)) (dk l).2.1 (dk l).2.2 hkb.2.2 (fieldsK (((dk l).1 : Nat) : Int)) k
    refine G_region (l := [0, 1, 2, 3]) rfl ?_
    refine G_val rfl rfl rfl rfl (V_move rfl rfl) ?_
    refine G_val rfl rfl rfl rfl (V_move rfl rfl) ?_
    refine G_val rfl rfl rfl rfl (V_move rfl rfl) ?_
    refine G_call (L2 := [_]) rfl rfl rfl rfl rfl rfl Try.call139 (r_field _ _ _ (rdFs (rqBare (((dk l).1 : Nat) : Int)) ((fieldsK (((dk l).1 : Nat) : Int)).take k) (dk l).2.1 (dk l).2.2).2.1 (rdFs (rqBare (((dk l).1 : Nat) : Int)) ((fieldsK (((dk l).1 : Nat) : Int)).take k) (dk l).2.1 (dk l).2.2).2.2 (by omega) (by omega) (rdFs (rqBare (((dk l).1 : Nat) : Int)) ((fieldsK (((dk l).1 : Nat) : Int)).take k) (dk l).2.1 (dk l).2.2).1 _) [1, 1] [0] rfl rfl ?_
    rintro v post ⟨rfl, rfl⟩
    show G _ _ _ [_, _, _] _
    rw [← rdFs_next _ (fieldsK (((dk l).1 : Nat) : Int)) k hlt]
    refine G_done ?_
    refine G_inBlock ?_
    refine G_sub ?_ [2, 0, 0] ?_ (ih (k + 1) ?_ ?_)
    · (refine (And.intro ?_ (And.intro ?_ (And.intro ?_ trivial))) <;> first | rfl | exact slot_int (by omega) | exact slot_int (by simp))
    · exact ⟨_, rfl⟩
    · exact hlt
    · (first | omega | (dsimp only; omega))
  refine G_val rfl rfl rfl rfl (V_nextE rfl rfl (mem_at 0 rfl) hlt) ?_
  refine G_val rfl rfl rfl rfl (V_extract rfl rfl rfl) ?_
  refine G_done ?_
  refine G_seq ?_
  refine G_else rfl ?_
  refine G_exit rfl ?_
  refine G_end (post := [_, _]) Try.func96 rfl RVs_nil [1, 1] rfl ?_
  dsimp only [packed]
  rw [List.take_of_length_le hlt]; exact ⟨rfl, rfl⟩

end
end Go.Proofs.Ytkidmbaakdaflaa
