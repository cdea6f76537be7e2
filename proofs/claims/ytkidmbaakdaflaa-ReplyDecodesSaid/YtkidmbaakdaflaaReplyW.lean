/- The walks of layer 21: replies. -/
import Derived.Test.YtkidmbaakdaflaaGK
import Derived.Test.YtkidmbaakdaflaaG7
import Derived.Test.YtkidmbaakdaflaaG11
import Derived.Test.YtkidmbaakdaflaaOctC
import Derived.Test.YtkidmbaakdaflaaBld
set_option linter.unusedSimpArgs false
set_option linter.unusedVariables false
namespace Go.Proofs.Ytkidmbaakdaflaa
open Go Go.RowKit

section
theorem infReplyW_3 : Try.prog.info? 3 = some Try.t3 := by kernel_rfl
theorem infReplyW_9 : Try.prog.info? 9 = some Try.t9 := by kernel_rfl
theorem infReplyW_22 : Try.prog.info? 22 = some Try.t22 := by kernel_rfl
theorem infReplyW_23 : Try.prog.info? 23 = some Try.t23 := by kernel_rfl
theorem infReplyW_25 : Try.prog.info? 25 = some Try.t25 := by kernel_rfl
theorem infReplyW_69 : Try.prog.info? 69 = some Try.t69 := by kernel_rfl
theorem infReplyW_94 : Try.prog.info? 94 = some Try.t94 := by kernel_rfl
theorem infReplyW_96 : Try.prog.info? 96 = some Try.t96 := by kernel_rfl
theorem infReplyW_99 : Try.prog.info? 99 = some Try.t99 := by kernel_rfl
theorem infReplyW_109 : Try.prog.info? 109 = some Try.t109 := by kernel_rfl


/-- A letter; a reply but for its letters. -/
structure Lt where
  a : Int
  b : Int
  c : Int
  d : Int
  tx : List UInt8
  n : Nat
deriving DecidableEq
def ltCells (l : Lt) : List Value := [.int .i64 l.a, .int .i64 l.b, .int .i64 l.c, .int .i64 l.d, .string (bs l.tx), .int .u64 (l.n : Int)]
theorem lt_len (l : Lt) : (ltCells l).length = 6 := rfl
def I64 (x : Int) : Prop := -9223372036854775808 ≤ x ∧ x ≤ 9223372036854775807
structure LtOk (l : Lt) : Prop where
  a : I64 l.a
  b : I64 l.b
  c : I64 l.c
  d : I64 l.d
  tx : l.tx.length ≤ 9223372036854775807
  n : l.n < 18446744073709551616
structure Rp where
  to_ : List UInt8
  code : Int
  op : Int
  state : Int
  epoch : Int
  tries : Int
  cls : Int
  cost : Int
  a : Int
  b : Int
  cmd : List UInt8
def rpCells (r : Rp) (s : Value) : List Value := [.string (bs r.to_), .int .i64 r.code, .int .i64 r.op, .int .i64 r.state, .int .i64 r.epoch, .int .i64 r.tries, .int .i64 r.cls, .int .i64 r.cost, .int .i64 r.a, .int .i64 r.b, .string (bs r.cmd), s]
def Rp.nums (r : Rp) : List Int := [r.op, r.state, r.epoch, r.tries, r.cls, r.cost, r.a, r.b]
def Lt.nums (l : Lt) : List Int := [l.a, l.b, l.c, l.d]
structure RpOk (r : Rp) : Prop where
  to_ : r.to_.length ≤ 9223372036854775807
  cmd : r.cmd.length ≤ 9223372036854775807
  code : I64 r.code
  nums : ∀ x ∈ r.nums, I64 x
/-- The cells that hold some numbers, from one on. -/
def Holds (cs : Array Value) (k : Nat) (ns : List Int) : Prop := ∀ i x, ns[i]? = some x → cs[k + i]? = some (.int .i64 x)
theorem holds_nums (r : Rp) (s : Value) : Holds (rpCells r s).toArray 2 r.nums := by
  intro i x h
  match i, h with
  | 0, h | 1, h | 2, h | 3, h | 4, h | 5, h | 6, h | 7, h => (simp [Rp.nums] at h; subst h; rfl)
  | n + 8, h => simp [Rp.nums] at h
theorem holds_letter (l : Lt) : Holds (ltCells l).toArray 0 l.nums := by
  intro i x h
  match i, h with
  | 0, h | 1, h | 2, h | 3, h => (simp [Lt.nums] at h; subst h; rfl)
  | n + 4, h => simp [Lt.nums] at h
theorem ptrs_get (b k n i : Nat) (h : i < n) : (ptrs b k n).toArray[0 + i * 1]? = some (.pointer (some ⟨b, k + i, none⟩)) := by simp [ptrs, h]
def outB (x : Int) : Bool := decide (x < 0 ∨ 1099511627776 < x)
def badL (l : Lt) : Bool := decide (100 < l.tx.length) || l.nums.any outB
def mayR (r : Rp) (ls : List Lt) : Bool := decide ((r.to_.length : Int) ≤ 100) && decide ((r.cmd.length : Int) ≤ 100) && !outB r.code && !r.nums.any outB && decide ((ls.length : Int) ≤ 32) && !ls.any badL

set_option maxRecDepth 100000 in
set_option maxHeartbeats 1000000 in
theorem rep_numbers (b : Nat) :
    Ct Try.prog 62 [.pointer (some ⟨b, 0, none⟩)] [] [] fun v post => ∃ bn, v = .slice (some ⟨bn, 0, none⟩) 8 8 ∧ post = [(some bn, .cells (ptrs b 2 8).toArray 99 (0, 0))] := by
 refine ct_of Try.func62 rfl rfl (fun w0 => ?_)
 show G _ _ [(0, _)] _ _
 refine G_seq ?_
 refine G_region (l := [0]) rfl ?_
 refine G_val rfl rfl rfl rfl (V_assign rfl rfl) ?_
 refine G_done ?_
 refine G_seq ?_
 refine GH_start (Lq := []) (isq := []) (m := 26) mixedK rfl rfl ?_
 refine GH_take 0 rfl rfl rfl rfl (by kernel_rfl) (by kernel_rfl) (by kernel_rfl) (fun _ _ => (V_move rfl rfl)) ?_
 first
   | refine GH_take 1 rfl rfl rfl rfl (by kernel_rfl) (by kernel_rfl) (by kernel_rfl) (fun _ _ => (V_nilCheck rfl rfl)) ?_
   | refine GH_take 1 rfl rfl rfl rfl (by kernel_rfl) (by kernel_rfl) (by kernel_rfl) (fun _ _ => (V_nilCheckF rfl rfl)) ?_
 refine GH_take 2 rfl rfl rfl rfl (by kernel_rfl) (by kernel_rfl) (by kernel_rfl) (fun _ _ => (V_fieldAddr (fo := 2) rfl Try.underlying25 rfl infReplyW_3 rfl rfl rfl)) ?_
 refine GH_take 3 rfl rfl rfl rfl (by kernel_rfl) (by kernel_rfl) (by kernel_rfl) (fun _ _ => (V_move rfl rfl)) ?_
 first
   | refine GH_take 4 rfl rfl rfl rfl (by kernel_rfl) (by kernel_rfl) (by kernel_rfl) (fun _ _ => (V_nilCheck rfl rfl)) ?_
   | refine GH_take 4 rfl rfl rfl rfl (by kernel_rfl) (by kernel_rfl) (by kernel_rfl) (fun _ _ => (V_nilCheckF rfl rfl)) ?_
 refine GH_take 5 rfl rfl rfl rfl (by kernel_rfl) (by kernel_rfl) (by kernel_rfl) (fun _ _ => (V_fieldAddr (fo := 3) rfl Try.underlying25 rfl infReplyW_3 rfl rfl rfl)) ?_
 refine GH_take 6 rfl rfl rfl rfl (by kernel_rfl) (by kernel_rfl) (by kernel_rfl) (fun _ _ => (V_move rfl rfl)) ?_
 first
   | refine GH_take 7 rfl rfl rfl rfl (by kernel_rfl) (by kernel_rfl) (by kernel_rfl) (fun _ _ => (V_nilCheck rfl rfl)) ?_
   | refine GH_take 7 rfl rfl rfl rfl (by kernel_rfl) (by kernel_rfl) (by kernel_rfl) (fun _ _ => (V_nilCheckF rfl rfl)) ?_
 refine GH_take 8 rfl rfl rfl rfl (by kernel_rfl) (by kernel_rfl) (by kernel_rfl) (fun _ _ => (V_fieldAddr (fo := 4) rfl Try.underlying25 rfl infReplyW_3 rfl rfl rfl)) ?_
 refine GH_take 9 rfl rfl rfl rfl (by kernel_rfl) (by kernel_rfl) (by kernel_rfl) (fun _ _ => (V_move rfl rfl)) ?_
 first
   | refine GH_take 10 rfl rfl rfl rfl (by kernel_rfl) (by kernel_rfl) (by kernel_rfl) (fun _ _ => (V_nilCheck rfl rfl)) ?_
   | refine GH_take 10 rfl rfl rfl rfl (by kernel_rfl) (by kernel_rfl) (by kernel_rfl) (fun _ _ => (V_nilCheckF rfl rfl)) ?_
 refine GH_take 11 rfl rfl rfl rfl (by kernel_rfl) (by kernel_rfl) (by kernel_rfl) (fun _ _ => (V_fieldAddr (fo := 5) rfl Try.underlying25 rfl infReplyW_3 rfl rfl rfl)) ?_
 refine GH_take 12 rfl rfl rfl rfl (by kernel_rfl) (by kernel_rfl) (by kernel_rfl) (fun _ _ => (V_move rfl rfl)) ?_
 first
   | refine GH_take 13 rfl rfl rfl rfl (by kernel_rfl) (by kernel_rfl) (by kernel_rfl) (fun _ _ => (V_nilCheck rfl rfl)) ?_
   | refine GH_take 13 rfl rfl rfl rfl (by kernel_rfl) (by kernel_rfl) (by kernel_rfl) (fun _ _ => (V_nilCheckF rfl rfl)) ?_
 refine GH_take 14 rfl rfl rfl rfl (by kernel_rfl) (by kernel_rfl) (by kernel_rfl) (fun _ _ => (V_fieldAddr (fo := 6) rfl Try.underlying25 rfl infReplyW_3 rfl rfl rfl)) ?_
 refine GH_take 15 rfl rfl rfl rfl (by kernel_rfl) (by kernel_rfl) (by kernel_rfl) (fun _ _ => (V_move rfl rfl)) ?_
 first
   | refine GH_take 16 rfl rfl rfl rfl (by kernel_rfl) (by kernel_rfl) (by kernel_rfl) (fun _ _ => (V_nilCheck rfl rfl)) ?_
   | refine GH_take 16 rfl rfl rfl rfl (by kernel_rfl) (by kernel_rfl) (by kernel_rfl) (fun _ _ => (V_nilCheckF rfl rfl)) ?_
 refine GH_take 17 rfl rfl rfl rfl (by kernel_rfl) (by kernel_rfl) (by kernel_rfl) (fun _ _ => (V_fieldAddr (fo := 7) rfl Try.underlying25 rfl infReplyW_3 rfl rfl rfl)) ?_
 refine GH_take 18 rfl rfl rfl rfl (by kernel_rfl) (by kernel_rfl) (by kernel_rfl) (fun _ _ => (V_move rfl rfl)) ?_
 first
   | refine GH_take 19 rfl rfl rfl rfl (by kernel_rfl) (by kernel_rfl) (by kernel_rfl) (fun _ _ => (V_nilCheck rfl rfl)) ?_
   | refine GH_take 19 rfl rfl rfl rfl (by kernel_rfl) (by kernel_rfl) (by kernel_rfl) (fun _ _ => (V_nilCheckF rfl rfl)) ?_
 refine GH_take 20 rfl rfl rfl rfl (by kernel_rfl) (by kernel_rfl) (by kernel_rfl) (fun _ _ => (V_fieldAddr (fo := 8) rfl Try.underlying25 rfl infReplyW_3 rfl rfl rfl)) ?_
 refine GH_take 21 rfl rfl rfl rfl (by kernel_rfl) (by kernel_rfl) (by kernel_rfl) (fun _ _ => (V_move rfl rfl)) ?_
 first
   | refine GH_take 22 rfl rfl rfl rfl (by kernel_rfl) (by kernel_rfl) (by kernel_rfl) (fun _ _ => (V_nilCheck rfl rfl)) ?_
   | refine GH_take 22 rfl rfl rfl rfl (by kernel_rfl) (by kernel_rfl) (by kernel_rfl) (fun _ _ => (V_nilCheckF rfl rfl)) ?_
 refine GH_take 23 rfl rfl rfl rfl (by kernel_rfl) (by kernel_rfl) (by kernel_rfl) (fun _ _ => (V_fieldAddr (fo := 9) rfl Try.underlying25 rfl infReplyW_3 rfl rfl rfl)) ?_
 refine GH_all [24] (by kernel_rfl) (by decide) ?_
 refine (And.intro ?_ trivial)
 · skip
   refine GHop_new rfl rfl rfl rfl (N_buildAll (s := 1) (cs := [_, _, _, _, _, _, _, _]) rfl Try.underlying98 infReplyW_99 rfl rfl rfl rfl rfl rfl rfl rfl rfl) [] (fun _ => ⟨_, rfl⟩) (fun b27 => ?_)
   refine GH_take 25 rfl rfl rfl rfl (by kernel_rfl) (by kernel_rfl) (by kernel_rfl) (fun _ _ => (V_assign rfl rfl)) ?_
   refine GH_done (by kernel_rfl) ?_
   refine G_ret (post := [_]) Try.func62 rfl (RVs_cons (RV_tmp rfl) RVs_nil) [0] rfl ?_
   dsimp only [packed]
   exact ⟨_, rfl, rfl⟩

set_option maxRecDepth 100000 in
set_option maxHeartbeats 1000000 in
theorem rep_letter (b : Nat) :
    Ct Try.prog 72 [.pointer (some ⟨b, 0, none⟩)] [] [] fun v post => ∃ bn, v = .slice (some ⟨bn, 0, none⟩) 4 4 ∧ post = [(some bn, .cells (ptrs b 0 4).toArray 99 (0, 0))] := by
 refine ct_of Try.func72 rfl rfl (fun w0 => ?_)
 show G _ _ [(0, _)] _ _
 refine G_seq ?_
 refine G_region (l := [0]) rfl ?_
 refine G_val rfl rfl rfl rfl (V_assign rfl rfl) ?_
 refine G_done ?_
 refine G_seq ?_
 refine GH_start (Lq := []) (isq := []) (m := 14) mixedK rfl rfl ?_
 refine GH_take 0 rfl rfl rfl rfl (by kernel_rfl) (by kernel_rfl) (by kernel_rfl) (fun _ _ => (V_move rfl rfl)) ?_
 first
   | refine GH_take 1 rfl rfl rfl rfl (by kernel_rfl) (by kernel_rfl) (by kernel_rfl) (fun _ _ => (V_nilCheck rfl rfl)) ?_
   | refine GH_take 1 rfl rfl rfl rfl (by kernel_rfl) (by kernel_rfl) (by kernel_rfl) (fun _ _ => (V_nilCheckF rfl rfl)) ?_
 refine GH_take 2 rfl rfl rfl rfl (by kernel_rfl) (by kernel_rfl) (by kernel_rfl) (fun _ _ => (V_fieldAddr (fo := 0) rfl Try.underlying96 rfl infReplyW_3 rfl rfl rfl)) ?_
 refine GH_take 3 rfl rfl rfl rfl (by kernel_rfl) (by kernel_rfl) (by kernel_rfl) (fun _ _ => (V_move rfl rfl)) ?_
 first
   | refine GH_take 4 rfl rfl rfl rfl (by kernel_rfl) (by kernel_rfl) (by kernel_rfl) (fun _ _ => (V_nilCheck rfl rfl)) ?_
   | refine GH_take 4 rfl rfl rfl rfl (by kernel_rfl) (by kernel_rfl) (by kernel_rfl) (fun _ _ => (V_nilCheckF rfl rfl)) ?_
 refine GH_take 5 rfl rfl rfl rfl (by kernel_rfl) (by kernel_rfl) (by kernel_rfl) (fun _ _ => (V_fieldAddr (fo := 1) rfl Try.underlying96 rfl infReplyW_3 rfl rfl rfl)) ?_
 refine GH_take 6 rfl rfl rfl rfl (by kernel_rfl) (by kernel_rfl) (by kernel_rfl) (fun _ _ => (V_move rfl rfl)) ?_
 first
   | refine GH_take 7 rfl rfl rfl rfl (by kernel_rfl) (by kernel_rfl) (by kernel_rfl) (fun _ _ => (V_nilCheck rfl rfl)) ?_
   | refine GH_take 7 rfl rfl rfl rfl (by kernel_rfl) (by kernel_rfl) (by kernel_rfl) (fun _ _ => (V_nilCheckF rfl rfl)) ?_
 refine GH_take 8 rfl rfl rfl rfl (by kernel_rfl) (by kernel_rfl) (by kernel_rfl) (fun _ _ => (V_fieldAddr (fo := 2) rfl Try.underlying96 rfl infReplyW_3 rfl rfl rfl)) ?_
 refine GH_take 9 rfl rfl rfl rfl (by kernel_rfl) (by kernel_rfl) (by kernel_rfl) (fun _ _ => (V_move rfl rfl)) ?_
 first
   | refine GH_take 10 rfl rfl rfl rfl (by kernel_rfl) (by kernel_rfl) (by kernel_rfl) (fun _ _ => (V_nilCheck rfl rfl)) ?_
   | refine GH_take 10 rfl rfl rfl rfl (by kernel_rfl) (by kernel_rfl) (by kernel_rfl) (fun _ _ => (V_nilCheckF rfl rfl)) ?_
 refine GH_take 11 rfl rfl rfl rfl (by kernel_rfl) (by kernel_rfl) (by kernel_rfl) (fun _ _ => (V_fieldAddr (fo := 3) rfl Try.underlying96 rfl infReplyW_3 rfl rfl rfl)) ?_
 refine GH_all [12] (by kernel_rfl) (by decide) ?_
 refine (And.intro ?_ trivial)
 · skip
   refine GHop_new rfl rfl rfl rfl (N_buildAll (s := 1) (cs := [_, _, _, _]) rfl Try.underlying98 infReplyW_99 rfl rfl rfl rfl rfl rfl rfl rfl rfl) [] (fun _ => ⟨_, rfl⟩) (fun b15 => ?_)
   refine GH_take 13 rfl rfl rfl rfl (by kernel_rfl) (by kernel_rfl) (by kernel_rfl) (fun _ _ => (V_assign rfl rfl)) ?_
   refine GH_done (by kernel_rfl) ?_
   refine G_ret (post := [_]) Try.func72 rfl (RVs_cons (RV_tmp rfl) RVs_nil) [0] rfl ?_
   dsimp only [packed]
   exact ⟨_, rfl, rfl⟩

set_option maxRecDepth 100000 in
set_option maxHeartbeats 1000000 in
theorem rep_same1 (r1 o1 r2 o2 : Nat) (c1 c2 : Array Value) (T1 T2 : TypeId) (f1 f2 : Nat × Nat) (x y : Int) (h1 : c1[o1]? = some (.int .i64 x)) (h2 : c2[o2]? = some (.int .i64 y)) :
    Ct Try.prog 63 [.pointer (some ⟨r1, o1, none⟩), .pointer (some ⟨r2, o2, none⟩)] [(some r1, .cells c1 T1 f1), (some r2, .cells c2 T2 f2)] [] fun v post => v = .bool (decide (x = y)) ∧ post = [] := by
 refine ct_of Try.func63 rfl rfl (fun w0 => ?_)
 show G _ _ [(0, _), (1, _)] _ _
 refine G_seq ?_
 refine G_region (l := [0]) rfl ?_
 refine G_val rfl rfl rfl rfl (V_assign rfl rfl) ?_
 refine G_done ?_
 refine G_seq ?_
 refine G_draw mixedK (by kernel_rfl) ?_
 refine GQ_val rfl rfl rfl rfl (V_move rfl rfl) ?_
 first
   | refine GQ_val rfl rfl rfl rfl (V_nilCheck rfl rfl) ?_
   | refine GQ_val rfl rfl rfl rfl (V_nilCheckF rfl rfl) ?_
 refine GQ_val rfl rfl rfl rfl (V_load1 rfl rfl (mem_at 0 rfl) (nth_of h1) Try.underlying3 rfl) ?_
 refine GQ_val rfl rfl rfl rfl (V_move rfl rfl) ?_
 first
   | refine GQ_val rfl rfl rfl rfl (V_nilCheck rfl rfl) ?_
   | refine GQ_val rfl rfl rfl rfl (V_nilCheckF rfl rfl) ?_
 refine GQ_val rfl rfl rfl rfl (V_load1 rfl rfl (mem_at 1 rfl) (nth_of h2) Try.underlying3 rfl) ?_
 refine GQ_val rfl rfl rfl rfl (V_eql rfl rfl rfl) ?_
 refine GQ_val rfl rfl rfl rfl (V_assign rfl rfl) ?_
 refine GQ_done rfl ?_
 refine G_ret (post := []) Try.func63 rfl (RVs_cons (RV_tmp rfl) RVs_nil) [] rfl ?_
 dsimp only [packed]
 exact ⟨rfl, rfl⟩

set_option maxRecDepth 100000 in
set_option maxHeartbeats 1000000 in
theorem rep_equal (s1 r1 k1 s2 r2 k2 : Nat) (c1 c2 : Array Value) (T1 T2 : TypeId) (f1 f2 : Nat × Nat) (ns ms : List Int) (n : Nat) (hn : n < 1000) (h1 : Holds c1 k1 ns) (h2 : Holds c2 k2 ms) (hl : ns.length = n) (hm : ms.length = n) :
    Ct Try.prog 61 [.slice (some ⟨s1, 0, none⟩) n n, .slice (some ⟨s2, 0, none⟩) n n, .func (.func 63) #[] #[]] [(some s1, .cells (ptrs r1 k1 n).toArray 99 (0, 0)), (some s2, .cells (ptrs r2 k2 n).toArray 99 (0, 0)), (some r1, .cells c1 T1 f1), (some r2, .cells c2 T2 f2)] [] fun v post => v = .bool (decide (ns = ms)) ∧ post = [] := by
 refine ct_of Try.func61 rfl rfl (fun w0 => ?_)
 show G _ _ [(0, _), (1, _), (2, _)] _ _
 refine G_seq ?_
 refine G_region (l := [0]) rfl ?_
 refine G_val rfl rfl rfl rfl (V_assign rfl rfl) ?_
 refine G_done ?_
 refine G_seq ?_
 refine G_seq ?_
 refine G_region (l := [0, 1, 2, 3, 4]) rfl ?_
 refine G_val rfl rfl rfl rfl (V_move rfl rfl) ?_
 refine G_val rfl rfl rfl rfl (V_len rfl rfl Try.underlying98 rfl) ?_
 refine G_val rfl rfl rfl rfl (V_move rfl rfl) ?_
 refine G_val rfl rfl rfl rfl (V_len rfl rfl Try.underlying98 rfl) ?_
 refine G_val rfl rfl rfl rfl (V_neq rfl rfl rfl) ?_
 refine G_done ?_
 refine G_ifD rfl (fun hc1 => ?_) (fun hc1 => ?_)
 · (exfalso; omega)
 refine G_skip ?_
 refine G_seq ?_
 refine G_seq ?_
 refine G_region (l := [0, 1, 2]) rfl ?_
 refine G_val rfl rfl rfl rfl (V_move rfl rfl) ?_
 refine G_val rfl rfl rfl rfl (V_len rfl rfl Try.underlying98 rfl) ?_
 refine G_val rfl rfl rfl rfl (V_move rfl rfl) ?_
 refine G_done ?_
 refine G_block ?_
 refine G_sub ?he4 [] ?hl4 (G_loop (X := Nat) (fun i => i ≤ n ∧ ns.take i = ms.take i) (fun i => n - i) (fun i => [(0, .slice (some ⟨s1, 0, none⟩) n n), (1, .slice (some ⟨s2, 0, none⟩) n n), (2, .func (.func 63) #[] #[]), (15, .slice (some ⟨s1, 0, none⟩) n n), (16, .int .i64 (n : Int)), (17, .int .i64 (i : Int))]) (fun i => []) ?round4 0 ?h04)
 case he4 => exact (And.intro rfl (And.intro rfl (And.intro rfl (And.intro rfl (And.intro rfl (And.intro rfl trivial))))))
 case hl4 => exact ⟨_, rfl⟩
 case h04 => exact ⟨Nat.zero_le _, rfl⟩
 case round4 =>
  intro i hJ ih
  try dsimp only at hJ ih
  obtain ⟨hi, ht⟩ := hJ
  refine G_seq ?_
  refine G_region (l := [0]) rfl ?_
  refine G_val rfl rfl rfl rfl (V_lss rfl rfl rfl) ?_
  refine G_done ?_
  refine G_seq ?_
  refine G_ifD rfl (fun hc2 => ?_) (fun hc2 => ?_)
  · skip
    refine G_skip ?_
    refine G_seq ?_
    refine G_block ?_
    refine G_seq ?_
    have hlt : i < n := by omega
    obtain ⟨x, hx⟩ := getI (show i < ns.length by omega)
    obtain ⟨y, hy⟩ := getI (show i < ms.length by omega)
    refine G_region (l := [0, 1, 2, 3, 4]) rfl ?_
    refine G_val rfl rfl rfl rfl (V_move rfl rfl) ?_
    first
      | refine G_val rfl rfl rfl rfl (V_indexAddrN rfl Try.underlying98 infReplyW_99 rfl rfl rfl rfl (by omega)) ?_
      | refine G_val rfl rfl rfl rfl (V_indexAddr rfl Try.underlying98 infReplyW_99 rfl rfl rfl (by omega) (by first | omega | (simp [ltCells]; done) | (simp [ltCells]; omega) | (simp [ltCells] at *; omega))) ?_
    refine G_val rfl rfl rfl rfl (V_load1 rfl rfl (mem_at 0 rfl) (nth_of (ptrs_get _ _ _ _ hlt)) Try.underlying99 rfl) ?_
    refine G_val rfl rfl rfl rfl (V_assign rfl rfl) ?_
    refine G_val rfl rfl rfl rfl (V_assign rfl rfl) ?_
    refine G_done ?_
    refine G_seq ?_
    refine G_region (l := [0, 1, 2, 3, 4]) rfl ?_
    refine G_val rfl rfl rfl rfl (V_move rfl rfl) ?_
    refine G_val rfl rfl rfl rfl (V_move rfl rfl) ?_
    first
      | refine G_val rfl rfl rfl rfl (V_indexAddrN rfl Try.underlying98 infReplyW_99 rfl rfl rfl rfl (by omega)) ?_
      | refine G_val rfl rfl rfl rfl (V_indexAddr rfl Try.underlying98 infReplyW_99 rfl rfl rfl (by omega) (by first | omega | (simp [ltCells]; done) | (simp [ltCells]; omega) | (simp [ltCells] at *; omega))) ?_
    refine G_val rfl rfl rfl rfl (V_load1 rfl rfl (mem_at 1 rfl) (nth_of (ptrs_get _ _ _ _ hlt)) Try.underlying99 rfl) ?_
    refine G_val rfl rfl rfl rfl (V_assign rfl rfl) ?_
    refine G_done ?_
    refine G_seq ?_
    refine G_region (l := [0, 1, 2, 3, 4]) rfl ?_
    refine G_val rfl rfl rfl rfl (V_move rfl rfl) ?_
    refine G_val rfl rfl rfl rfl (V_move rfl rfl) ?_
    refine G_val rfl rfl rfl rfl (V_move rfl rfl) ?_
    refine G_callC (L2 := []) rfl rfl rfl rfl rfl rfl Try.call63 rfl (rep_same1 _ _ _ _ _ _ _ _ _ _ x y (h1 _ _ hx) (h2 _ _ hy)) [] [2, 3] rfl rfl ?_
    rintro v post ⟨rfl, rfl⟩
    refine G_val rfl rfl rfl rfl (V_notD rfl rfl) ?_
    refine G_done ?_
    refine G_ifD rfl (fun hc3 => ?_) (fun hc3 => ?_)
    · skip
      refine G_seq ?_
      refine G_region (l := [0]) rfl ?_
      refine G_val rfl rfl rfl rfl (V_assign rfl rfl) ?_
      refine G_done ?_
      refine G_ret (post := []) Try.func61 rfl (RVs_cons (RV_tmp rfl) RVs_nil) [] rfl ?_
      dsimp only [packed]
      first
        | exact ⟨bool_eq (decide_eq_false (ne_at hx hy (by omega))).symm, rfl⟩
        | exact ⟨bool_eq (decide_eq_true (eq_end ht (by omega) (by omega))).symm, rfl⟩
    refine G_skip ?_
    refine G_inBlock ?_
    refine G_region (l := [0, 1]) rfl ?_
    first
      | refine G_val rfl rfl rfl rfl ((V_add rfl rfl rfl).int (wrap_i64 (by omega))) ?_
      | refine G_val rfl rfl rfl rfl (V_add rfl rfl rfl) ?_
    refine G_val rfl rfl rfl rfl (V_move rfl rfl) ?_
    refine G_done ?_
    refine G_sub ?_ [] ?_ (ih (i + 1) ?_ ?_)
    · (refine (And.intro ?_ (And.intro ?_ (And.intro ?_ (And.intro ?_ (And.intro ?_ (And.intro ?_ trivial)))))) <;> first | rfl | exact slot_int (by omega) | exact slot_int (by simp))
    · exact ⟨_, rfl⟩
    · exact ⟨by omega, eq_next ht hx hy (by omega)⟩
    · (first | omega | (dsimp only; omega))
  refine G_exit rfl ?_
  refine G_seq ?_
  refine G_region (l := [0]) rfl ?_
  refine G_val rfl rfl rfl rfl (V_assign rfl rfl) ?_
  refine G_done ?_
  refine G_ret (post := []) Try.func61 rfl (RVs_cons (RV_tmp rfl) RVs_nil) [] rfl ?_
  dsimp only [packed]
  first
    | exact ⟨bool_eq (decide_eq_false (ne_at hx hy (by omega))).symm, rfl⟩
    | exact ⟨bool_eq (decide_eq_true (eq_end ht (by omega) (by omega))).symm, rfl⟩


def ltLits (l : Lt) : List Lit := [.int .i64 l.a, .int .i64 l.b, .int .i64 l.c, .int .i64 l.d, .string l.tx, .int .u64 (l.n : Int)]
theorem ltLits_inj {x y : Lt} (h : ltLits x = ltLits y) : x = y := by
  obtain ⟨a, b, c, d, e, f⟩ := x
  obtain ⟨a', b', c', d', e', f'⟩ := y
  simp only [ltLits, List.cons.injEq, Lit.int.injEq, Lit.string.injEq, true_and, and_true] at h
  obtain ⟨h1, h2, h3, h4, h5, h6⟩ := h
  subst h1 h2 h3 h4 h5
  have : f = f' := by omega
  subst this
  rfl
set_option maxRecDepth 100000 in
theorem key_lt (l : Lt) (h : LtOk l) : Try.prog.keyLits 2 96 (ltCells l).toArray.toList = some (ltLits l) := by
  refine fits_keys Try.underlying96 (by kernel_rfl) (by kernel_rfl) ?_
  refine ⟨rfl, (by kernel_rfl), key_int Try.underlying3 h.a.1 h.a.2, ?_⟩
  refine ⟨rfl, (by kernel_rfl), key_int Try.underlying3 h.b.1 h.b.2, ?_⟩
  refine ⟨rfl, (by kernel_rfl), key_int Try.underlying3 h.c.1 h.c.2, ?_⟩
  refine ⟨rfl, (by kernel_rfl), key_int Try.underlying3 h.d.1 h.d.2, ?_⟩
  refine ⟨rfl, (by kernel_rfl), key_str Try.underlying9 h.tx, ?_⟩
  have hn : (l.n : Int) ≤ IntKind.u64.max := by have := h.n; show _ ≤ (18446744073709551615 : Int); omega
  exact ⟨rfl, (by kernel_rfl), key_int Try.underlying94 (by show (0 : Int) ≤ _; omega) hn, trivial⟩

set_option maxRecDepth 100000 in
set_option maxHeartbeats 1000000 in
theorem rep_letters (o1 : Option Nat) (p1 q1 : Nat) (c1 : Array Value) (T1 : TypeId) (f1 : Nat × Nat) (ls : List Lt) (h1 : Sees 6 o1 p1 q1 c1 (ls.flatMap ltCells) ls.length) (ok1 : ∀ l ∈ ls, LtOk l) (o2 : Option Nat) (p2 q2 : Nat) (c2 : Array Value) (T2 : TypeId) (f2 : Nat × Nat) (ms : List Lt) (h2 : Sees 6 o2 p2 q2 c2 (ms.flatMap ltCells) ms.length) (ok2 : ∀ l ∈ ms, LtOk l) :
    Ct Try.prog 60 [sv o1 p1 ls.length q1, sv o2 p2 ms.length q2] [(o1, .cells c1 T1 f1), (o2, .cells c2 T2 f2)] [] fun v post => v = .bool (decide (ls = ms)) ∧ post = [] := by
 have hl1 := h1.le
 have hl2 := h1.max
 have hl3 := h2.le
 have hl4 := h2.max
 refine ct_of Try.func60 rfl rfl (fun w0 => ?_)
 show G _ _ [(0, _), (1, _)] _ _
 refine G_seq ?_
 refine G_region (l := [0]) rfl ?_
 refine G_val rfl rfl rfl rfl (V_assign rfl rfl) ?_
 refine G_done ?_
 refine G_seq ?_
 refine G_seq ?_
 refine G_region (l := [0, 1, 2, 3, 4]) rfl ?_
 refine G_val rfl rfl rfl rfl (V_move rfl rfl) ?_
 refine G_val rfl rfl rfl rfl (V_len rfl rfl Try.underlying23 rfl) ?_
 refine G_val rfl rfl rfl rfl (V_move rfl rfl) ?_
 refine G_val rfl rfl rfl rfl (V_len rfl rfl Try.underlying23 rfl) ?_
 refine G_val rfl rfl rfl rfl (V_neq rfl rfl rfl) ?_
 refine G_done ?_
 refine G_ifD rfl (fun hc1 => ?_) (fun hc1 => ?_)
 · skip
   refine G_seq ?_
   refine G_region (l := [0]) rfl ?_
   refine G_val rfl rfl rfl rfl (V_assign rfl rfl) ?_
   refine G_done ?_
   refine G_ret (post := []) Try.func60 rfl (RVs_cons (RV_tmp rfl) RVs_nil) [] rfl ?_
   dsimp only [packed]
   first
     | exact ⟨bool_eq (decide_eq_false (ne_len (by omega))).symm, rfl⟩
     | exact ⟨bool_eq (decide_eq_false (ne_at hx hy (fun e => absurd (congrArg ltLits e) (by assumption)))).symm, rfl⟩
     | exact ⟨bool_eq (decide_eq_true (eq_end ht (by omega) (by omega))).symm, rfl⟩
 refine G_skip ?_
 refine G_seq ?_
 refine G_seq ?_
 refine G_region (l := [0, 1, 2]) rfl ?_
 refine G_val rfl rfl rfl rfl (V_move rfl rfl) ?_
 refine G_val rfl rfl rfl rfl (V_len rfl rfl Try.underlying23 rfl) ?_
 refine G_val rfl rfl rfl rfl (V_move rfl rfl) ?_
 refine G_done ?_
 refine G_block ?_
 refine G_sub ?he4 [] ?hl4 (G_loop (X := Nat) (fun i => i ≤ ls.length ∧ ls.length = ms.length ∧ ls.take i = ms.take i) (fun i => ls.length - i) (fun i => [(0, sv o1 p1 ls.length q1), (1, sv o2 p2 ms.length q2), (12, .int .i64 (ls.length : Int)), (13, .int .i64 (i : Int))]) (fun i => []) ?round4 0 ?h04)
 case he4 => exact (And.intro rfl (And.intro rfl (And.intro rfl (And.intro rfl trivial))))
 case hl4 => exact ⟨_, rfl⟩
 case h04 => exact ⟨Nat.zero_le _, by omega, rfl⟩
 case round4 =>
  intro i hJ ih
  try dsimp only at hJ ih
  obtain ⟨hi, hlen, ht⟩ := hJ
  refine G_seq ?_
  refine G_region (l := [0]) rfl ?_
  refine G_val rfl rfl rfl rfl (V_lss rfl rfl rfl) ?_
  refine G_done ?_
  refine G_seq ?_
  refine G_ifD rfl (fun hc2 => ?_) (fun hc2 => ?_)
  · skip
    refine G_skip ?_
    refine G_seq ?_
    refine G_block ?_
    refine G_seq ?_
    refine G_region (l := [0, 1]) rfl ?_
    refine G_val rfl rfl rfl rfl (V_move rfl rfl) ?_
    refine G_val rfl rfl rfl rfl (V_assign rfl rfl) ?_
    refine G_done ?_
    refine G_seq ?_
    obtain ⟨x, hx⟩ := getI (show i < ls.length by omega)
    obtain ⟨y, hy⟩ := getI (show i < ms.length by omega)
    obtain ⟨b1, rfl⟩ := h1.isSome (by omega)
    obtain ⟨b2, rfl⟩ := h2.isSome (by omega)
    refine G_draw mixedK (by kernel_rfl) ?_
    refine GQ_val rfl rfl rfl rfl (V_move rfl rfl) ?_
    refine GQ_val rfl rfl rfl rfl (V_move rfl rfl) ?_
    first
      | refine GQ_val rfl rfl rfl rfl (V_indexAddrN rfl Try.underlying23 infReplyW_96 rfl rfl rfl rfl (by omega)) ?_
      | refine GQ_val rfl rfl rfl rfl (V_indexAddr rfl Try.underlying23 infReplyW_96 rfl rfl rfl (by omega) (by first | omega | (simp [ltCells]; done) | (simp [ltCells]; omega) | (simp [ltCells] at *; omega))) ?_
    refine GQ_val rfl rfl rfl rfl (V_loadA (s := 6) (vs := (ltCells x).toArray) rfl rfl (mem_at 0 rfl) Try.underlying96 rfl infReplyW_96 rfl (h1.elem lt_len hx) (by first | rfl | (simp [bcells_length, ltCells]; done) | (simp [bcells_length, ltCells]; omega) | (simp [bcells_length, *, ltCells]; done))) ?_
    refine GQ_val rfl rfl rfl rfl (V_move rfl rfl) ?_
    refine GQ_val rfl rfl rfl rfl (V_move rfl rfl) ?_
    first
      | refine GQ_val rfl rfl rfl rfl (V_indexAddrN rfl Try.underlying23 infReplyW_96 rfl rfl rfl rfl (by omega)) ?_
      | refine GQ_val rfl rfl rfl rfl (V_indexAddr rfl Try.underlying23 infReplyW_96 rfl rfl rfl (by omega) (by first | omega | (simp [ltCells]; done) | (simp [ltCells]; omega) | (simp [ltCells] at *; omega))) ?_
    refine GQ_val rfl rfl rfl rfl (V_loadA (s := 6) (vs := (ltCells y).toArray) rfl rfl (mem_at 1 rfl) Try.underlying96 rfl infReplyW_96 rfl (h2.elem lt_len hy) (by first | rfl | (simp [bcells_length, ltCells]; done) | (simp [bcells_length, ltCells]; omega) | (simp [bcells_length, *, ltCells]; done))) ?_
    refine GQ_val rfl rfl rfl rfl (V_aggneq (m := 6) rfl Try.eqGuardType96 (by kernel_rfl) (by decide) (formed_of Try.underlying96 rfl (by kernel_rfl : Try.prog.cellsOf 96 = 6) (by first | rfl | (simp [bcells_length, ltCells]; done) | (simp [bcells_length, ltCells]; omega) | (simp [bcells_length, *, ltCells]; done))) (formed_of Try.underlying96 rfl (by kernel_rfl : Try.prog.cellsOf 96 = 6) (by first | rfl | (simp [bcells_length, ltCells]; done) | (simp [bcells_length, ltCells]; omega) | (simp [bcells_length, *, ltCells]; done))) rfl rfl (key_lt x (ok1 _ (List.mem_of_getElem? hx))) (key_lt y (ok2 _ (List.mem_of_getElem? hy)))) ?_
    refine GQ_done rfl ?_
    refine G_ifD rfl (fun hc3 => ?_) (fun hc3 => ?_)
    · skip
      refine G_seq ?_
      refine G_region (l := [0]) rfl ?_
      refine G_val rfl rfl rfl rfl (V_assign rfl rfl) ?_
      refine G_done ?_
      refine G_ret (post := []) Try.func60 rfl (RVs_cons (RV_tmp rfl) RVs_nil) [] rfl ?_
      dsimp only [packed]
      first
        | exact ⟨bool_eq (decide_eq_false (ne_len (by omega))).symm, rfl⟩
        | exact ⟨bool_eq (decide_eq_false (ne_at hx hy (fun e => absurd (congrArg ltLits e) (by assumption)))).symm, rfl⟩
        | exact ⟨bool_eq (decide_eq_true (eq_end ht (by omega) (by omega))).symm, rfl⟩
    refine G_skip ?_
    refine G_inBlock ?_
    refine G_region (l := [0, 1]) rfl ?_
    first
      | refine G_val rfl rfl rfl rfl ((V_add rfl rfl rfl).int (wrap_i64 (by omega))) ?_
      | refine G_val rfl rfl rfl rfl (V_add rfl rfl rfl) ?_
    refine G_val rfl rfl rfl rfl (V_move rfl rfl) ?_
    refine G_done ?_
    refine G_sub ?_ [] ?_ (ih (i + 1) ?_ ?_)
    · (refine (And.intro ?_ (And.intro ?_ (And.intro ?_ (And.intro ?_ trivial)))) <;> first | rfl | exact slot_int (by omega) | exact slot_int (by simp))
    · exact ⟨_, rfl⟩
    · exact ⟨by omega, hlen, eq_next ht hx hy (ltLits_inj (Classical.not_not.1 (by assumption)))⟩
    · (first | omega | (dsimp only; omega))
  refine G_exit rfl ?_
  refine G_seq ?_
  refine G_region (l := [0]) rfl ?_
  refine G_val rfl rfl rfl rfl (V_assign rfl rfl) ?_
  refine G_done ?_
  refine G_ret (post := []) Try.func60 rfl (RVs_cons (RV_tmp rfl) RVs_nil) [] rfl ?_
  dsimp only [packed]
  first
    | exact ⟨bool_eq (decide_eq_false (ne_len (by omega))).symm, rfl⟩
    | exact ⟨bool_eq (decide_eq_false (ne_at hx hy (fun e => absurd (congrArg ltLits e) (by assumption)))).symm, rfl⟩
    | exact ⟨bool_eq (decide_eq_true (eq_end ht (by omega) (by omega))).symm, rfl⟩

set_option maxRecDepth 100000 in
set_option maxHeartbeats 1000000 in
theorem rrep_letters (o1 : Option Nat) (p1 q1 : Nat) (c1 : Array Value) (T1 : TypeId) (f1 : Nat × Nat) (ls : List Lt) (h1 : Sees 6 o1 p1 q1 c1 (ls.flatMap ltCells) ls.length) (ok1 : ∀ l ∈ ls, LtOk l) (o2 : Option Nat) (p2 q2 : Nat) (c2 : Array Value) (T2 : TypeId) (f2 : Nat × Nat) (ms : List Lt) (h2 : Sees 6 o2 p2 q2 c2 (ms.flatMap ltCells) ms.length) (ok2 : ∀ l ∈ ms, LtOk l) :
    Ct Try.prog 66 [sv o1 p1 ls.length q1, sv o2 p2 ms.length q2] [(o1, .cells c1 T1 f1), (o2, .cells c2 T2 f2)] [] fun v post => v = .bool (decide (ls = ms)) ∧ post = [] := by
 have hl1 := h1.le
 have hl2 := h1.max
 have hl3 := h2.le
 have hl4 := h2.max
 refine ct_of Try.func66 rfl rfl (fun w0 => ?_)
 show G _ _ [(0, _), (1, _)] _ _
 refine G_seq ?_
 refine G_region (l := [0]) rfl ?_
 refine G_val rfl rfl rfl rfl (V_assign rfl rfl) ?_
 refine G_done ?_
 refine G_seq ?_
 refine G_seq ?_
 refine G_region (l := [0, 1, 2, 3, 4]) rfl ?_
 refine G_val rfl rfl rfl rfl (V_move rfl rfl) ?_
 refine G_val rfl rfl rfl rfl (V_len rfl rfl Try.underlying23 rfl) ?_
 refine G_val rfl rfl rfl rfl (V_move rfl rfl) ?_
 refine G_val rfl rfl rfl rfl (V_len rfl rfl Try.underlying23 rfl) ?_
 refine G_val rfl rfl rfl rfl (V_neq rfl rfl rfl) ?_
 refine G_done ?_
 refine G_ifD rfl (fun hc1 => ?_) (fun hc1 => ?_)
 · skip
   refine G_seq ?_
   refine G_region (l := [0]) rfl ?_
   refine G_val rfl rfl rfl rfl (V_assign rfl rfl) ?_
   refine G_done ?_
   refine G_ret (post := []) Try.func66 rfl (RVs_cons (RV_tmp rfl) RVs_nil) [] rfl ?_
   dsimp only [packed]
   first
     | exact ⟨bool_eq (decide_eq_false (ne_len (by omega))).symm, rfl⟩
     | exact ⟨bool_eq (decide_eq_false (ne_at hx hy (fun e => absurd (congrArg ltLits e) (by assumption)))).symm, rfl⟩
     | exact ⟨bool_eq (decide_eq_true (eq_end ht (by omega) (by omega))).symm, rfl⟩
 refine G_skip ?_
 refine G_seq ?_
 refine G_seq ?_
 refine G_region (l := [0]) rfl ?_
 refine G_val rfl rfl rfl rfl (V_assign rfl rfl) ?_
 refine G_done ?_
 refine G_block ?_
 refine G_sub ?he4 [] ?hl4 (G_loop (X := Nat) (fun i => i ≤ ls.length ∧ ls.length = ms.length ∧ ls.take i = ms.take i) (fun i => ls.length - i) (fun i => [(0, sv o1 p1 ls.length q1), (1, sv o2 p2 ms.length q2), (5, .int .i64 (i : Int))]) (fun i => []) ?round4 0 ?h04)
 case he4 => exact (And.intro rfl (And.intro rfl (And.intro rfl trivial)))
 case hl4 => exact ⟨_, rfl⟩
 case h04 => exact ⟨Nat.zero_le _, by omega, rfl⟩
 case round4 =>
  intro i hJ ih
  try dsimp only at hJ ih
  obtain ⟨hi, hlen, ht⟩ := hJ
  refine G_seq ?_
  refine G_seq ?_
  refine G_region (l := [0, 1, 2, 3]) rfl ?_
  refine G_val rfl rfl rfl rfl (V_move rfl rfl) ?_
  refine G_val rfl rfl rfl rfl (V_move rfl rfl) ?_
  refine G_val rfl rfl rfl rfl (V_len rfl rfl Try.underlying23 rfl) ?_
  refine G_val rfl rfl rfl rfl (V_lss rfl rfl rfl) ?_
  refine G_done ?_
  refine G_ifD rfl (fun hc2 => ?_) (fun hc2 => ?_)
  · skip
    refine G_skip ?_
    refine G_seq ?_
    refine G_block ?_
    refine G_seq ?_
    obtain ⟨x, hx⟩ := getI (show i < ls.length by omega)
    obtain ⟨y, hy⟩ := getI (show i < ms.length by omega)
    obtain ⟨b1, rfl⟩ := h1.isSome (by omega)
    obtain ⟨b2, rfl⟩ := h2.isSome (by omega)
    refine G_draw mixedK (by kernel_rfl) ?_
    refine GQ_val rfl rfl rfl rfl (V_move rfl rfl) ?_
    refine GQ_val rfl rfl rfl rfl (V_move rfl rfl) ?_
    first
      | refine GQ_val rfl rfl rfl rfl (V_indexAddrN rfl Try.underlying23 infReplyW_96 rfl rfl rfl rfl (by omega)) ?_
      | refine GQ_val rfl rfl rfl rfl (V_indexAddr rfl Try.underlying23 infReplyW_96 rfl rfl rfl (by omega) (by first | omega | (simp [ltCells]; done) | (simp [ltCells]; omega) | (simp [ltCells] at *; omega))) ?_
    refine GQ_val rfl rfl rfl rfl (V_loadA (s := 6) (vs := (ltCells x).toArray) rfl rfl (mem_at 0 rfl) Try.underlying96 rfl infReplyW_96 rfl (h1.elem lt_len hx) (by first | rfl | (simp [bcells_length, ltCells]; done) | (simp [bcells_length, ltCells]; omega) | (simp [bcells_length, *, ltCells]; done))) ?_
    refine GQ_val rfl rfl rfl rfl (V_move rfl rfl) ?_
    refine GQ_val rfl rfl rfl rfl (V_move rfl rfl) ?_
    first
      | refine GQ_val rfl rfl rfl rfl (V_indexAddrN rfl Try.underlying23 infReplyW_96 rfl rfl rfl rfl (by omega)) ?_
      | refine GQ_val rfl rfl rfl rfl (V_indexAddr rfl Try.underlying23 infReplyW_96 rfl rfl rfl (by omega) (by first | omega | (simp [ltCells]; done) | (simp [ltCells]; omega) | (simp [ltCells] at *; omega))) ?_
    refine GQ_val rfl rfl rfl rfl (V_loadA (s := 6) (vs := (ltCells y).toArray) rfl rfl (mem_at 1 rfl) Try.underlying96 rfl infReplyW_96 rfl (h2.elem lt_len hy) (by first | rfl | (simp [bcells_length, ltCells]; done) | (simp [bcells_length, ltCells]; omega) | (simp [bcells_length, *, ltCells]; done))) ?_
    refine GQ_val rfl rfl rfl rfl (V_aggneq (m := 6) rfl Try.eqGuardType96 (by kernel_rfl) (by decide) (formed_of Try.underlying96 rfl (by kernel_rfl : Try.prog.cellsOf 96 = 6) (by first | rfl | (simp [bcells_length, ltCells]; done) | (simp [bcells_length, ltCells]; omega) | (simp [bcells_length, *, ltCells]; done))) (formed_of Try.underlying96 rfl (by kernel_rfl : Try.prog.cellsOf 96 = 6) (by first | rfl | (simp [bcells_length, ltCells]; done) | (simp [bcells_length, ltCells]; omega) | (simp [bcells_length, *, ltCells]; done))) rfl rfl (key_lt x (ok1 _ (List.mem_of_getElem? hx))) (key_lt y (ok2 _ (List.mem_of_getElem? hy)))) ?_
    refine GQ_done rfl ?_
    refine G_ifD rfl (fun hc3 => ?_) (fun hc3 => ?_)
    · skip
      refine G_seq ?_
      refine G_region (l := [0]) rfl ?_
      refine G_val rfl rfl rfl rfl (V_assign rfl rfl) ?_
      refine G_done ?_
      refine G_ret (post := []) Try.func66 rfl (RVs_cons (RV_tmp rfl) RVs_nil) [] rfl ?_
      dsimp only [packed]
      first
        | exact ⟨bool_eq (decide_eq_false (ne_len (by omega))).symm, rfl⟩
        | exact ⟨bool_eq (decide_eq_false (ne_at hx hy (fun e => absurd (congrArg ltLits e) (by assumption)))).symm, rfl⟩
        | exact ⟨bool_eq (decide_eq_true (eq_end ht (by omega) (by omega))).symm, rfl⟩
    refine G_skip ?_
    refine G_inBlock ?_
    refine G_region (l := [0, 1, 2]) rfl ?_
    refine G_val rfl rfl rfl rfl (V_move rfl rfl) ?_
    first
      | refine G_val rfl rfl rfl rfl ((V_add rfl rfl rfl).int (wrap_i64 (by omega))) ?_
      | refine G_val rfl rfl rfl rfl (V_add rfl rfl rfl) ?_
    refine G_val rfl rfl rfl rfl (V_assign rfl rfl) ?_
    refine G_done ?_
    refine G_sub ?_ [] ?_ (ih (i + 1) ?_ ?_)
    · (refine (And.intro ?_ (And.intro ?_ (And.intro ?_ trivial))) <;> first | rfl | exact slot_int (by omega) | exact slot_int (by simp))
    · exact ⟨_, rfl⟩
    · exact ⟨by omega, hlen, eq_next ht hx hy (ltLits_inj (Classical.not_not.1 (by assumption)))⟩
    · (first | omega | (dsimp only; omega))
  refine G_exit rfl ?_
  refine G_seq ?_
  refine G_region (l := [0]) rfl ?_
  refine G_val rfl rfl rfl rfl (V_assign rfl rfl) ?_
  refine G_done ?_
  refine G_ret (post := []) Try.func66 rfl (RVs_cons (RV_tmp rfl) RVs_nil) [] rfl ?_
  dsimp only [packed]
  first
    | exact ⟨bool_eq (decide_eq_false (ne_len (by omega))).symm, rfl⟩
    | exact ⟨bool_eq (decide_eq_false (ne_at hx hy (fun e => absurd (congrArg ltLits e) (by assumption)))).symm, rfl⟩
    | exact ⟨bool_eq (decide_eq_true (eq_end ht (by omega) (by omega))).symm, rfl⟩

set_option maxRecDepth 100000 in
set_option maxHeartbeats 1000000 in
theorem rep_out (r1 o1 : Nat) (c1 : Array Value) (T1 : TypeId) (f1 : Nat × Nat) (x : Int) (h1 : c1[o1]? = some (.int .i64 x)) :
    Ct Try.prog 81 [.pointer (some ⟨r1, o1, none⟩)] [(some r1, .cells c1 T1 f1)] [] fun v post => v = .bool (outB x) ∧ post = [] := by
 refine ct_of Try.func81 rfl rfl (fun w0 => ?_)
 show G _ _ [(0, _)] _ _
 refine G_seq ?_
 refine G_region (l := [0]) rfl ?_
 refine G_val rfl rfl rfl rfl (V_assign rfl rfl) ?_
 refine G_done ?_
 refine G_seq ?_
 refine G_region (l := [0, 1, 2, 3, 4, 5, 6, 7, 8, 9, 10]) rfl ?_
 refine G_val rfl rfl rfl rfl (V_move rfl rfl) ?_
 first
   | refine G_val rfl rfl rfl rfl (V_nilCheck rfl rfl) ?_
   | refine G_val rfl rfl rfl rfl (V_nilCheckF rfl rfl) ?_
 refine G_val rfl rfl rfl rfl (V_load1 rfl rfl (mem_at 0 rfl) (nth_of h1) Try.underlying3 rfl) ?_
 refine G_val rfl rfl rfl rfl (V_lss rfl rfl rfl) ?_
 refine G_val rfl rfl rfl rfl (V_move rfl rfl) ?_
 refine G_splitD 7 rfl (fun hc1 => ?_) (fun hc1 => ?_)
 · skip
   refine G_off rfl rfl rfl rfl ?_
   refine G_off rfl rfl rfl rfl ?_
   refine G_off rfl rfl rfl rfl ?_
   refine G_off rfl rfl rfl rfl ?_
   refine G_val rfl rfl rfl rfl (V_pickT rfl rfl rfl) ?_
   refine G_val rfl rfl rfl rfl (V_assign rfl rfl) ?_
   refine G_done ?_
   refine G_ret (post := []) Try.func81 rfl (RVs_cons (RV_tmp rfl) RVs_nil) [] rfl ?_
   dsimp only [packed]
   refine ⟨bool_eq ?_, rfl⟩; unfold outB; simp; try omega
 refine G_val rfl rfl rfl rfl (V_move rfl rfl) ?_
 first
   | refine G_val rfl rfl rfl rfl (V_nilCheck rfl rfl) ?_
   | refine G_val rfl rfl rfl rfl (V_nilCheckF rfl rfl) ?_
 refine G_val rfl rfl rfl rfl (V_load1 rfl rfl (mem_at 0 rfl) (nth_of h1) Try.underlying3 rfl) ?_
 refine G_val rfl rfl rfl rfl (V_gtr rfl rfl rfl) ?_
 refine G_val rfl rfl rfl rfl (V_pickF rfl rfl rfl) ?_
 refine G_val rfl rfl rfl rfl (V_assign rfl rfl) ?_
 refine G_done ?_
 refine G_ret (post := []) Try.func81 rfl (RVs_cons (RV_tmp rfl) RVs_nil) [] rfl ?_
 dsimp only [packed]
 refine ⟨bool_eq ?_, rfl⟩; unfold outB; simp; try omega

set_option maxRecDepth 100000 in
set_option maxHeartbeats 1000000 in
theorem rep_index (s1 r1 k1 : Nat) (c1 : Array Value) (T1 : TypeId) (f1 : Nat × Nat) (ns : List Int) (n : Nat) (hn : n < 1000) (h1 : Holds c1 k1 ns) (hl : ns.length = n) :
    Ct Try.prog 124 [.slice (some ⟨s1, 0, none⟩) n n, .func (.func 81) #[] #[]] [(some s1, .cells (ptrs r1 k1 n).toArray 99 (0, 0)), (some r1, .cells c1 T1 f1)] [] fun v post => (∃ z : Int, v = .int .i64 z ∧ decide (0 ≤ z) = ns.any outB) ∧ post = [] := by
 refine ct_of Try.func124 rfl rfl (fun w0 => ?_)
 show G _ _ [(0, _), (1, _)] _ _
 refine G_seq ?_
 refine G_region (l := [0]) rfl ?_
 refine G_val rfl rfl rfl rfl (V_assign rfl rfl) ?_
 refine G_done ?_
 refine G_seq ?_
 refine G_seq ?_
 refine G_region (l := [0, 1, 2]) rfl ?_
 refine G_val rfl rfl rfl rfl (V_move rfl rfl) ?_
 refine G_val rfl rfl rfl rfl (V_len rfl rfl Try.underlying98 rfl) ?_
 refine G_val rfl rfl rfl rfl (V_move rfl rfl) ?_
 refine G_done ?_
 refine G_block ?_
 refine G_sub ?he2 [] ?hl2 (G_loop (X := Nat) (fun i => i ≤ n ∧ (ns.take i).any outB = false) (fun i => n - i) (fun i => [(0, .slice (some ⟨s1, 0, none⟩) n n), (1, .func (.func 81) #[] #[]), (7, .int .i64 (n : Int)), (8, .int .i64 (i : Int))]) (fun i => []) ?round2 0 ?h02)
 case he2 => exact (And.intro rfl (And.intro rfl (And.intro rfl (And.intro rfl trivial))))
 case hl2 => exact ⟨_, rfl⟩
 case h02 => exact ⟨Nat.zero_le _, rfl⟩
 case round2 =>
  intro i hJ ih
  try dsimp only at hJ ih
  obtain ⟨hi, ht⟩ := hJ
  refine G_seq ?_
  refine G_region (l := [0]) rfl ?_
  refine G_val rfl rfl rfl rfl (V_lss rfl rfl rfl) ?_
  refine G_done ?_
  refine G_seq ?_
  refine G_ifD rfl (fun hc1 => ?_) (fun hc1 => ?_)
  · skip
    refine G_skip ?_
    refine G_seq ?_
    refine G_block ?_
    refine G_seq ?_
    refine G_region (l := [0, 1]) rfl ?_
    refine G_val rfl rfl rfl rfl (V_move rfl rfl) ?_
    refine G_val rfl rfl rfl rfl (V_assign rfl rfl) ?_
    refine G_done ?_
    refine G_seq ?_
    have hlt : i < n := by omega
    obtain ⟨x, hx⟩ := getI (show i < ns.length by omega)
    refine G_region (l := [0, 1, 2, 3, 4, 5]) rfl ?_
    refine G_val rfl rfl rfl rfl (V_move rfl rfl) ?_
    refine G_val rfl rfl rfl rfl (V_move rfl rfl) ?_
    refine G_val rfl rfl rfl rfl (V_move rfl rfl) ?_
    first
      | refine G_val rfl rfl rfl rfl (V_indexAddrN rfl Try.underlying98 infReplyW_99 rfl rfl rfl rfl (by omega)) ?_
      | refine G_val rfl rfl rfl rfl (V_indexAddr rfl Try.underlying98 infReplyW_99 rfl rfl rfl (by omega) (by first | omega | (simp [ltCells]; done) | (simp [ltCells]; omega) | (simp [ltCells] at *; omega))) ?_
    refine G_val rfl rfl rfl rfl (V_load1 rfl rfl (mem_at 0 rfl) (nth_of (ptrs_get _ _ _ _ hlt)) Try.underlying99 rfl) ?_
    refine G_callC (L2 := []) rfl rfl rfl rfl rfl rfl Try.call81 rfl (rep_out _ _ _ _ _ x (h1 _ _ hx)) [] [1] rfl rfl ?_
    rintro v post ⟨rfl, rfl⟩
    refine G_done ?_
    refine G_if rfl (fun hc2 => ?_) (fun hc2 => ?_)
    · skip
      refine G_seq ?_
      refine G_region (l := [0, 1]) rfl ?_
      refine G_val rfl rfl rfl rfl (V_move rfl rfl) ?_
      refine G_val rfl rfl rfl rfl (V_assign rfl rfl) ?_
      refine G_done ?_
      refine G_ret (post := []) Try.func124 rfl (RVs_cons (RV_tmp rfl) RVs_nil) [] rfl ?_
      dsimp only [packed]
      first
        | exact ⟨⟨_, rfl, by rw [any_yes hx (by assumption)]; simp⟩, rfl⟩
        | exact ⟨⟨_, rfl, by rw [any_end ht (by omega)]; rfl⟩, rfl⟩
    refine G_skip ?_
    refine G_inBlock ?_
    refine G_region (l := [0, 1]) rfl ?_
    first
      | refine G_val rfl rfl rfl rfl ((V_add rfl rfl rfl).int (wrap_i64 (by omega))) ?_
      | refine G_val rfl rfl rfl rfl (V_add rfl rfl rfl) ?_
    refine G_val rfl rfl rfl rfl (V_move rfl rfl) ?_
    refine G_done ?_
    refine G_sub ?_ [] ?_ (ih (i + 1) ?_ ?_)
    · (refine (And.intro ?_ (And.intro ?_ (And.intro ?_ (And.intro ?_ trivial)))) <;> first | rfl | exact slot_int (by omega) | exact slot_int (by simp))
    · exact ⟨_, rfl⟩
    · exact ⟨by omega, any_next ht hx (by assumption)⟩
    · (first | omega | (dsimp only; omega))
  refine G_exit rfl ?_
  refine G_seq ?_
  refine G_region (l := [0]) rfl ?_
  refine G_val rfl rfl rfl rfl (V_assign rfl rfl) ?_
  refine G_done ?_
  refine G_ret (post := []) Try.func124 rfl (RVs_cons (RV_tmp rfl) RVs_nil) [] rfl ?_
  dsimp only [packed]
  first
    | exact ⟨⟨_, rfl, by rw [any_yes hx (by assumption)]; simp⟩, rfl⟩
    | exact ⟨⟨_, rfl, by rw [any_end ht (by omega)]; rfl⟩, rfl⟩

set_option maxRecDepth 100000 in
set_option maxHeartbeats 1000000 in
theorem rep_contains (s1 r1 k1 : Nat) (c1 : Array Value) (T1 : TypeId) (f1 : Nat × Nat) (ns : List Int) (n : Nat) (hn : n < 1000) (h1 : Holds c1 k1 ns) (hl : ns.length = n) :
    Ct Try.prog 80 [.slice (some ⟨s1, 0, none⟩) n n, .func (.func 81) #[] #[]] [(some s1, .cells (ptrs r1 k1 n).toArray 99 (0, 0)), (some r1, .cells c1 T1 f1)] [] fun v post => v = .bool (ns.any outB) ∧ post = [] := by
 refine ct_of Try.func80 rfl rfl (fun w0 => ?_)
 show G _ _ [(0, _), (1, _)] _ _
 refine G_seq ?_
 refine G_region (l := [0]) rfl ?_
 refine G_val rfl rfl rfl rfl (V_assign rfl rfl) ?_
 refine G_done ?_
 refine G_seq ?_
 refine G_region (l := [0, 1, 2, 3, 4]) rfl ?_
 refine G_val rfl rfl rfl rfl (V_move rfl rfl) ?_
 refine G_val rfl rfl rfl rfl (V_move rfl rfl) ?_
 refine G_call (L2 := []) rfl rfl rfl rfl rfl rfl Try.call124 (rep_index _ _ _ _ _ _ _ _ (by omega) (by assumption) (by assumption)) [] [0, 1] rfl rfl ?_
 rintro v post ⟨⟨z, rfl, hz⟩, rfl⟩
 refine G_val rfl rfl rfl rfl (V_geq rfl rfl rfl) ?_
 refine G_val rfl rfl rfl rfl (V_assign rfl rfl) ?_
 refine G_done ?_
 refine G_ret (post := []) Try.func80 rfl (RVs_cons (RV_tmp rfl) RVs_nil) [] rfl ?_
 dsimp only [packed]
 exact ⟨bool_eq hz, rfl⟩

set_option maxRecDepth 100000 in
set_option maxHeartbeats 1000000 in
theorem rep_may1 (l : Lt) :
    Ct Try.prog 79 [.agg (ltCells l).toArray] [] [] fun v post => v = .bool (badL l) ∧ post = [] := by
 refine ct_of Try.func79 rfl rfl (fun w0 => ?_)
 show G _ _ [(0, _)] _ _
 refine G_seq ?_
 refine G_region (l := [0, 1]) rfl ?_
 refine G_new rfl rfl rfl rfl (N_boxA rfl rfl) (fun b1 => ?_)
 refine G_val rfl rfl rfl rfl (V_assign rfl rfl) ?_
 refine G_done ?_
 refine G_seq ?_
 refine G_region (l := [0, 1, 2, 3, 4, 5, 6, 7, 8]) rfl ?_
 refine G_val rfl rfl rfl rfl (V_fieldAddr (fo := 4) rfl Try.underlying96 rfl infReplyW_9 rfl rfl rfl) ?_
 refine G_val rfl rfl rfl rfl (V_load1 rfl rfl (mem_at 0 rfl) rfl Try.underlying9 rfl) ?_
 refine G_val rfl rfl rfl rfl (V_slen rfl rfl Try.underlying9 rfl) ?_
 refine G_val rfl rfl rfl rfl (V_gtr rfl rfl rfl) ?_
 refine G_val rfl rfl rfl rfl (V_move rfl rfl) ?_
 refine G_splitD 7 rfl (fun hc1 => ?_) (fun hc1 => ?_)
 · skip
   refine G_off rfl rfl rfl rfl ?_
   refine G_off rfl rfl rfl rfl ?_
   refine G_val rfl rfl rfl rfl (V_pickT rfl rfl rfl) ?_
   refine G_val rfl rfl rfl rfl (V_assign rfl rfl) ?_
   refine G_done ?_
   refine G_ret (post := []) Try.func79 rfl (RVs_cons (RV_tmp rfl) RVs_nil) [] rfl ?_
   dsimp only [packed]
   refine ⟨bool_eq ?_, rfl⟩; unfold badL; simp; try omega
 refine G_call (L2 := [_]) rfl rfl rfl rfl rfl rfl Try.call72 (rep_letter _) [] [] rfl rfl ?_
 rintro v post ⟨bn0, rfl, rfl⟩
 show G _ _ _ [_, _] _
 refine G_call (L2 := [_, _]) rfl rfl rfl rfl rfl rfl Try.call80 (rep_contains _ _ _ _ _ _ l.nums 4 (by omega) (holds_letter l) rfl) [] [0, 1] rfl rfl ?_
 rintro v post ⟨rfl, rfl⟩
 show G _ _ _ [_, _] _
 refine G_val rfl rfl rfl rfl (V_pickF rfl rfl rfl) ?_
 refine G_val rfl rfl rfl rfl (V_assign rfl rfl) ?_
 refine G_done ?_
 refine G_ret (post := []) Try.func79 rfl (RVs_cons (RV_tmp rfl) RVs_nil) [] rfl ?_
 dsimp only [packed]
 refine ⟨bool_eq ?_, rfl⟩; unfold badL; simp; try omega

set_option maxRecDepth 100000 in
set_option maxHeartbeats 1000000 in
theorem rep_indexl (o1 : Option Nat) (p1 q1 : Nat) (c1 : Array Value) (T1 : TypeId) (f1 : Nat × Nat) (ls : List Lt) (h1 : Sees 6 o1 p1 q1 c1 (ls.flatMap ltCells) ls.length) :
    Ct Try.prog 125 [sv o1 p1 ls.length q1, .func (.func 79) #[] #[]] [(o1, .cells c1 T1 f1)] [] fun v post => (∃ z : Int, v = .int .i64 z ∧ decide (0 ≤ z) = ls.any badL) ∧ post = [] := by
 have hl1 := h1.le
 have hl2 := h1.max
 refine ct_of Try.func125 rfl rfl (fun w0 => ?_)
 show G _ _ [(0, _), (1, _)] _ _
 refine G_seq ?_
 refine G_region (l := [0]) rfl ?_
 refine G_val rfl rfl rfl rfl (V_assign rfl rfl) ?_
 refine G_done ?_
 refine G_seq ?_
 refine G_seq ?_
 refine G_region (l := [0, 1, 2]) rfl ?_
 refine G_val rfl rfl rfl rfl (V_move rfl rfl) ?_
 refine G_val rfl rfl rfl rfl (V_len rfl rfl Try.underlying23 rfl) ?_
 refine G_val rfl rfl rfl rfl (V_move rfl rfl) ?_
 refine G_done ?_
 refine G_block ?_
 refine G_sub ?he2 [] ?hl2 (G_loop (X := Nat) (fun i => i ≤ ls.length ∧ (ls.take i).any badL = false) (fun i => ls.length - i) (fun i => [(0, sv o1 p1 ls.length q1), (1, .func (.func 79) #[] #[]), (7, .int .i64 (ls.length : Int)), (8, .int .i64 (i : Int))]) (fun i => []) ?round2 0 ?h02)
 case he2 => exact (And.intro rfl (And.intro rfl (And.intro rfl (And.intro rfl trivial))))
 case hl2 => exact ⟨_, rfl⟩
 case h02 => exact ⟨Nat.zero_le _, rfl⟩
 case round2 =>
  intro i hJ ih
  try dsimp only at hJ ih
  obtain ⟨hi, ht⟩ := hJ
  refine G_seq ?_
  refine G_region (l := [0]) rfl ?_
  refine G_val rfl rfl rfl rfl (V_lss rfl rfl rfl) ?_
  refine G_done ?_
  refine G_seq ?_
  refine G_ifD rfl (fun hc1 => ?_) (fun hc1 => ?_)
  · skip
    refine G_skip ?_
    refine G_seq ?_
    refine G_block ?_
    refine G_seq ?_
    refine G_region (l := [0, 1]) rfl ?_
    refine G_val rfl rfl rfl rfl (V_move rfl rfl) ?_
    refine G_val rfl rfl rfl rfl (V_assign rfl rfl) ?_
    refine G_done ?_
    refine G_seq ?_
    obtain ⟨x, hx⟩ := getI (show i < ls.length by omega)
    obtain ⟨b1, rfl⟩ := h1.isSome (by omega)
    refine G_region (l := [0, 1, 2, 3, 4, 5]) rfl ?_
    refine G_val rfl rfl rfl rfl (V_move rfl rfl) ?_
    refine G_val rfl rfl rfl rfl (V_move rfl rfl) ?_
    refine G_val rfl rfl rfl rfl (V_move rfl rfl) ?_
    first
      | refine G_val rfl rfl rfl rfl (V_indexAddrN rfl Try.underlying23 infReplyW_96 rfl rfl rfl rfl (by omega)) ?_
      | refine G_val rfl rfl rfl rfl (V_indexAddr rfl Try.underlying23 infReplyW_96 rfl rfl rfl (by omega) (by first | omega | (simp [ltCells]; done) | (simp [ltCells]; omega) | (simp [ltCells] at *; omega))) ?_
    refine G_val rfl rfl rfl rfl (V_loadA (s := 6) (vs := (ltCells x).toArray) rfl rfl (mem_at 0 rfl) Try.underlying96 rfl infReplyW_96 rfl (h1.elem lt_len hx) (by first | rfl | (simp [bcells_length, ltCells]; done) | (simp [bcells_length, ltCells]; omega) | (simp [bcells_length, *, ltCells]; done))) ?_
    refine G_callC (L2 := []) rfl rfl rfl rfl rfl rfl Try.call79 rfl (rep_may1 _) [] [] rfl rfl ?_
    rintro v post ⟨rfl, rfl⟩
    refine G_done ?_
    refine G_if rfl (fun hc2 => ?_) (fun hc2 => ?_)
    · skip
      refine G_seq ?_
      refine G_region (l := [0, 1]) rfl ?_
      refine G_val rfl rfl rfl rfl (V_move rfl rfl) ?_
      refine G_val rfl rfl rfl rfl (V_assign rfl rfl) ?_
      refine G_done ?_
      refine G_ret (post := []) Try.func125 rfl (RVs_cons (RV_tmp rfl) RVs_nil) [] rfl ?_
      dsimp only [packed]
      first
        | exact ⟨⟨_, rfl, by rw [any_yes hx (by assumption)]; simp⟩, rfl⟩
        | exact ⟨⟨_, rfl, by rw [any_end ht (by omega)]; rfl⟩, rfl⟩
    refine G_skip ?_
    refine G_inBlock ?_
    refine G_region (l := [0, 1]) rfl ?_
    first
      | refine G_val rfl rfl rfl rfl ((V_add rfl rfl rfl).int (wrap_i64 (by omega))) ?_
      | refine G_val rfl rfl rfl rfl (V_add rfl rfl rfl) ?_
    refine G_val rfl rfl rfl rfl (V_move rfl rfl) ?_
    refine G_done ?_
    refine G_sub ?_ [] ?_ (ih (i + 1) ?_ ?_)
    · (refine (And.intro ?_ (And.intro ?_ (And.intro ?_ (And.intro ?_ trivial)))) <;> first | rfl | exact slot_int (by omega) | exact slot_int (by simp))
    · exact ⟨_, rfl⟩
    · exact ⟨by omega, any_next ht hx (by assumption)⟩
    · (first | omega | (dsimp only; omega))
  refine G_exit rfl ?_
  refine G_seq ?_
  refine G_region (l := [0]) rfl ?_
  refine G_val rfl rfl rfl rfl (V_assign rfl rfl) ?_
  refine G_done ?_
  refine G_ret (post := []) Try.func125 rfl (RVs_cons (RV_tmp rfl) RVs_nil) [] rfl ?_
  dsimp only [packed]
  first
    | exact ⟨⟨_, rfl, by rw [any_yes hx (by assumption)]; simp⟩, rfl⟩
    | exact ⟨⟨_, rfl, by rw [any_end ht (by omega)]; rfl⟩, rfl⟩

set_option maxRecDepth 100000 in
set_option maxHeartbeats 1000000 in
theorem rep_containsl (o1 : Option Nat) (p1 q1 : Nat) (c1 : Array Value) (T1 : TypeId) (f1 : Nat × Nat) (ls : List Lt) (h1 : Sees 6 o1 p1 q1 c1 (ls.flatMap ltCells) ls.length) :
    Ct Try.prog 82 [sv o1 p1 ls.length q1, .func (.func 79) #[] #[]] [(o1, .cells c1 T1 f1)] [] fun v post => v = .bool (ls.any badL) ∧ post = [] := by
 refine ct_of Try.func82 rfl rfl (fun w0 => ?_)
 show G _ _ [(0, _), (1, _)] _ _
 refine G_seq ?_
 refine G_region (l := [0]) rfl ?_
 refine G_val rfl rfl rfl rfl (V_assign rfl rfl) ?_
 refine G_done ?_
 refine G_seq ?_
 refine G_region (l := [0, 1, 2, 3, 4]) rfl ?_
 refine G_val rfl rfl rfl rfl (V_move rfl rfl) ?_
 refine G_val rfl rfl rfl rfl (V_move rfl rfl) ?_
 refine G_call (L2 := []) rfl rfl rfl rfl rfl rfl Try.call125 (rep_indexl _ _ _ _ _ _ _ (by assumption)) [] [0] rfl rfl ?_
 rintro v post ⟨⟨z, rfl, hz⟩, rfl⟩
 refine G_val rfl rfl rfl rfl (V_geq rfl rfl rfl) ?_
 refine G_val rfl rfl rfl rfl (V_assign rfl rfl) ?_
 refine G_done ?_
 refine G_ret (post := []) Try.func82 rfl (RVs_cons (RV_tmp rfl) RVs_nil) [] rfl ?_
 dsimp only [packed]
 exact ⟨bool_eq hz, rfl⟩

set_option maxRecDepth 100000 in
set_option maxHeartbeats 1000000 in
theorem rep_may (r : Rp) (o1 : Option Nat) (p1 q1 : Nat) (c1 : Array Value) (T1 : TypeId) (f1 : Nat × Nat) (ls : List Lt) (h1 : Sees 6 o1 p1 q1 c1 (ls.flatMap ltCells) ls.length) :
    Ct Try.prog 19 [(.agg (rpCells r (sv o1 p1 ls.length q1)).toArray)] [(o1, .cells c1 T1 f1)] [] fun v post => v = .bool (mayR r ls) ∧ post = [] := by
 refine ct_of Try.func19 rfl rfl (fun w0 => ?_)
 show G _ _ [(0, _)] _ _
 refine G_seq ?_
 refine G_region (l := [0, 1]) rfl ?_
 refine G_new rfl rfl rfl rfl (N_boxA rfl rfl) (fun b1 => ?_)
 refine G_val rfl rfl rfl rfl (V_assign rfl rfl) ?_
 refine G_done ?_
 refine G_seq ?_
 refine G_region (l := [0, 1, 2, 3]) rfl ?_
 refine G_val rfl rfl rfl rfl (V_fieldAddr (fo := 1) rfl Try.underlying25 rfl infReplyW_22 rfl rfl rfl) ?_
 refine G_val rfl rfl rfl rfl (V_load1 rfl rfl (mem_at 1 rfl) rfl Try.underlying22 rfl) ?_
 refine G_new rfl rfl rfl rfl (N_alloc1 rfl infReplyW_3 rfl rfl) (fun b3 => ?_)
 refine G_put (l1 := []) (L' := [_, _]) rfl rfl rfl rfl (P_store1 rfl rfl rfl (mem_at 0 rfl) (by first | exact of_decide_eq_true rfl | omega | (simp [ltCells]; done) | (simp [ltCells]; omega) | (simp [ltCells] at *; omega)) infReplyW_3 rfl rfl) rfl ?_
 refine G_done ?_
 refine G_seq ?_
 refine G_region (l := [0]) rfl ?_
 refine G_val rfl rfl rfl rfl (V_assign rfl rfl) ?_
 refine G_done ?_
 refine G_seq ?_
 refine G_region (l := [0, 1, 2, 3, 4, 5, 6, 7, 8, 9, 10, 11, 12, 13, 14, 15, 16, 17, 18, 19, 20, 21, 22, 23, 24, 25, 26, 27, 28, 29, 30, 31, 32]) rfl ?_
 refine G_val rfl rfl rfl rfl (V_fieldAddr (fo := 0) rfl Try.underlying25 rfl infReplyW_9 rfl rfl rfl) ?_
 refine G_val rfl rfl rfl rfl (V_load1 rfl rfl (mem_at 2 rfl) rfl Try.underlying9 rfl) ?_
 refine G_val rfl rfl rfl rfl (V_slen rfl rfl Try.underlying9 rfl) ?_
 refine G_val rfl rfl rfl rfl (V_leq rfl rfl rfl) ?_
 refine G_val rfl rfl rfl rfl (V_move rfl rfl) ?_
 refine G_splitD 11 rfl (fun hc1 => ?_) (fun hc1 => ?_)
 · skip
   refine G_val rfl rfl rfl rfl (V_fieldAddr (fo := 10) rfl Try.underlying25 rfl infReplyW_9 rfl rfl rfl) ?_
   refine G_val rfl rfl rfl rfl (V_load1 rfl rfl (mem_at 2 rfl) rfl Try.underlying9 rfl) ?_
   refine G_val rfl rfl rfl rfl (V_slen rfl rfl Try.underlying9 rfl) ?_
   refine G_val rfl rfl rfl rfl (V_leq rfl rfl rfl) ?_
   refine G_val rfl rfl rfl rfl (V_pickT rfl rfl rfl) ?_
   refine G_val rfl rfl rfl rfl (V_move rfl rfl) ?_
   refine G_splitD 17 rfl (fun hc2 => ?_) (fun hc2 => ?_)
   · skip
     refine G_call (L2 := [_, _]) rfl rfl rfl rfl rfl rfl Try.call81 (rep_out _ _ _ _ _ r.code rfl) [] [1] rfl rfl ?_
     rintro v post ⟨rfl, rfl⟩
     show G _ _ _ [_, _] _
     refine G_val rfl rfl rfl rfl (V_not rfl rfl) ?_
     refine G_val rfl rfl rfl rfl (V_pickT rfl rfl rfl) ?_
     refine G_val rfl rfl rfl rfl (V_move rfl rfl) ?_
     refine G_split 21 rfl (fun hc3 => ?_) (fun hc3 => ?_)
     · skip
       refine G_call (L2 := [_, _]) rfl rfl rfl rfl rfl rfl Try.call62 (rep_numbers _) [] [] rfl rfl ?_
       rintro v post ⟨bn0, rfl, rfl⟩
       show G _ _ _ [_, _, _] _
       refine G_call (L2 := [_, _, _]) rfl rfl rfl rfl rfl rfl Try.call80 (rep_contains _ _ _ _ _ _ r.nums 8 (by omega) (holds_nums r _) rfl) [] [1, 3] rfl rfl ?_
       rintro v post ⟨rfl, rfl⟩
       show G _ _ _ [_, _, _] _
       refine G_val rfl rfl rfl rfl (V_not rfl rfl) ?_
       refine G_val rfl rfl rfl rfl (V_pickT rfl rfl rfl) ?_
       refine G_val rfl rfl rfl rfl (V_move rfl rfl) ?_
       refine G_split 26 rfl (fun hc4 => ?_) (fun hc4 => ?_)
       · skip
         refine G_val rfl rfl rfl rfl (V_fieldAddr (fo := 11) rfl Try.underlying25 rfl infReplyW_23 rfl rfl rfl) ?_
         refine G_val rfl rfl rfl rfl (V_load1 rfl rfl (mem_at 3 rfl) rfl Try.underlying23 rfl) ?_
         refine G_val rfl rfl rfl rfl (V_len rfl rfl Try.underlying23 rfl) ?_
         refine G_val rfl rfl rfl rfl (V_leq rfl rfl rfl) ?_
         refine G_val rfl rfl rfl rfl (V_pickT rfl rfl rfl) ?_
         refine G_val rfl rfl rfl rfl (V_move rfl rfl) ?_
         refine G_splitD 32 rfl (fun hc5 => ?_) (fun hc5 => ?_)
         · skip
           refine G_val rfl rfl rfl rfl (V_fieldAddr (fo := 11) rfl Try.underlying25 rfl infReplyW_23 rfl rfl rfl) ?_
           refine G_val rfl rfl rfl rfl (V_load1 rfl rfl (mem_at 3 rfl) rfl Try.underlying23 rfl) ?_
           refine G_val rfl rfl rfl rfl (V_move rfl rfl) ?_
           refine G_call (L2 := [_, _, _]) rfl rfl rfl rfl rfl rfl Try.call82 (rep_containsl _ _ _ _ _ _ _ (by assumption)) [] [0] rfl rfl ?_
           rintro v post ⟨rfl, rfl⟩
           show G _ _ _ [_, _, _] _
           refine G_val rfl rfl rfl rfl (V_not rfl rfl) ?_
           refine G_val rfl rfl rfl rfl (V_pickT rfl rfl rfl) ?_
           refine G_val rfl rfl rfl rfl (V_assign rfl rfl) ?_
           refine G_done ?_
           refine G_ret (post := []) Try.func19 rfl (RVs_cons (RV_tmp rfl) RVs_nil) [] rfl ?_
           dsimp only [packed]
           refine ⟨bool_eq ?_, rfl⟩; unfold mayR; simp [*, -List.any_eq_true, -List.any_eq_false]
         refine G_off rfl rfl rfl rfl ?_
         refine G_off rfl rfl rfl rfl ?_
         refine G_off rfl rfl rfl rfl ?_
         refine G_off rfl rfl rfl rfl ?_
         refine G_off rfl rfl rfl rfl ?_
         refine G_val rfl rfl rfl rfl (V_pickF rfl rfl rfl) ?_
         refine G_val rfl rfl rfl rfl (V_assign rfl rfl) ?_
         refine G_done ?_
         refine G_ret (post := []) Try.func19 rfl (RVs_cons (RV_tmp rfl) RVs_nil) [] rfl ?_
         dsimp only [packed]
         refine ⟨bool_eq ?_, rfl⟩; unfold mayR; simp [*, -List.any_eq_true, -List.any_eq_false]
       refine G_off rfl rfl rfl rfl ?_
       refine G_off rfl rfl rfl rfl ?_
       refine G_off rfl rfl rfl rfl ?_
       refine G_off rfl rfl rfl rfl ?_
       refine G_val rfl rfl rfl rfl (V_pickF rfl rfl rfl) ?_
       refine G_val rfl rfl rfl rfl (V_move rfl rfl) ?_
       refine G_off rfl rfl rfl rfl ?_
       refine G_off rfl rfl rfl rfl ?_
       refine G_off rfl rfl rfl rfl ?_
       refine G_off rfl rfl rfl rfl ?_
       refine G_off rfl rfl rfl rfl ?_
       refine G_val rfl rfl rfl rfl (V_pickF rfl rfl rfl) ?_
       refine G_val rfl rfl rfl rfl (V_assign rfl rfl) ?_
       refine G_done ?_
       refine G_ret (post := []) Try.func19 rfl (RVs_cons (RV_tmp rfl) RVs_nil) [] rfl ?_
       dsimp only [packed]
       refine ⟨bool_eq ?_, rfl⟩; unfold mayR; simp [*, -List.any_eq_true, -List.any_eq_false]
     refine G_off rfl rfl rfl rfl ?_
     refine G_off rfl rfl rfl rfl ?_
     refine G_off rfl rfl rfl rfl ?_
     refine G_val rfl rfl rfl rfl (V_pickF rfl rfl rfl) ?_
     refine G_val rfl rfl rfl rfl (V_move rfl rfl) ?_
     refine G_off rfl rfl rfl rfl ?_
     refine G_off rfl rfl rfl rfl ?_
     refine G_off rfl rfl rfl rfl ?_
     refine G_off rfl rfl rfl rfl ?_
     refine G_val rfl rfl rfl rfl (V_pickF rfl rfl rfl) ?_
     refine G_val rfl rfl rfl rfl (V_move rfl rfl) ?_
     refine G_off rfl rfl rfl rfl ?_
     refine G_off rfl rfl rfl rfl ?_
     refine G_off rfl rfl rfl rfl ?_
     refine G_off rfl rfl rfl rfl ?_
     refine G_off rfl rfl rfl rfl ?_
     refine G_val rfl rfl rfl rfl (V_pickF rfl rfl rfl) ?_
     refine G_val rfl rfl rfl rfl (V_assign rfl rfl) ?_
     refine G_done ?_
     refine G_ret (post := []) Try.func19 rfl (RVs_cons (RV_tmp rfl) RVs_nil) [] rfl ?_
     dsimp only [packed]
     refine ⟨bool_eq ?_, rfl⟩; unfold mayR; simp [*, -List.any_eq_true, -List.any_eq_false]
   refine G_off rfl rfl rfl rfl ?_
   refine G_off rfl rfl rfl rfl ?_
   refine G_val rfl rfl rfl rfl (V_pickF rfl rfl rfl) ?_
   refine G_val rfl rfl rfl rfl (V_move rfl rfl) ?_
   refine G_off rfl rfl rfl rfl ?_
   refine G_off rfl rfl rfl rfl ?_
   refine G_off rfl rfl rfl rfl ?_
   refine G_val rfl rfl rfl rfl (V_pickF rfl rfl rfl) ?_
   refine G_val rfl rfl rfl rfl (V_move rfl rfl) ?_
   refine G_off rfl rfl rfl rfl ?_
   refine G_off rfl rfl rfl rfl ?_
   refine G_off rfl rfl rfl rfl ?_
   refine G_off rfl rfl rfl rfl ?_
   refine G_val rfl rfl rfl rfl (V_pickF rfl rfl rfl) ?_
   refine G_val rfl rfl rfl rfl (V_move rfl rfl) ?_
   refine G_off rfl rfl rfl rfl ?_
   refine G_off rfl rfl rfl rfl ?_
   refine G_off rfl rfl rfl rfl ?_
   refine G_off rfl rfl rfl rfl ?_
   refine G_off rfl rfl rfl rfl ?_
   refine G_val rfl rfl rfl rfl (V_pickF rfl rfl rfl) ?_
   refine G_val rfl rfl rfl rfl (V_assign rfl rfl) ?_
   refine G_done ?_
   refine G_ret (post := []) Try.func19 rfl (RVs_cons (RV_tmp rfl) RVs_nil) [] rfl ?_
   dsimp only [packed]
   refine ⟨bool_eq ?_, rfl⟩; unfold mayR; simp [*, -List.any_eq_true, -List.any_eq_false]
 refine G_off rfl rfl rfl rfl ?_
 refine G_off rfl rfl rfl rfl ?_
 refine G_off rfl rfl rfl rfl ?_
 refine G_off rfl rfl rfl rfl ?_
 refine G_val rfl rfl rfl rfl (V_pickF rfl rfl rfl) ?_
 refine G_val rfl rfl rfl rfl (V_move rfl rfl) ?_
 refine G_off rfl rfl rfl rfl ?_
 refine G_off rfl rfl rfl rfl ?_
 refine G_val rfl rfl rfl rfl (V_pickF rfl rfl rfl) ?_
 refine G_val rfl rfl rfl rfl (V_move rfl rfl) ?_
 refine G_off rfl rfl rfl rfl ?_
 refine G_off rfl rfl rfl rfl ?_
 refine G_off rfl rfl rfl rfl ?_
 refine G_val rfl rfl rfl rfl (V_pickF rfl rfl rfl) ?_
 refine G_val rfl rfl rfl rfl (V_move rfl rfl) ?_
 refine G_off rfl rfl rfl rfl ?_
 refine G_off rfl rfl rfl rfl ?_
 refine G_off rfl rfl rfl rfl ?_
 refine G_off rfl rfl rfl rfl ?_
 refine G_val rfl rfl rfl rfl (V_pickF rfl rfl rfl) ?_
 refine G_val rfl rfl rfl rfl (V_move rfl rfl) ?_
 refine G_off rfl rfl rfl rfl ?_
 refine G_off rfl rfl rfl rfl ?_
 refine G_off rfl rfl rfl rfl ?_
 refine G_off rfl rfl rfl rfl ?_
 refine G_off rfl rfl rfl rfl ?_
 refine G_val rfl rfl rfl rfl (V_pickF rfl rfl rfl) ?_
 refine G_val rfl rfl rfl rfl (V_assign rfl rfl) ?_
 refine G_done ?_
 refine G_ret (post := []) Try.func19 rfl (RVs_cons (RV_tmp rfl) RVs_nil) [] rfl ?_
 dsimp only [packed]
 refine ⟨bool_eq ?_, rfl⟩; unfold mayR; simp [*, -List.any_eq_true, -List.any_eq_false]


def iCell (x : Int) : Value := .int .i64 x
theorem rp_eq {r s : Rp} (h1 : r.to_ = s.to_) (h2 : r.code = s.code) (h3 : r.cmd = s.cmd) (h4 : r.nums = s.nums) : r = s := by
  obtain ⟨⟩ := r
  obtain ⟨⟩ := s
  simp only [Rp.nums, List.cons.injEq, and_true] at h1 h2 h3 h4
  obtain ⟨h4, h5, h6, h7, h8, h9, h10, h11⟩ := h4
  subst h1 h2 h3 h4 h5 h6 h7 h8 h9 h10 h11
  rfl
def sameR (r s : Rp) (ls ms : List Lt) : Bool := decide (ls = ms) && decide (r.to_ = s.to_) && decide (r.code = s.code) && decide (r.cmd = s.cmd) && decide (r.nums = s.nums)
theorem sameR_iff (r s : Rp) (ls ms : List Lt) : sameR r s ls ms = true ↔ r = s ∧ ls = ms := by
  unfold sameR
  simp only [Bool.and_eq_true, decide_eq_true_eq]
  constructor
  · rintro ⟨⟨⟨⟨h1, h2⟩, h3⟩, h4⟩, h5⟩
    exact ⟨rp_eq h2 h3 h4 h5, h1⟩
  · rintro ⟨rfl, rfl⟩
    exact ⟨⟨⟨⟨rfl, rfl⟩, rfl⟩, rfl⟩, rfl⟩
def sameR2 (r s : Rp) (ls ms : List Lt) : Bool := decide (r.to_ = s.to_) && decide (r.cmd = s.cmd) && decide (r.code :: r.nums = s.code :: s.nums) && decide (ls = ms)
theorem sameR2_eq (r s : Rp) (ls ms : List Lt) : sameR2 r s ls ms = sameR r s ls ms := by
  unfold sameR2 sameR
  rw [Bool.eq_iff_iff]
  simp only [Bool.and_eq_true, decide_eq_true_eq, List.cons.injEq]
  constructor
  · rintro ⟨⟨⟨h1, h2⟩, h3, h4⟩, h5⟩; exact ⟨⟨⟨⟨h5, h1⟩, h3⟩, h2⟩, h4⟩
  · rintro ⟨⟨⟨⟨h5, h1⟩, h3⟩, h2⟩, h4⟩; exact ⟨⟨⟨h1, h2⟩, h3, h4⟩, h5⟩

set_option maxRecDepth 100000 in
set_option maxHeartbeats 1000000 in
theorem rep_same (r s : Rp) (o1 : Option Nat) (p1 q1 : Nat) (c1 : Array Value) (T1 : TypeId) (f1 : Nat × Nat) (ls : List Lt) (h1 : Sees 6 o1 p1 q1 c1 (ls.flatMap ltCells) ls.length) (ok1 : ∀ l ∈ ls, LtOk l) (o2 : Option Nat) (p2 q2 : Nat) (c2 : Array Value) (T2 : TypeId) (f2 : Nat × Nat) (ms : List Lt) (h2 : Sees 6 o2 p2 q2 c2 (ms.flatMap ltCells) ms.length) (ok2 : ∀ l ∈ ms, LtOk l) :
    Ct Try.prog 14 [(.agg (rpCells r (sv o1 p1 ls.length q1)).toArray), (.agg (rpCells s (sv o2 p2 ms.length q2)).toArray)] [(o1, .cells c1 T1 f1), (o2, .cells c2 T2 f2)] [] fun v post => v = .bool (sameR r s ls ms) ∧ post = [] := by
 refine ct_of Try.func14 rfl rfl (fun w0 => ?_)
 show G _ _ [(0, _), (1, _)] _ _
 refine G_seq ?_
 refine G_region (l := [0, 1, 2]) rfl ?_
 refine G_new rfl rfl rfl rfl (N_boxA rfl rfl) (fun b2 => ?_)
 refine G_new rfl rfl rfl rfl (N_boxA rfl rfl) (fun b3 => ?_)
 refine G_val rfl rfl rfl rfl (V_assign rfl rfl) ?_
 refine G_done ?_
 refine G_seq ?_
 refine G_seq ?_
 refine G_region (l := [0, 1, 2, 3, 4, 5]) rfl ?_
 refine G_val rfl rfl rfl rfl (V_fieldAddr (fo := 11) rfl Try.underlying25 rfl infReplyW_23 rfl rfl rfl) ?_
 refine G_val rfl rfl rfl rfl (V_load1 rfl rfl (mem_at 3 rfl) rfl Try.underlying23 rfl) ?_
 refine G_val rfl rfl rfl rfl (V_fieldAddr (fo := 11) rfl Try.underlying25 rfl infReplyW_23 rfl rfl rfl) ?_
 refine G_val rfl rfl rfl rfl (V_load1 rfl rfl (mem_at 2 rfl) rfl Try.underlying23 rfl) ?_
 refine G_call (L2 := [_, _]) rfl rfl rfl rfl rfl rfl Try.call60 (rep_letters _ _ _ _ _ _ _ (by assumption) (by assumption) _ _ _ _ _ _ _ (by assumption) (by assumption)) [] [0, 1] rfl rfl ?_
 rintro v post ⟨rfl, rfl⟩
 show G _ _ _ [_, _] _
 refine G_val rfl rfl rfl rfl (V_notD rfl rfl) ?_
 refine G_done ?_
 refine G_ifD rfl (fun hc1 => ?_) (fun hc1 => ?_)
 · skip
   refine G_seq ?_
   refine G_region (l := [0]) rfl ?_
   refine G_val rfl rfl rfl rfl (V_assign rfl rfl) ?_
   refine G_done ?_
   refine G_ret (post := []) Try.func14 rfl (RVs_cons (RV_tmp rfl) RVs_nil) [] rfl ?_
   dsimp only [packed]
   refine ⟨bool_eq ?_, rfl⟩; unfold sameR; (try simp only [Classical.not_not] at *); simp [*, -List.any_eq_true, -List.any_eq_false]
 refine G_skip ?_
 refine G_seq ?_
 refine G_seq ?_
 refine G_region (l := [0, 1, 2, 3, 4, 5, 6, 7, 8, 9, 10, 11, 12, 13, 14, 15, 16, 17, 18]) rfl ?_
 refine G_val rfl rfl rfl rfl (V_fieldAddr (fo := 0) rfl Try.underlying25 rfl infReplyW_9 rfl rfl rfl) ?_
 refine G_val rfl rfl rfl rfl (V_load1 rfl rfl (mem_at 3 rfl) rfl Try.underlying9 rfl) ?_
 refine G_val rfl rfl rfl rfl (V_fieldAddr (fo := 0) rfl Try.underlying25 rfl infReplyW_9 rfl rfl rfl) ?_
 refine G_val rfl rfl rfl rfl (V_load1 rfl rfl (mem_at 2 rfl) rfl Try.underlying9 rfl) ?_
 refine G_val rfl rfl rfl rfl (V_sneq rfl rfl rfl) ?_
 refine G_val rfl rfl rfl rfl (V_move rfl rfl) ?_
 refine G_splitD 16 rfl (fun hc2 => ?_) (fun hc2 => ?_)
 · skip
   refine G_off rfl rfl rfl rfl ?_
   refine G_off rfl rfl rfl rfl ?_
   refine G_off rfl rfl rfl rfl ?_
   refine G_off rfl rfl rfl rfl ?_
   refine G_off rfl rfl rfl rfl ?_
   refine G_val rfl rfl rfl rfl (V_pickT rfl rfl rfl) ?_
   refine G_val rfl rfl rfl rfl (V_move rfl rfl) ?_
   refine G_off rfl rfl rfl rfl ?_
   refine G_off rfl rfl rfl rfl ?_
   refine G_off rfl rfl rfl rfl ?_
   refine G_off rfl rfl rfl rfl ?_
   refine G_off rfl rfl rfl rfl ?_
   refine G_val rfl rfl rfl rfl (V_pickT rfl rfl rfl) ?_
   refine G_done ?_
   refine G_then rfl ?_
   refine G_seq ?_
   refine G_region (l := [0]) rfl ?_
   refine G_val rfl rfl rfl rfl (V_assign rfl rfl) ?_
   refine G_done ?_
   refine G_ret (post := []) Try.func14 rfl (RVs_cons (RV_tmp rfl) RVs_nil) [] rfl ?_
   dsimp only [packed]
   refine ⟨bool_eq ?_, rfl⟩; unfold sameR; (try simp only [Classical.not_not] at *); simp [*, -List.any_eq_true, -List.any_eq_false]
 refine G_val rfl rfl rfl rfl (V_fieldAddr (fo := 1) rfl Try.underlying25 rfl infReplyW_22 rfl rfl rfl) ?_
 refine G_val rfl rfl rfl rfl (V_load1 rfl rfl (mem_at 3 rfl) rfl Try.underlying22 rfl) ?_
 refine G_val rfl rfl rfl rfl (V_fieldAddr (fo := 1) rfl Try.underlying25 rfl infReplyW_22 rfl rfl rfl) ?_
 refine G_val rfl rfl rfl rfl (V_load1 rfl rfl (mem_at 2 rfl) rfl Try.underlying22 rfl) ?_
 refine G_val rfl rfl rfl rfl (V_neq rfl rfl rfl) ?_
 refine G_val rfl rfl rfl rfl (V_pickF rfl rfl rfl) ?_
 refine G_val rfl rfl rfl rfl (V_move rfl rfl) ?_
 refine G_splitD 23 rfl (fun hc3 => ?_) (fun hc3 => ?_)
 · skip
   refine G_off rfl rfl rfl rfl ?_
   refine G_off rfl rfl rfl rfl ?_
   refine G_off rfl rfl rfl rfl ?_
   refine G_off rfl rfl rfl rfl ?_
   refine G_off rfl rfl rfl rfl ?_
   refine G_val rfl rfl rfl rfl (V_pickT rfl rfl rfl) ?_
   refine G_done ?_
   refine G_then rfl ?_
   refine G_seq ?_
   refine G_region (l := [0]) rfl ?_
   refine G_val rfl rfl rfl rfl (V_assign rfl rfl) ?_
   refine G_done ?_
   refine G_ret (post := []) Try.func14 rfl (RVs_cons (RV_tmp rfl) RVs_nil) [] rfl ?_
   dsimp only [packed]
   refine ⟨bool_eq ?_, rfl⟩; unfold sameR; (try simp only [Classical.not_not] at *); simp [*, -List.any_eq_true, -List.any_eq_false]
 refine G_val rfl rfl rfl rfl (V_fieldAddr (fo := 10) rfl Try.underlying25 rfl infReplyW_9 rfl rfl rfl) ?_
 refine G_val rfl rfl rfl rfl (V_load1 rfl rfl (mem_at 3 rfl) rfl Try.underlying9 rfl) ?_
 refine G_val rfl rfl rfl rfl (V_fieldAddr (fo := 10) rfl Try.underlying25 rfl infReplyW_9 rfl rfl rfl) ?_
 refine G_val rfl rfl rfl rfl (V_load1 rfl rfl (mem_at 2 rfl) rfl Try.underlying9 rfl) ?_
 refine G_val rfl rfl rfl rfl (V_sneq rfl rfl rfl) ?_
 refine G_val rfl rfl rfl rfl (V_pickF rfl rfl rfl) ?_
 refine G_done ?_
 refine G_ifD rfl (fun hc4 => ?_) (fun hc4 => ?_)
 · skip
   refine G_seq ?_
   refine G_region (l := [0]) rfl ?_
   refine G_val rfl rfl rfl rfl (V_assign rfl rfl) ?_
   refine G_done ?_
   refine G_ret (post := []) Try.func14 rfl (RVs_cons (RV_tmp rfl) RVs_nil) [] rfl ?_
   dsimp only [packed]
   refine ⟨bool_eq ?_, rfl⟩; unfold sameR; (try simp only [Classical.not_not] at *); simp [*, -List.any_eq_true, -List.any_eq_false]
 refine G_skip ?_
 refine G_seq ?_
 refine G_region (l := [0, 1, 2, 3]) rfl ?_
 refine G_call (L2 := [_, _]) rfl rfl rfl rfl rfl rfl Try.call62 (rep_numbers _) [] [] rfl rfl ?_
 rintro v post ⟨bn0, rfl, rfl⟩
 show G _ _ _ [_, _, _] _
 refine G_call (L2 := [_, _, _]) rfl rfl rfl rfl rfl rfl Try.call62 (rep_numbers _) [] [] rfl rfl ?_
 rintro v post ⟨bn1, rfl, rfl⟩
 show G _ _ _ [_, _, _, _] _
 refine G_call (L2 := [_, _, _, _]) rfl rfl rfl rfl rfl rfl Try.call61 (rep_equal _ _ _ _ _ _ _ _ _ _ _ _ r.nums s.nums 8 (by omega) (holds_nums r _) (holds_nums s _) rfl rfl) [] [3, 2, 5, 4] rfl rfl ?_
 rintro v post ⟨rfl, rfl⟩
 show G _ _ _ [_, _, _, _] _
 refine G_val rfl rfl rfl rfl (V_assign rfl rfl) ?_
 refine G_done ?_
 refine G_ret (post := []) Try.func14 rfl (RVs_cons (RV_tmp rfl) RVs_nil) [] rfl ?_
 dsimp only [packed]
 refine ⟨bool_eq ?_, rfl⟩; unfold sameR; (try simp only [Classical.not_not] at *); simp [*, -List.any_eq_true, -List.any_eq_false]

set_option maxRecDepth 100000 in
set_option maxHeartbeats 1000000 in
theorem rrep_numbers (r : Rp) (s : Value) :
    Ct Try.prog 65 [.agg (rpCells r s).toArray] [] [] fun v post => ∃ bn, v = .slice (some ⟨bn, 0, none⟩) 9 9 ∧ post = [(some bn, .cells ((r.code :: r.nums).map iCell).toArray 3 (0, 0))] := by
 refine ct_of Try.func65 rfl rfl (fun w0 => ?_)
 show G _ _ [(0, _)] _ _
 refine G_seq ?_
 refine G_region (l := [0, 1]) rfl ?_
 refine G_new rfl rfl rfl rfl (N_boxA rfl rfl) (fun b1 => ?_)
 refine G_val rfl rfl rfl rfl (V_assign rfl rfl) ?_
 refine G_done ?_
 refine G_seq ?_
 refine G_region (l := [0, 1, 2, 3, 4, 5, 6, 7, 8, 9, 10, 11, 12, 13, 14, 15, 16, 17, 18, 19]) rfl ?_
 refine G_val rfl rfl rfl rfl (V_fieldAddr (fo := 1) rfl Try.underlying25 rfl infReplyW_22 rfl rfl rfl) ?_
 refine G_val rfl rfl rfl rfl (V_load1 rfl rfl (mem_at 0 rfl) rfl Try.underlying22 rfl) ?_
 refine G_val rfl rfl rfl rfl (V_fieldAddr (fo := 2) rfl Try.underlying25 rfl infReplyW_3 rfl rfl rfl) ?_
 refine G_val rfl rfl rfl rfl (V_load1 rfl rfl (mem_at 0 rfl) rfl Try.underlying3 rfl) ?_
 refine G_val rfl rfl rfl rfl (V_fieldAddr (fo := 3) rfl Try.underlying25 rfl infReplyW_3 rfl rfl rfl) ?_
 refine G_val rfl rfl rfl rfl (V_load1 rfl rfl (mem_at 0 rfl) rfl Try.underlying3 rfl) ?_
 refine G_val rfl rfl rfl rfl (V_fieldAddr (fo := 4) rfl Try.underlying25 rfl infReplyW_3 rfl rfl rfl) ?_
 refine G_val rfl rfl rfl rfl (V_load1 rfl rfl (mem_at 0 rfl) rfl Try.underlying3 rfl) ?_
 refine G_val rfl rfl rfl rfl (V_fieldAddr (fo := 5) rfl Try.underlying25 rfl infReplyW_3 rfl rfl rfl) ?_
 refine G_val rfl rfl rfl rfl (V_load1 rfl rfl (mem_at 0 rfl) rfl Try.underlying3 rfl) ?_
 refine G_val rfl rfl rfl rfl (V_fieldAddr (fo := 6) rfl Try.underlying25 rfl infReplyW_3 rfl rfl rfl) ?_
 refine G_val rfl rfl rfl rfl (V_load1 rfl rfl (mem_at 0 rfl) rfl Try.underlying3 rfl) ?_
 refine G_val rfl rfl rfl rfl (V_fieldAddr (fo := 7) rfl Try.underlying25 rfl infReplyW_3 rfl rfl rfl) ?_
 refine G_val rfl rfl rfl rfl (V_load1 rfl rfl (mem_at 0 rfl) rfl Try.underlying3 rfl) ?_
 refine G_val rfl rfl rfl rfl (V_fieldAddr (fo := 8) rfl Try.underlying25 rfl infReplyW_3 rfl rfl rfl) ?_
 refine G_val rfl rfl rfl rfl (V_load1 rfl rfl (mem_at 0 rfl) rfl Try.underlying3 rfl) ?_
 refine G_val rfl rfl rfl rfl (V_fieldAddr (fo := 9) rfl Try.underlying25 rfl infReplyW_3 rfl rfl rfl) ?_
 refine G_val rfl rfl rfl rfl (V_load1 rfl rfl (mem_at 0 rfl) rfl Try.underlying3 rfl) ?_
 refine G_new rfl rfl rfl rfl (N_buildAll (s := 1) (cs := [_, _, _, _, _, _, _, _, _]) rfl Try.underlying104 infReplyW_3 rfl rfl rfl rfl rfl rfl rfl rfl rfl) (fun b21 => ?_)
 refine G_val rfl rfl rfl rfl (V_assign rfl rfl) ?_
 refine G_done ?_
 refine G_ret (post := [_]) Try.func65 rfl (RVs_cons (RV_tmp rfl) RVs_nil) [0] rfl ?_
 dsimp only [packed]
 exact ⟨_, rfl, rfl⟩

set_option maxRecDepth 100000 in
set_option maxHeartbeats 1000000 in
theorem rrep_ints (o1 : Option Nat) (p1 q1 : Nat) (c1 : Array Value) (T1 : TypeId) (f1 : Nat × Nat) (ls : List Int) (h1 : Sees 1 o1 p1 q1 c1 (ls.map iCell) ls.length) (o2 : Option Nat) (p2 q2 : Nat) (c2 : Array Value) (T2 : TypeId) (f2 : Nat × Nat) (ms : List Int) (h2 : Sees 1 o2 p2 q2 c2 (ms.map iCell) ms.length) :
    Ct Try.prog 64 [sv o1 p1 ls.length q1, sv o2 p2 ms.length q2] [(o1, .cells c1 T1 f1), (o2, .cells c2 T2 f2)] [] fun v post => v = .bool (decide (ls = ms)) ∧ post = [] := by
 have hl1 := h1.le
 have hl2 := h1.max
 have hl3 := h2.le
 have hl4 := h2.max
 refine ct_of Try.func64 rfl rfl (fun w0 => ?_)
 show G _ _ [(0, _), (1, _)] _ _
 refine G_seq ?_
 refine G_region (l := [0]) rfl ?_
 refine G_val rfl rfl rfl rfl (V_assign rfl rfl) ?_
 refine G_done ?_
 refine G_seq ?_
 refine G_seq ?_
 refine G_region (l := [0, 1, 2, 3, 4]) rfl ?_
 refine G_val rfl rfl rfl rfl (V_move rfl rfl) ?_
 refine G_val rfl rfl rfl rfl (V_len rfl rfl Try.underlying104 rfl) ?_
 refine G_val rfl rfl rfl rfl (V_move rfl rfl) ?_
 refine G_val rfl rfl rfl rfl (V_len rfl rfl Try.underlying104 rfl) ?_
 refine G_val rfl rfl rfl rfl (V_neq rfl rfl rfl) ?_
 refine G_done ?_
 refine G_ifD rfl (fun hc1 => ?_) (fun hc1 => ?_)
 · skip
   refine G_seq ?_
   refine G_region (l := [0]) rfl ?_
   refine G_val rfl rfl rfl rfl (V_assign rfl rfl) ?_
   refine G_done ?_
   refine G_ret (post := []) Try.func64 rfl (RVs_cons (RV_tmp rfl) RVs_nil) [] rfl ?_
   dsimp only [packed]
   first
     | exact ⟨bool_eq (decide_eq_false (ne_len (by omega))).symm, rfl⟩
     | exact ⟨bool_eq (decide_eq_false (ne_at hx hy (by assumption))).symm, rfl⟩
     | exact ⟨bool_eq (decide_eq_true (eq_end ht (by omega) (by omega))).symm, rfl⟩
 refine G_skip ?_
 refine G_seq ?_
 refine G_seq ?_
 refine G_region (l := [0]) rfl ?_
 refine G_val rfl rfl rfl rfl (V_assign rfl rfl) ?_
 refine G_done ?_
 refine G_block ?_
 refine G_sub ?he4 [] ?hl4 (G_loop (X := Nat) (fun i => i ≤ ls.length ∧ ls.length = ms.length ∧ ls.take i = ms.take i) (fun i => ls.length - i) (fun i => [(0, sv o1 p1 ls.length q1), (1, sv o2 p2 ms.length q2), (5, .int .i64 (i : Int))]) (fun i => []) ?round4 0 ?h04)
 case he4 => exact (And.intro rfl (And.intro rfl (And.intro rfl trivial)))
 case hl4 => exact ⟨_, rfl⟩
 case h04 => exact ⟨Nat.zero_le _, by omega, rfl⟩
 case round4 =>
  intro i hJ ih
  try dsimp only at hJ ih
  obtain ⟨hi, hlen, ht⟩ := hJ
  refine G_seq ?_
  refine G_seq ?_
  refine G_region (l := [0, 1, 2, 3]) rfl ?_
  refine G_val rfl rfl rfl rfl (V_move rfl rfl) ?_
  refine G_val rfl rfl rfl rfl (V_move rfl rfl) ?_
  refine G_val rfl rfl rfl rfl (V_len rfl rfl Try.underlying104 rfl) ?_
  refine G_val rfl rfl rfl rfl (V_lss rfl rfl rfl) ?_
  refine G_done ?_
  refine G_ifD rfl (fun hc2 => ?_) (fun hc2 => ?_)
  · skip
    refine G_skip ?_
    refine G_seq ?_
    refine G_block ?_
    refine G_seq ?_
    obtain ⟨x, hx⟩ := getI (show i < ls.length by omega)
    obtain ⟨y, hy⟩ := getI (show i < ms.length by omega)
    obtain ⟨b1, rfl⟩ := h1.isSome (by omega)
    obtain ⟨b2, rfl⟩ := h2.isSome (by omega)
    refine G_draw mixedK (by kernel_rfl) ?_
    refine GQ_val rfl rfl rfl rfl (V_move rfl rfl) ?_
    refine GQ_val rfl rfl rfl rfl (V_move rfl rfl) ?_
    first
      | refine GQ_val rfl rfl rfl rfl (V_indexAddrN rfl Try.underlying104 infReplyW_3 rfl rfl rfl rfl (by omega)) ?_
      | refine GQ_val rfl rfl rfl rfl (V_indexAddr rfl Try.underlying104 infReplyW_3 rfl rfl rfl (by omega) (by first | omega | (simp [ltCells]; done) | (simp [ltCells]; omega) | (simp [ltCells] at *; omega))) ?_
    refine GQ_val rfl rfl rfl rfl (V_load1 rfl rfl (mem_at 0 rfl) (nth_of (h1.cell hx)) Try.underlying3 rfl) ?_
    refine GQ_val rfl rfl rfl rfl (V_move rfl rfl) ?_
    refine GQ_val rfl rfl rfl rfl (V_move rfl rfl) ?_
    first
      | refine GQ_val rfl rfl rfl rfl (V_indexAddrN rfl Try.underlying104 infReplyW_3 rfl rfl rfl rfl (by omega)) ?_
      | refine GQ_val rfl rfl rfl rfl (V_indexAddr rfl Try.underlying104 infReplyW_3 rfl rfl rfl (by omega) (by first | omega | (simp [ltCells]; done) | (simp [ltCells]; omega) | (simp [ltCells] at *; omega))) ?_
    refine GQ_val rfl rfl rfl rfl (V_load1 rfl rfl (mem_at 1 rfl) (nth_of (h2.cell hy)) Try.underlying3 rfl) ?_
    refine GQ_val rfl rfl rfl rfl (V_neq rfl rfl rfl) ?_
    refine GQ_done rfl ?_
    refine G_ifD rfl (fun hc3 => ?_) (fun hc3 => ?_)
    · skip
      refine G_seq ?_
      refine G_region (l := [0]) rfl ?_
      refine G_val rfl rfl rfl rfl (V_assign rfl rfl) ?_
      refine G_done ?_
      refine G_ret (post := []) Try.func64 rfl (RVs_cons (RV_tmp rfl) RVs_nil) [] rfl ?_
      dsimp only [packed]
      first
        | exact ⟨bool_eq (decide_eq_false (ne_len (by omega))).symm, rfl⟩
        | exact ⟨bool_eq (decide_eq_false (ne_at hx hy (by assumption))).symm, rfl⟩
        | exact ⟨bool_eq (decide_eq_true (eq_end ht (by omega) (by omega))).symm, rfl⟩
    refine G_skip ?_
    refine G_inBlock ?_
    refine G_region (l := [0, 1, 2]) rfl ?_
    refine G_val rfl rfl rfl rfl (V_move rfl rfl) ?_
    first
      | refine G_val rfl rfl rfl rfl ((V_add rfl rfl rfl).int (wrap_i64 (by omega))) ?_
      | refine G_val rfl rfl rfl rfl (V_add rfl rfl rfl) ?_
    refine G_val rfl rfl rfl rfl (V_assign rfl rfl) ?_
    refine G_done ?_
    refine G_sub ?_ [] ?_ (ih (i + 1) ?_ ?_)
    · (refine (And.intro ?_ (And.intro ?_ (And.intro ?_ trivial))) <;> first | rfl | exact slot_int (by omega) | exact slot_int (by simp))
    · exact ⟨_, rfl⟩
    · exact ⟨by omega, hlen, eq_next ht hx hy (Classical.not_not.1 (by assumption))⟩
    · (first | omega | (dsimp only; omega))
  refine G_exit rfl ?_
  refine G_seq ?_
  refine G_region (l := [0]) rfl ?_
  refine G_val rfl rfl rfl rfl (V_assign rfl rfl) ?_
  refine G_done ?_
  refine G_ret (post := []) Try.func64 rfl (RVs_cons (RV_tmp rfl) RVs_nil) [] rfl ?_
  dsimp only [packed]
  first
    | exact ⟨bool_eq (decide_eq_false (ne_len (by omega))).symm, rfl⟩
    | exact ⟨bool_eq (decide_eq_false (ne_at hx hy (by assumption))).symm, rfl⟩
    | exact ⟨bool_eq (decide_eq_true (eq_end ht (by omega) (by omega))).symm, rfl⟩


theorem sees_nums (n : Nat) (b : Nat) (ns : List Int) (hn : ns.length = n) (h : n < 1000) : Sees 1 (some b) 0 n (ns.map iCell).toArray (ns.map iCell) ns.length :=
  ⟨by simp, by omega, by omega, by simp [List.take_of_length_le], fun h => by cases h⟩

set_option maxRecDepth 100000 in
set_option maxHeartbeats 1000000 in
theorem rrep_same (r s : Rp) (o1 : Option Nat) (p1 q1 : Nat) (c1 : Array Value) (T1 : TypeId) (f1 : Nat × Nat) (ls : List Lt) (h1 : Sees 6 o1 p1 q1 c1 (ls.flatMap ltCells) ls.length) (ok1 : ∀ l ∈ ls, LtOk l) (o2 : Option Nat) (p2 q2 : Nat) (c2 : Array Value) (T2 : TypeId) (f2 : Nat × Nat) (ms : List Lt) (h2 : Sees 6 o2 p2 q2 c2 (ms.flatMap ltCells) ms.length) (ok2 : ∀ l ∈ ms, LtOk l) :
    Ct Try.prog 15 [(.agg (rpCells r (sv o1 p1 ls.length q1)).toArray), (.agg (rpCells s (sv o2 p2 ms.length q2)).toArray)] [(o1, .cells c1 T1 f1), (o2, .cells c2 T2 f2)] [] fun v post => v = .bool (sameR r s ls ms) ∧ post = [] := by
 refine ct_of Try.func15 rfl rfl (fun w0 => ?_)
 show G _ _ [(0, _), (1, _)] _ _
 refine G_seq ?_
 refine G_region (l := [0, 1, 2]) rfl ?_
 refine G_new rfl rfl rfl rfl (N_boxA rfl rfl) (fun b2 => ?_)
 refine G_new rfl rfl rfl rfl (N_boxA rfl rfl) (fun b3 => ?_)
 refine G_val rfl rfl rfl rfl (V_assign rfl rfl) ?_
 refine G_done ?_
 refine G_seq ?_
 refine GH_start (Lq := [_, _]) (isq := [1, 0]) (m := 27) mixedK rfl rfl ?_
 refine GH_take 0 rfl rfl rfl rfl (by kernel_rfl) (by kernel_rfl) (by kernel_rfl) (fun _ _ => (V_fieldAddr (fo := 0) rfl Try.underlying25 rfl infReplyW_9 rfl rfl rfl)) ?_
 refine GH_take 1 rfl rfl rfl rfl (by kernel_rfl) (by kernel_rfl) (by kernel_rfl) (fun _ _ => (V_load1 rfl rfl (mem_at 2 rfl) rfl Try.underlying9 rfl)) ?_
 refine GH_take 2 rfl rfl rfl rfl (by kernel_rfl) (by kernel_rfl) (by kernel_rfl) (fun _ _ => (V_fieldAddr (fo := 0) rfl Try.underlying25 rfl infReplyW_9 rfl rfl rfl)) ?_
 refine GH_take 3 rfl rfl rfl rfl (by kernel_rfl) (by kernel_rfl) (by kernel_rfl) (fun _ _ => (V_load1 rfl rfl (mem_at 3 rfl) rfl Try.underlying9 rfl)) ?_
 refine GH_take 4 rfl rfl rfl rfl (by kernel_rfl) (by kernel_rfl) (by kernel_rfl) (fun _ _ => (V_seql rfl rfl rfl)) ?_
 refine GH_take 5 rfl rfl rfl rfl (by kernel_rfl) (by kernel_rfl) (by kernel_rfl) (fun _ _ => (V_move rfl rfl)) ?_
 refine GH_splitD 10 rfl (fun hc1 => ?_) (fun hc1 => ?_)
 · skip
   refine GH_take 6 rfl rfl rfl rfl (by kernel_rfl) (by kernel_rfl) (by kernel_rfl) (fun _ _ => (V_fieldAddr (fo := 10) rfl Try.underlying25 rfl infReplyW_9 rfl rfl rfl)) ?_
   refine GH_take 7 rfl rfl rfl rfl (by kernel_rfl) (by kernel_rfl) (by kernel_rfl) (fun _ _ => (V_load1 rfl rfl (mem_at 2 rfl) rfl Try.underlying9 rfl)) ?_
   refine GH_take 8 rfl rfl rfl rfl (by kernel_rfl) (by kernel_rfl) (by kernel_rfl) (fun _ _ => (V_fieldAddr (fo := 10) rfl Try.underlying25 rfl infReplyW_9 rfl rfl rfl)) ?_
   refine GH_take 9 rfl rfl rfl rfl (by kernel_rfl) (by kernel_rfl) (by kernel_rfl) (fun _ _ => (V_load1 rfl rfl (mem_at 3 rfl) rfl Try.underlying9 rfl)) ?_
   refine GH_take 10 rfl rfl rfl rfl (by kernel_rfl) (by kernel_rfl) (by kernel_rfl) (fun _ _ => (V_seql rfl rfl rfl)) ?_
   refine GH_take 11 rfl rfl rfl rfl (by kernel_rfl) (by kernel_rfl) (by kernel_rfl) (fun _ _ => (V_pickT rfl rfl rfl)) ?_
   refine GH_take 12 rfl rfl rfl rfl (by kernel_rfl) (by kernel_rfl) (by kernel_rfl) (fun _ _ => (V_move rfl rfl)) ?_
   refine GH_splitD 17 rfl (fun hc2 => ?_) (fun hc2 => ?_)
   · skip
     first
       | refine GH_take 13 rfl rfl rfl rfl (by kernel_rfl) (by kernel_rfl) (by kernel_rfl) (fun _ _ => (V_loadW (s := 12) rfl rfl (mem_at 2 rfl) Try.underlying25 rfl infReplyW_25 rfl (by first | rfl | (simp [bcells_length, ltCells]; done) | (simp [bcells_length, ltCells]; omega) | (simp [bcells_length, *, ltCells]; done)))) ?_
       | refine GH_take 13 rfl rfl rfl rfl (by kernel_rfl) (by kernel_rfl) (by kernel_rfl) (fun _ _ => (V_loadA (s := 12) rfl rfl (mem_at 2 rfl) Try.underlying25 rfl infReplyW_25 rfl rfl (by first | rfl | (simp [bcells_length, ltCells]; done) | (simp [bcells_length, ltCells]; omega) | (simp [bcells_length, *, ltCells]; done)))) ?_
     first
       | refine GH_take 15 rfl rfl rfl rfl (by kernel_rfl) (by kernel_rfl) (by kernel_rfl) (fun _ _ => (V_loadW (s := 12) rfl rfl (mem_at 3 rfl) Try.underlying25 rfl infReplyW_25 rfl (by first | rfl | (simp [bcells_length, ltCells]; done) | (simp [bcells_length, ltCells]; omega) | (simp [bcells_length, *, ltCells]; done)))) ?_
       | refine GH_take 15 rfl rfl rfl rfl (by kernel_rfl) (by kernel_rfl) (by kernel_rfl) (fun _ _ => (V_loadA (s := 12) rfl rfl (mem_at 3 rfl) Try.underlying25 rfl infReplyW_25 rfl rfl (by first | rfl | (simp [bcells_length, ltCells]; done) | (simp [bcells_length, ltCells]; omega) | (simp [bcells_length, *, ltCells]; done)))) ?_
     refine GH_all [14] (by kernel_rfl) (by decide) ?_
     refine (And.intro ?_ trivial)
     · skip
       refine GHop_call (L2 := [_, _]) rfl rfl rfl rfl rfl rfl Try.call65 (rrep_numbers _ _) [] [] rfl rfl [2, 1] (by rintro v post ⟨bn0, rfl, rfl⟩; exact ⟨_, rfl⟩) ?_
       rintro v post ⟨bn0, rfl, rfl⟩
       show GH _ _ _ _ _ _ _ [_, _, _] _
       refine GH_all [16] (by kernel_rfl) (by decide) ?_
       refine (And.intro ?_ trivial)
       · skip
         refine GHop_call (L2 := [_, _, _]) rfl rfl rfl rfl rfl rfl Try.call65 (rrep_numbers _ _) [] [] rfl rfl [3, 2] (by rintro v post ⟨bn1, rfl, rfl⟩; exact ⟨_, rfl⟩) ?_
         rintro v post ⟨bn1, rfl, rfl⟩
         show GH _ _ _ _ _ _ _ [_, _, _, _] _
         refine GH_all [17] (by kernel_rfl) (by decide) ?_
         refine (And.intro ?_ trivial)
         · skip
           refine GHop_call (L2 := [_, _, _, _]) rfl rfl rfl rfl rfl rfl Try.call64 (rrep_ints (some bn0) 0 9 _ _ _ (r.code :: r.nums) (sees_nums 9 bn0 _ rfl (by omega)) (some bn1) 0 9 _ _ _ (s.code :: s.nums) (sees_nums 9 bn1 _ rfl (by omega))) [] [3, 2] rfl rfl [3, 2] (by rintro v post ⟨rfl, rfl⟩; exact ⟨_, rfl⟩) ?_
           rintro v post ⟨rfl, rfl⟩
           show GH _ _ _ _ _ _ _ [_, _, _, _] _
           refine GH_take 18 rfl rfl rfl rfl (by kernel_rfl) (by kernel_rfl) (by kernel_rfl) (fun _ _ => (V_pickT rfl rfl rfl)) ?_
           refine GH_take 19 rfl rfl rfl rfl (by kernel_rfl) (by kernel_rfl) (by kernel_rfl) (fun _ _ => (V_move rfl rfl)) ?_
           refine GH_splitD 24 rfl (fun hc3 => ?_) (fun hc3 => ?_)
           · skip
             refine GH_take 20 rfl rfl rfl rfl (by kernel_rfl) (by kernel_rfl) (by kernel_rfl) (fun _ _ => (V_fieldAddr (fo := 11) rfl Try.underlying25 rfl infReplyW_23 rfl rfl rfl)) ?_
             refine GH_take 21 rfl rfl rfl rfl (by kernel_rfl) (by kernel_rfl) (by kernel_rfl) (fun _ _ => (V_load1 rfl rfl (mem_at 2 rfl) rfl Try.underlying23 rfl)) ?_
             refine GH_take 22 rfl rfl rfl rfl (by kernel_rfl) (by kernel_rfl) (by kernel_rfl) (fun _ _ => (V_fieldAddr (fo := 11) rfl Try.underlying25 rfl infReplyW_23 rfl rfl rfl)) ?_
             refine GH_take 23 rfl rfl rfl rfl (by kernel_rfl) (by kernel_rfl) (by kernel_rfl) (fun _ _ => (V_load1 rfl rfl (mem_at 3 rfl) rfl Try.underlying23 rfl)) ?_
             refine GH_all [24] (by kernel_rfl) (by decide) ?_
             refine (And.intro ?_ trivial)
             · skip
               refine GHop_call (L2 := [_, _, _, _]) rfl rfl rfl rfl rfl rfl Try.call66 (rrep_letters _ _ _ _ _ _ _ (by assumption) (by assumption) _ _ _ _ _ _ _ (by assumption) (by assumption)) [] [0, 1] rfl rfl [3, 2] (by rintro v post ⟨rfl, rfl⟩; exact ⟨_, rfl⟩) ?_
               rintro v post ⟨rfl, rfl⟩
               show GH _ _ _ _ _ _ _ [_, _, _, _] _
               refine GH_take 25 rfl rfl rfl rfl (by kernel_rfl) (by kernel_rfl) (by kernel_rfl) (fun _ _ => (V_pickT rfl rfl rfl)) ?_
               refine GH_take 26 rfl rfl rfl rfl (by kernel_rfl) (by kernel_rfl) (by kernel_rfl) (fun _ _ => (V_assign rfl rfl)) ?_
               refine GH_done (by kernel_rfl) ?_
               refine G_ret (post := []) Try.func15 rfl (RVs_cons (RV_tmp rfl) RVs_nil) [] rfl ?_
               dsimp only [packed]
               refine ⟨bool_eq ?_, rfl⟩; rw [← sameR2_eq]; unfold sameR2; (try simp only [Classical.not_not] at *); simp [*, -List.any_eq_true, -List.any_eq_false]
           refine GH_takeOff 20 rfl rfl rfl rfl (by kernel_rfl) (by kernel_rfl) (by kernel_rfl) ?_
           refine GH_takeOff 21 rfl rfl rfl rfl (by kernel_rfl) (by kernel_rfl) (by kernel_rfl) ?_
           refine GH_takeOff 22 rfl rfl rfl rfl (by kernel_rfl) (by kernel_rfl) (by kernel_rfl) ?_
           refine GH_takeOff 23 rfl rfl rfl rfl (by kernel_rfl) (by kernel_rfl) (by kernel_rfl) ?_
           refine GH_takeOff 24 rfl rfl rfl rfl (by kernel_rfl) (by kernel_rfl) (by kernel_rfl) ?_
           refine GH_take 25 rfl rfl rfl rfl (by kernel_rfl) (by kernel_rfl) (by kernel_rfl) (fun _ _ => (V_pickF rfl rfl rfl)) ?_
           refine GH_take 26 rfl rfl rfl rfl (by kernel_rfl) (by kernel_rfl) (by kernel_rfl) (fun _ _ => (V_assign rfl rfl)) ?_
           refine GH_done (by kernel_rfl) ?_
           refine G_ret (post := []) Try.func15 rfl (RVs_cons (RV_tmp rfl) RVs_nil) [] rfl ?_
           dsimp only [packed]
           refine ⟨bool_eq ?_, rfl⟩; rw [← sameR2_eq]; unfold sameR2; (try simp only [Classical.not_not] at *); simp [*, -List.any_eq_true, -List.any_eq_false]
   refine GH_takeOff 13 rfl rfl rfl rfl (by kernel_rfl) (by kernel_rfl) (by kernel_rfl) ?_
   refine GH_takeOff 14 rfl rfl rfl rfl (by kernel_rfl) (by kernel_rfl) (by kernel_rfl) ?_
   refine GH_takeOff 15 rfl rfl rfl rfl (by kernel_rfl) (by kernel_rfl) (by kernel_rfl) ?_
   refine GH_takeOff 16 rfl rfl rfl rfl (by kernel_rfl) (by kernel_rfl) (by kernel_rfl) ?_
   refine GH_takeOff 17 rfl rfl rfl rfl (by kernel_rfl) (by kernel_rfl) (by kernel_rfl) ?_
   refine GH_take 18 rfl rfl rfl rfl (by kernel_rfl) (by kernel_rfl) (by kernel_rfl) (fun _ _ => (V_pickF rfl rfl rfl)) ?_
   refine GH_take 19 rfl rfl rfl rfl (by kernel_rfl) (by kernel_rfl) (by kernel_rfl) (fun _ _ => (V_move rfl rfl)) ?_
   refine GH_takeOff 20 rfl rfl rfl rfl (by kernel_rfl) (by kernel_rfl) (by kernel_rfl) ?_
   refine GH_takeOff 21 rfl rfl rfl rfl (by kernel_rfl) (by kernel_rfl) (by kernel_rfl) ?_
   refine GH_takeOff 22 rfl rfl rfl rfl (by kernel_rfl) (by kernel_rfl) (by kernel_rfl) ?_
   refine GH_takeOff 23 rfl rfl rfl rfl (by kernel_rfl) (by kernel_rfl) (by kernel_rfl) ?_
   refine GH_takeOff 24 rfl rfl rfl rfl (by kernel_rfl) (by kernel_rfl) (by kernel_rfl) ?_
   refine GH_take 25 rfl rfl rfl rfl (by kernel_rfl) (by kernel_rfl) (by kernel_rfl) (fun _ _ => (V_pickF rfl rfl rfl)) ?_
   refine GH_take 26 rfl rfl rfl rfl (by kernel_rfl) (by kernel_rfl) (by kernel_rfl) (fun _ _ => (V_assign rfl rfl)) ?_
   refine GH_done (by kernel_rfl) ?_
   refine G_ret (post := []) Try.func15 rfl (RVs_cons (RV_tmp rfl) RVs_nil) [] rfl ?_
   dsimp only [packed]
   refine ⟨bool_eq ?_, rfl⟩; rw [← sameR2_eq]; unfold sameR2; (try simp only [Classical.not_not] at *); simp [*, -List.any_eq_true, -List.any_eq_false]
 refine GH_takeOff 6 rfl rfl rfl rfl (by kernel_rfl) (by kernel_rfl) (by kernel_rfl) ?_
 refine GH_takeOff 7 rfl rfl rfl rfl (by kernel_rfl) (by kernel_rfl) (by kernel_rfl) ?_
 refine GH_takeOff 8 rfl rfl rfl rfl (by kernel_rfl) (by kernel_rfl) (by kernel_rfl) ?_
 refine GH_takeOff 9 rfl rfl rfl rfl (by kernel_rfl) (by kernel_rfl) (by kernel_rfl) ?_
 refine GH_takeOff 10 rfl rfl rfl rfl (by kernel_rfl) (by kernel_rfl) (by kernel_rfl) ?_
 refine GH_take 11 rfl rfl rfl rfl (by kernel_rfl) (by kernel_rfl) (by kernel_rfl) (fun _ _ => (V_pickF rfl rfl rfl)) ?_
 refine GH_take 12 rfl rfl rfl rfl (by kernel_rfl) (by kernel_rfl) (by kernel_rfl) (fun _ _ => (V_move rfl rfl)) ?_
 refine GH_takeOff 13 rfl rfl rfl rfl (by kernel_rfl) (by kernel_rfl) (by kernel_rfl) ?_
 refine GH_takeOff 14 rfl rfl rfl rfl (by kernel_rfl) (by kernel_rfl) (by kernel_rfl) ?_
 refine GH_takeOff 15 rfl rfl rfl rfl (by kernel_rfl) (by kernel_rfl) (by kernel_rfl) ?_
 refine GH_takeOff 16 rfl rfl rfl rfl (by kernel_rfl) (by kernel_rfl) (by kernel_rfl) ?_
 refine GH_takeOff 17 rfl rfl rfl rfl (by kernel_rfl) (by kernel_rfl) (by kernel_rfl) ?_
 refine GH_take 18 rfl rfl rfl rfl (by kernel_rfl) (by kernel_rfl) (by kernel_rfl) (fun _ _ => (V_pickF rfl rfl rfl)) ?_
 refine GH_take 19 rfl rfl rfl rfl (by kernel_rfl) (by kernel_rfl) (by kernel_rfl) (fun _ _ => (V_move rfl rfl)) ?_
 refine GH_takeOff 20 rfl rfl rfl rfl (by kernel_rfl) (by kernel_rfl) (by kernel_rfl) ?_
 refine GH_takeOff 21 rfl rfl rfl rfl (by kernel_rfl) (by kernel_rfl) (by kernel_rfl) ?_
 refine GH_takeOff 22 rfl rfl rfl rfl (by kernel_rfl) (by kernel_rfl) (by kernel_rfl) ?_
 refine GH_takeOff 23 rfl rfl rfl rfl (by kernel_rfl) (by kernel_rfl) (by kernel_rfl) ?_
 refine GH_takeOff 24 rfl rfl rfl rfl (by kernel_rfl) (by kernel_rfl) (by kernel_rfl) ?_
 refine GH_take 25 rfl rfl rfl rfl (by kernel_rfl) (by kernel_rfl) (by kernel_rfl) (fun _ _ => (V_pickF rfl rfl rfl)) ?_
 refine GH_take 26 rfl rfl rfl rfl (by kernel_rfl) (by kernel_rfl) (by kernel_rfl) (fun _ _ => (V_assign rfl rfl)) ?_
 refine GH_done (by kernel_rfl) ?_
 refine G_ret (post := []) Try.func15 rfl (RVs_cons (RV_tmp rfl) RVs_nil) [] rfl ?_
 dsimp only [packed]
 refine ⟨bool_eq ?_, rfl⟩; rw [← sameR2_eq]; unfold sameR2; (try simp only [Classical.not_not] at *); simp [*, -List.any_eq_true, -List.any_eq_false]


def encNums (ns : List Int) : List UInt8 := ns.flatMap chainI
def encL (l : Lt) : List UInt8 := encNums l.nums ++ (text l.tx ++ chainI (l.n : Int))
def encR0 (r : Rp) (n : Nat) : List UInt8 := text r.to_ ++ chainI r.code ++ encNums r.nums ++ text r.cmd ++ chainI (n : Int)
def encR (r : Rp) (ls : List Lt) : List UInt8 := encR0 r ls.length ++ ls.flatMap encL
def In40 (x : Int) : Prop := 0 ≤ x ∧ x ≤ 1099511627776
theorem in40_of {x : Int} (h : outB x = false) : In40 x := by
  unfold outB at h
  have := of_decide_eq_false h
  unfold In40
  omega
theorem in40_all {ns : List Int} (h : ns.any outB = false) : ∀ x ∈ ns, In40 x := by
  intro x hx
  apply in40_of
  rw [List.any_eq_false] at h
  simpa using h x hx
theorem encNums_len : ∀ (ns : List Int), (∀ x ∈ ns, In40 x) → (encNums ns).length ≤ 10 * ns.length
  | [], _ => by simp [encNums]
  | x :: ns, h => by
    have h1 := encNums_len ns (fun y hy => h y (by simp [hy]))
    have h2 := chainI_len x (h x (by simp)).1 (by have := (h x (by simp)).2; omega)
    unfold encNums at h1 ⊢
    simp only [List.flatMap_cons, List.length_append, List.length_cons]
    omega
theorem encNums_next {ns : List Int} {i : Nat} {x : Int} (h : ns[i]? = some x) : encNums (ns.take (i + 1)) = encNums (ns.take i) ++ chainI x := by
  rw [take_succ_of h]
  simp [encNums]
theorem encNums_end {ns : List Int} {i : Nat} (h : ns.length ≤ i) : encNums (ns.take i) = encNums ns := by rw [List.take_of_length_le h]

set_option maxRecDepth 100000 in
set_option maxHeartbeats 1000000 in
theorem rep_enc1 (x : Int) (b : Nat) (p : Value) (u : Sl) (tx : List UInt8) (hp : UsedOr b p) (hu : Txt u tx) (hx : In40 x) (hs : tx.length ≤ 140737488350000) :
    Ct Try.prog 67 [.int .i64 x, .pointer (some ⟨b, 0, none⟩)] [] [(some b, .cells #[p, u.v tx.length] 109 (0, 0)), (u.ob, .cells u.cs 5 u.fz)] fun v post => v = .tuple #[] ∧ ∃ u1, Txt u1 (tx ++ chainI x) ∧ post = [(some b, .cells #[.pointer (some ⟨b, 0, none⟩), u1.v (tx ++ chainI x).length] 109 (0, 0)), (u1.ob, .cells u1.cs 5 u1.fz)] := by
 obtain ⟨hx0, hx1⟩ := hx
 have hl := chainI_len x (by omega) (by omega)
 refine ct_of Try.func67 rfl rfl (fun w0 => ?_)
 show G _ _ [(0, _), (1, _)] _ _
 refine G_region (l := [0, 1, 2, 3]) rfl ?_
 refine G_val rfl rfl rfl rfl (V_move rfl rfl) ?_
 first
   | refine G_val rfl rfl rfl rfl ((V_conv rfl rfl Try.underlying3 Try.underlying94).int (wrap_u64 (by omega))) ?_
   | refine G_val rfl rfl rfl rfl (V_conv rfl rfl Try.underlying3 Try.underlying94) ?_
 refine G_call (L2 := [_, _]) rfl rfl rfl rfl rfl rfl Try.call69 (ct_chain _ (by omega) (by omega)) [] [] rfl rfl ?_
 rintro v post ⟨rfl, rfl⟩
 show G _ _ _ [_, _] _
 refine G_call (L2 := []) rfl rfl rfl rfl rfl rfl Try.call68 (bld_write _ _ _ _ _ (by first | assumption | exact .inr rfl | exact .inl rfl) (by first | assumption | exact txt_nil) (by first | omega | (simp [ltCells]; done) | (simp [ltCells]; omega) | (simp [ltCells] at *; omega))) [0, 0] [] rfl rfl ?_
 rintro v post ⟨rfl, u1, hu1, rfl⟩
 show G _ _ _ [_, _] _
 refine G_done ?_
 refine G_end (post := [_, _]) Try.func67 rfl RVs_nil [0, 0] rfl ?_
 dsimp only [packed]
 exact ⟨rfl, u1, hu1, rfl⟩

set_option maxRecDepth 100000 in
set_option maxHeartbeats 1000000 in
theorem rep_enc2 (s1 r1 k1 b5 : Nat) (c1 : Array Value) (T1 : TypeId) (f1 : Nat × Nat) (ns : List Int) (n : Nat) (hn : n < 1000) (h1 : Holds c1 k1 ns) (hl : ns.length = n) (h40 : ∀ x ∈ ns, In40 x) (b : Nat) (p : Value) (u : Sl) (tx : List UInt8) (hp : UsedOr b p) (hu : Txt u tx) (hs : tx.length ≤ 140737488340000) :
    Ct Try.prog 70 [.slice (some ⟨s1, 0, none⟩) n n, .pointer (some ⟨b5, 0, none⟩)] [(some s1, .cells (ptrs r1 k1 n).toArray 99 (0, 0)), (some r1, .cells c1 T1 f1), (some b5, .cells #[.func (.func 67) #[] #[.pointer (some ⟨b, 0, none⟩)]] 69 (0, 0))] [(some b, .cells #[p, u.v tx.length] 109 (0, 0)), (u.ob, .cells u.cs 5 u.fz)] fun v post => v = .tuple #[] ∧ ∃ p1 u1, UsedOr b p1 ∧ Txt u1 (tx ++ encNums ns) ∧ post = [(some b, .cells #[p1, u1.v (tx ++ encNums ns).length] 109 (0, 0)), (u1.ob, .cells u1.cs 5 u1.fz)] := by
 refine ct_of Try.func70 rfl rfl (fun w0 => ?_)
 show G _ _ [(0, _), (1, _)] _ _
 refine G_seq ?_
 refine G_region (l := [0, 1, 2]) rfl ?_
 refine G_val rfl rfl rfl rfl (V_move rfl rfl) ?_
 refine G_val rfl rfl rfl rfl (V_len rfl rfl Try.underlying98 rfl) ?_
 refine G_val rfl rfl rfl rfl (V_move rfl rfl) ?_
 refine G_done ?_
 refine G_block ?_
 refine G_sub ?he1 [0, 0] ?hl1 (G_loop (X := Nat × Value × Sl) (fun x => match x with | ⟨i, p, u⟩ => i ≤ n ∧ UsedOr b p ∧ Txt u (tx ++ encNums (ns.take i))) (fun x => match x with | ⟨i, p, u⟩ => n - i) (fun x => match x with | ⟨i, p, u⟩ => [(1, .pointer (some ⟨b5, 0, none⟩)), (5, .slice (some ⟨s1, 0, none⟩) n n), (6, .int .i64 (n : Int)), (7, .int .i64 (i : Int))]) (fun x => match x with | ⟨i, p, u⟩ => [(some b, .cells #[p, u.v (tx ++ encNums (ns.take i)).length] 109 (0, 0)), (u.ob, .cells u.cs 5 u.fz)]) ?round1 (0, p, u) ?h01)
 case he1 => exact (And.intro rfl (And.intro rfl (And.intro rfl (And.intro rfl trivial))))
 case hl1 => exact ⟨_, by simp [encNums]; rfl⟩
 case h01 => exact ⟨Nat.zero_le _, hp, by simpa [encNums] using hu⟩
 case round1 =>
  intro x hJ ih
  try dsimp only at hJ ih
  obtain ⟨i, p, u⟩ := x
  try dsimp only at hJ ih
  obtain ⟨hi, hpx, hux⟩ := hJ
  show G _ _ [(1, .pointer (some ⟨b5, 0, none⟩)), (5, .slice (some ⟨s1, 0, none⟩) n n), (6, .int .i64 (n : Int)), (7, .int .i64 (i : Int))] [(some b, .cells #[p, u.v (tx ++ encNums (ns.take i)).length] 109 (0, 0)), (u.ob, .cells u.cs 5 u.fz)] _
  refine G_seq ?_
  refine G_region (l := [0]) rfl ?_
  refine G_val rfl rfl rfl rfl (V_lss rfl rfl rfl) ?_
  refine G_done ?_
  refine G_seq ?_
  refine G_ifD rfl (fun hc1 => ?_) (fun hc1 => ?_)
  · skip
    refine G_skip ?_
    refine G_seq ?_
    refine G_block ?_
    refine G_seq ?_
    have hlt : i < n := by omega
    obtain ⟨x, hx⟩ := getI (show i < ns.length by omega)
    have hen := encNums_len (ns.take i) (fun x hx => h40 x (List.mem_of_mem_take hx))
    have htl : (ns.take i).length = i := by simp; omega
    refine G_region (l := [0, 1, 2]) rfl ?_
    first
      | refine G_val rfl rfl rfl rfl (V_indexAddrN rfl Try.underlying98 infReplyW_99 rfl rfl rfl rfl (by omega)) ?_
      | refine G_val rfl rfl rfl rfl (V_indexAddr rfl Try.underlying98 infReplyW_99 rfl rfl rfl (by omega) (by first | omega | (simp [ltCells]; done) | (simp [ltCells]; omega) | (simp [ltCells] at *; omega))) ?_
    refine G_val rfl rfl rfl rfl (V_load1 rfl rfl (mem_at 0 rfl) (nth_of (ptrs_get _ _ _ _ hlt)) Try.underlying99 rfl) ?_
    refine G_val rfl rfl rfl rfl (V_assign rfl rfl) ?_
    refine G_done ?_
    refine GH_start (Lq := []) (isq := []) (m := 5) mixedK rfl rfl ?_
    refine GH_take 0 rfl rfl rfl rfl (by kernel_rfl) (by kernel_rfl) (by kernel_rfl) (fun _ _ => (V_load1 rfl rfl (mem_at 2 rfl) rfl Try.underlying69 rfl)) ?_
    refine GH_take 1 rfl rfl rfl rfl (by kernel_rfl) (by kernel_rfl) (by kernel_rfl) (fun _ _ => (V_move rfl rfl)) ?_
    first
      | refine GH_take 2 rfl rfl rfl rfl (by kernel_rfl) (by kernel_rfl) (by kernel_rfl) (fun _ _ => (V_nilCheck rfl rfl)) ?_
      | refine GH_take 2 rfl rfl rfl rfl (by kernel_rfl) (by kernel_rfl) (by kernel_rfl) (fun _ _ => (V_nilCheckF rfl rfl)) ?_
    refine GH_take 3 rfl rfl rfl rfl (by kernel_rfl) (by kernel_rfl) (by kernel_rfl) (fun _ _ => (V_load1 rfl rfl (mem_at 1 rfl) (nth_of (h1 _ _ hx)) Try.underlying3 rfl)) ?_
    refine GH_all [4] (by kernel_rfl) (by decide) ?_
    refine (And.intro ?_ trivial)
    · skip
      refine GHop_callC (L2 := []) rfl rfl rfl rfl rfl rfl Try.call67 rfl (rep_enc1 x _ _ _ _ hpx hux (h40 x (List.mem_of_getElem? hx)) (by rw [List.length_append]; omega)) [0, 0] [] rfl rfl [] (by rintro v post ⟨rfl, u1, hu1, rfl⟩; exact ⟨_, rfl⟩) ?_
      rintro v post ⟨rfl, u1, hu1, rfl⟩
      show GH _ _ _ _ _ _ _ [_, _] _
      refine GH_done (by kernel_rfl) ?_
      refine G_inBlock ?_
      rw [List.append_assoc, ← encNums_next hx] at hu1
      rw [List.append_assoc, ← encNums_next hx]
      refine G_region (l := [0, 1]) rfl ?_
      first
        | refine G_val rfl rfl rfl rfl ((V_add rfl rfl rfl).int (wrap_i64 (by omega))) ?_
        | refine G_val rfl rfl rfl rfl (V_add rfl rfl rfl) ?_
      refine G_val rfl rfl rfl rfl (V_move rfl rfl) ?_
      refine G_done ?_
      refine G_sub ?_ [0, 0] ?_ (ih (i + 1, .pointer (some ⟨b, 0, none⟩), u1) ?_ ?_)
      · (refine (And.intro ?_ (And.intro ?_ (And.intro ?_ (And.intro ?_ trivial)))) <;> first | rfl | exact slot_int (by omega) | exact slot_int (by simp))
      · exact ⟨_, rfl⟩
      · exact ⟨by omega, .inr rfl, hu1⟩
      · (first | omega | (dsimp only; omega))
  refine G_exit rfl ?_
  refine G_end (post := [_, _]) Try.func70 rfl RVs_nil [0, 0] rfl ?_
  dsimp only [packed]
  rw [encNums_end (ns := ns) (i := i) (by omega)] at hux ⊢; exact ⟨rfl, p, u, hpx, hux, rfl⟩


theorem encL_next {ls : List Lt} {i : Nat} {l : Lt} (h : ls[i]? = some l) : (ls.take (i + 1)).flatMap encL = (ls.take i).flatMap encL ++ encL l := by
  rw [take_succ_of h]
  simp
theorem bigL {l : Lt} (h : badL l = false) (hn : l.n < 18446744073709551616) : l.tx.length ≤ 100 ∧ (∀ x ∈ l.nums, In40 x) ∧ (encL l).length ≤ 200 := by
  unfold badL at h
  simp only [Bool.or_eq_false_iff, decide_eq_false_iff_not] at h
  obtain ⟨h1, h2⟩ := h
  have h3 := in40_all h2
  have h4 := encNums_len _ h3
  have h5 := text_len l.tx (by omega)
  have h6 := chainI_len (l.n : Int) (by omega) (by omega)
  have h7 : l.nums.length = 4 := rfl
  refine ⟨by omega, h3, ?_⟩
  unfold encL
  simp only [List.length_append]
  omega
theorem flat_encL_len : ∀ (ls : List Lt), (∀ l ∈ ls, (encL l).length ≤ 200) → (ls.flatMap encL).length ≤ 200 * ls.length
  | [], _ => by simp
  | x :: ns, h => by
    have h1 := flat_encL_len ns (fun y hy => h y (by simp [hy]))
    have h2 := h x (by simp)
    simp only [List.flatMap_cons, List.length_append, List.length_cons]
    omega
theorem mayR_all {r : Rp} {ls : List Lt} (h : mayR r ls = true) : r.to_.length ≤ 100 ∧ r.cmd.length ≤ 100 ∧ In40 r.code ∧ (∀ x ∈ r.nums, In40 x) ∧ ls.length ≤ 32 ∧ ∀ l ∈ ls, badL l = false := by
  unfold mayR at h
  simp only [Bool.and_eq_true, Bool.not_eq_true', decide_eq_true_eq] at h
  obtain ⟨⟨⟨⟨⟨h1, h2⟩, h3⟩, h4⟩, h5⟩, h6⟩ := h
  rw [List.any_eq_false] at h6
  exact ⟨by omega, by omega, in40_of h3, in40_all h4, by omega, fun l hl => by simpa using h6 l hl⟩
def repT (r : Rp) (ls : List Lt) : Value := if mayR r ls then .tuple #[.string (bs (encR r ls)), .int .i64 0] else .tuple #[.string (bs []), .int .i64 1]

set_option maxRecDepth 100000 in
set_option maxHeartbeats 1000000 in
theorem rep_encode (r : Rp) (o1 : Option Nat) (p1 q1 : Nat) (c1 : Array Value) (T1 : TypeId) (f1 : Nat × Nat) (ls : List Lt) (h1 : Sees 6 o1 p1 q1 c1 (ls.flatMap ltCells) ls.length) (ok1 : ∀ l ∈ ls, LtOk l) :
    Ct Try.prog 16 [(.agg (rpCells r (sv o1 p1 ls.length q1)).toArray)] [(o1, .cells c1 T1 f1)] [] fun v post => v = repT r ls ∧ post = [] := by
 have hl1 := h1.le
 have hl2 := h1.max
 refine ct_of Try.func16 rfl rfl (fun w0 => ?_)
 show G _ _ [(0, _)] _ _
 refine G_seq ?_
 refine G_region (l := [0, 1, 2]) rfl ?_
 refine G_new rfl rfl rfl rfl (N_boxA rfl rfl) (fun b1 => ?_)
 refine G_val rfl rfl rfl rfl (V_assign rfl rfl) ?_
 refine G_val rfl rfl rfl rfl (V_assign rfl rfl) ?_
 refine G_done ?_
 refine G_seq ?_
 refine G_seq ?_
 refine G_region (l := [0, 1, 2]) rfl ?_
 first
   | refine G_val rfl rfl rfl rfl (V_loadW (s := 12) rfl rfl (mem_at 1 rfl) Try.underlying25 rfl infReplyW_25 rfl (by first | rfl | (simp [bcells_length, ltCells]; done) | (simp [bcells_length, ltCells]; omega) | (simp [bcells_length, *, ltCells]; done))) ?_
   | refine G_val rfl rfl rfl rfl (V_loadA (s := 12) rfl rfl (mem_at 1 rfl) Try.underlying25 rfl infReplyW_25 rfl rfl (by first | rfl | (simp [bcells_length, ltCells]; done) | (simp [bcells_length, ltCells]; omega) | (simp [bcells_length, *, ltCells]; done))) ?_
 refine G_call (L2 := [_]) rfl rfl rfl rfl rfl rfl Try.call19 (rep_may _ _ _ _ _ _ _ _ (by assumption)) [] [0] rfl rfl ?_
 rintro v post ⟨rfl, rfl⟩
 show G _ _ _ [_] _
 refine G_val rfl rfl rfl rfl (V_not rfl rfl) ?_
 refine G_done ?_
 refine G_if rfl (fun hc1 => ?_) (fun hc1 => ?_)
 · skip
   refine G_seq ?_
   refine G_region (l := [0, 1]) rfl ?_
   refine G_val rfl rfl rfl rfl (V_assign rfl rfl) ?_
   refine G_val rfl rfl rfl rfl (V_assign rfl rfl) ?_
   refine G_done ?_
   refine G_ret (post := []) Try.func16 rfl (RVs_cons (RV_tmp rfl) (RVs_cons (RV_tmp rfl) RVs_nil)) [] rfl ?_
   dsimp only [packed]
   first
     | exact ⟨(if_neg (by simpa using hc1)).symm, rfl⟩
     | (refine ⟨?_, rfl⟩; unfold repT encR; rw [if_pos (by simpa using hc1), List.take_of_length_le (by omega)])
 refine G_skip ?_
 refine G_seq ?_
 obtain ⟨m1, m2, m3, m4, m5, m6⟩ := mayR_all (by simpa using hc1 : mayR r ls = true)
 have m3a := m3.1
 have m3b := m3.2
 have g1 := text_len r.to_ (by omega)
 have g2 := chainI_len r.code (by omega) (by omega)
 have g3 := encNums_len r.nums m4
 have g3b : r.nums.length = 8 := rfl
 have g4 := text_len r.cmd (by omega)
 have g5 := chainI_len (ls.length : Int) (by omega) (by omega)
 have g6 : (encR0 r ls.length).length ≤ 400 := by unfold encR0; simp only [List.length_append]; omega
 refine G_region (l := [0]) rfl ?_
 refine G_new rfl rfl rfl rfl (N_allocA rfl infReplyW_109 rfl) (fun b4 => ?_)
 refine G_done ?_
 refine G_seq ?_
 refine G_region (l := [0, 1, 2]) rfl ?_
 refine G_val rfl rfl rfl rfl (V_func rfl rfl rfl) ?_
 refine G_new rfl rfl rfl rfl (N_alloc1 rfl infReplyW_69 rfl rfl) (fun b5 => ?_)
 refine G_put (l1 := []) (L' := [_, _, _]) rfl rfl rfl rfl (P_store1 rfl rfl rfl (mem_at 0 rfl) (by first | exact of_decide_eq_true rfl | omega | (simp [ltCells]; done) | (simp [ltCells]; omega) | (simp [ltCells] at *; omega)) infReplyW_69 rfl rfl) rfl ?_
 refine G_done ?_
 refine G_seq ?_
 refine G_region (l := [0, 1]) rfl ?_
 refine G_val rfl rfl rfl rfl (V_func rfl rfl rfl) ?_
 refine G_val rfl rfl rfl rfl (V_assign rfl rfl) ?_
 refine G_done ?_
 refine G_seq ?_
 refine G_addNone (.cells #[] 5 (0, 0)) ?_
 refine G_region (l := [0, 1, 2, 3]) rfl ?_
 refine G_val rfl rfl rfl rfl (V_fieldAddr (fo := 0) rfl Try.underlying25 rfl infReplyW_9 rfl rfl rfl) ?_
 refine G_val rfl rfl rfl rfl (V_load1 rfl rfl (mem_at 4 rfl) rfl Try.underlying9 rfl) ?_
 refine G_call (L2 := [_, _, _, _]) rfl rfl rfl rfl rfl rfl Try.call71 (ct_text _ (by first | omega | (simp; done) | (simp; omega) | (simp at *; omega))) [] [] rfl rfl ?_
 rintro v post ⟨rfl, rfl⟩
 show G _ _ _ [_, _, _, _] _
 refine G_call (L2 := [_, _]) rfl rfl rfl rfl rfl rfl Try.call68 (bld_write0 _ _ (by first | omega | (simp [ltCells]; done) | (simp [ltCells]; omega) | (simp [ltCells] at *; omega))) [2, 0] [] rfl rfl ?_
 rintro v post ⟨rfl, u1, hu1, rfl⟩
 show G _ _ _ [_, _, _, _] _
 refine G_done ?_
 refine G_seq ?_
 refine G_region (l := [0, 1, 2, 3]) rfl ?_
 refine G_val rfl rfl rfl rfl (V_load1 rfl rfl (mem_at 3 rfl) rfl Try.underlying69 rfl) ?_
 refine G_val rfl rfl rfl rfl (V_fieldAddr (fo := 1) rfl Try.underlying25 rfl infReplyW_22 rfl rfl rfl) ?_
 refine G_val rfl rfl rfl rfl (V_load1 rfl rfl (mem_at 4 rfl) rfl Try.underlying22 rfl) ?_
 refine G_callC (L2 := [_, _]) rfl rfl rfl rfl rfl rfl Try.call67 rfl (rep_enc1 _ _ _ _ _ (by first | assumption | exact .inr rfl | exact .inl rfl) (by first | assumption | exact txt_nil) m3 (by first | omega | (simp [ltCells]; done) | (simp [ltCells]; omega) | (simp [ltCells] at *; omega))) [0, 0] [] rfl rfl ?_
 rintro v post ⟨rfl, u1, hu1, rfl⟩
 show G _ _ _ [_, _, _, _] _
 refine G_done ?_
 refine G_seq ?_
 refine G_region (l := [0, 1, 2]) rfl ?_
 refine G_val rfl rfl rfl rfl (V_move rfl rfl) ?_
 refine G_call (L2 := [_, _, _, _]) rfl rfl rfl rfl rfl rfl Try.call62 (rep_numbers _) [] [] rfl rfl ?_
 rintro v post ⟨bn0, rfl, rfl⟩
 show G _ _ _ [_, _, _, _, _] _
 refine G_callC (L2 := [_, _, _]) rfl rfl rfl rfl rfl rfl Try.call70 rfl (rep_enc2 _ _ _ _ _ _ _ r.nums 8 (by omega) (holds_nums r _) rfl m4 _ _ _ _ (by first | assumption | exact .inr rfl | exact .inl rfl) (by first | assumption | exact txt_nil) (by first | omega | (simp [ltCells]; done) | (simp [ltCells]; omega) | (simp [ltCells] at *; omega))) [1, 1] [1, 3, 2] rfl rfl ?_
 rintro v post ⟨rfl, pp, u1, hpp, hu1, rfl⟩
 show G _ _ _ [_, _, _, _, _] _
 refine G_done ?_
 refine G_seq ?_
 refine G_region (l := [0, 1, 2, 3]) rfl ?_
 refine G_val rfl rfl rfl rfl (V_fieldAddr (fo := 10) rfl Try.underlying25 rfl infReplyW_9 rfl rfl rfl) ?_
 refine G_val rfl rfl rfl rfl (V_load1 rfl rfl (mem_at 5 rfl) rfl Try.underlying9 rfl) ?_
 refine G_call (L2 := [_, _, _, _, _]) rfl rfl rfl rfl rfl rfl Try.call71 (ct_text _ (by first | omega | (simp; done) | (simp; omega) | (simp at *; omega))) [] [] rfl rfl ?_
 rintro v post ⟨rfl, rfl⟩
 show G _ _ _ [_, _, _, _, _] _
 refine G_call (L2 := [_, _, _]) rfl rfl rfl rfl rfl rfl Try.call68 (bld_write _ _ _ _ _ (by first | assumption | exact .inr rfl | exact .inl rfl) (by first | assumption | exact txt_nil) (by first | omega | (simp [ltCells]; done) | (simp [ltCells]; omega) | (simp [ltCells] at *; omega))) [0, 0] [] rfl rfl ?_
 rintro v post ⟨rfl, u1, hu1, rfl⟩
 show G _ _ _ [_, _, _, _, _] _
 refine G_done ?_
 refine G_seq ?_
 refine G_region (l := [0, 1, 2, 3, 4]) rfl ?_
 refine G_val rfl rfl rfl rfl (V_load1 rfl rfl (mem_at 4 rfl) rfl Try.underlying69 rfl) ?_
 refine G_val rfl rfl rfl rfl (V_fieldAddr (fo := 11) rfl Try.underlying25 rfl infReplyW_23 rfl rfl rfl) ?_
 refine G_val rfl rfl rfl rfl (V_load1 rfl rfl (mem_at 5 rfl) rfl Try.underlying23 rfl) ?_
 refine G_val rfl rfl rfl rfl (V_len rfl rfl Try.underlying23 rfl) ?_
 refine G_callC (L2 := [_, _, _]) rfl rfl rfl rfl rfl rfl Try.call67 rfl (rep_enc1 _ _ _ _ _ (by first | assumption | exact .inr rfl | exact .inl rfl) (by first | assumption | exact txt_nil) ⟨by omega, by omega⟩ (by first | omega | (simp [ltCells]; done) | (simp [ltCells]; omega) | (simp [ltCells] at *; omega))) [0, 0] [] rfl rfl ?_
 rintro v post ⟨rfl, u1, hu1, rfl⟩
 show G _ _ _ [_, _, _, _, _] _
 refine G_done ?_
 refine G_seq ?_
 refine G_seq ?_
 refine G_region (l := [0, 1, 2, 3]) rfl ?_
 refine G_val rfl rfl rfl rfl (V_fieldAddr (fo := 11) rfl Try.underlying25 rfl infReplyW_23 rfl rfl rfl) ?_
 refine G_val rfl rfl rfl rfl (V_load1 rfl rfl (mem_at 5 rfl) rfl Try.underlying23 rfl) ?_
 refine G_val rfl rfl rfl rfl (V_len rfl rfl Try.underlying23 rfl) ?_
 refine G_val rfl rfl rfl rfl (V_move rfl rfl) ?_
 refine G_done ?_
 refine G_block ?_
 refine G_sub ?he12 [0, 0, 1] ?hl12 (G_loop (X := Nat × Sl) (fun x => match x with | ⟨i, u⟩ => i ≤ ls.length ∧ Txt u (encR0 r ls.length ++ (ls.take i).flatMap encL)) (fun x => match x with | ⟨i, u⟩ => ls.length - i) (fun x => match x with | ⟨i, u⟩ => [(1, .pointer (some ⟨b1, 0, none⟩)), (4, .pointer (some ⟨b4, 0, none⟩)), (5, .pointer (some ⟨b5, 0, none⟩)), (6, .func (.func 70) #[] #[.pointer (some ⟨b5, 0, none⟩)]), (35, sv o1 p1 ls.length q1), (36, .int .i64 (ls.length : Int)), (37, .int .i64 (i : Int))]) (fun x => match x with | ⟨i, u⟩ => [(some b4, .cells #[.pointer (some ⟨b4, 0, none⟩), u.v (encR0 r ls.length ++ (ls.take i).flatMap encL).length] 109 (0, 0)), (u.ob, .cells u.cs 5 u.fz), (some b5, .cells #[.func (.func 67) #[] #[.pointer (some ⟨b4, 0, none⟩)]] 69 (0, 0))]) ?round12 (0, u1) ?h012)
 case he12 => exact (And.intro rfl (And.intro rfl (And.intro rfl (And.intro rfl (And.intro rfl (And.intro rfl (And.intro rfl trivial)))))))
 case hl12 => exact ⟨_, by simp [encR0]; rfl⟩
 case h012 => exact ⟨Nat.zero_le _, by simpa [encR0] using hu1⟩
 case round12 =>
  intro x hJ ih
  try dsimp only at hJ ih
  obtain ⟨i, u⟩ := x
  try dsimp only at hJ ih
  obtain ⟨hi, hux⟩ := hJ
  show G _ _ [(1, .pointer (some ⟨b1, 0, none⟩)), (4, .pointer (some ⟨b4, 0, none⟩)), (5, .pointer (some ⟨b5, 0, none⟩)), (6, .func (.func 70) #[] #[.pointer (some ⟨b5, 0, none⟩)]), (35, sv o1 p1 ls.length q1), (36, .int .i64 (ls.length : Int)), (37, .int .i64 (i : Int))] [(some b4, .cells #[.pointer (some ⟨b4, 0, none⟩), u.v (encR0 r ls.length ++ (ls.take i).flatMap encL).length] 109 (0, 0)), (u.ob, .cells u.cs 5 u.fz), (some b5, .cells #[.func (.func 67) #[] #[.pointer (some ⟨b4, 0, none⟩)]] 69 (0, 0))] _
  refine G_seq ?_
  refine G_region (l := [0]) rfl ?_
  refine G_val rfl rfl rfl rfl (V_lss rfl rfl rfl) ?_
  refine G_done ?_
  refine G_seq ?_
  refine G_ifD rfl (fun hc2 => ?_) (fun hc2 => ?_)
  · skip
    refine G_skip ?_
    refine G_seq ?_
    refine G_block ?_
    refine G_seq ?_
    obtain ⟨x, hx⟩ := getI (show i < ls.length by omega)
    obtain ⟨s1, rfl⟩ := h1.isSome (by omega)
    obtain ⟨n1, n2, n3⟩ := bigL (m6 x (List.mem_of_getElem? hx)) (ok1 x (List.mem_of_getElem? hx)).n
    have n4 := encNums_len _ n2
    have n4b : x.nums.length = 4 := rfl
    have n5 := text_len x.tx (by omega)
    have n6 := chainI_len (x.n : Int) (by omega) (by have := (ok1 x (List.mem_of_getElem? hx)).n; omega)
    have n7 := flat_encL_len (ls.take i) (fun l hl => (bigL (m6 l (List.mem_of_mem_take hl)) (ok1 l (List.mem_of_mem_take hl)).n).2.2)
    have n8 : (ls.take i).length ≤ 32 := by simp; omega
    have n9 := (ok1 x (List.mem_of_getElem? hx)).n
    refine G_region (l := [0, 1, 2, 3]) rfl ?_
    first
      | refine G_val rfl rfl rfl rfl (V_indexAddrN rfl Try.underlying23 infReplyW_96 rfl rfl rfl rfl (by omega)) ?_
      | refine G_val rfl rfl rfl rfl (V_indexAddr rfl Try.underlying23 infReplyW_96 rfl rfl rfl (by omega) (by first | omega | (simp [ltCells]; done) | (simp [ltCells]; omega) | (simp [ltCells] at *; omega))) ?_
    refine G_val rfl rfl rfl rfl (V_loadA (s := 6) (vs := (ltCells x).toArray) rfl rfl (mem_at 0 rfl) Try.underlying96 rfl infReplyW_96 rfl (h1.elem lt_len hx) (by first | rfl | (simp [bcells_length, ltCells]; done) | (simp [bcells_length, ltCells]; omega) | (simp [bcells_length, *, ltCells]; done))) ?_
    refine G_new rfl rfl rfl rfl (N_allocA rfl infReplyW_96 rfl) (fun b8 => ?_)
    refine G_put (l1 := []) (L' := [_, _, _, _]) rfl rfl rfl rfl (P_storeA (s := 6) rfl rfl rfl (mem_at 0 rfl) (by first | rfl | (simp [bcells_length, ltCells]; done) | (simp [bcells_length, ltCells]; omega) | (simp [bcells_length, *, ltCells]; done)) infReplyW_96 rfl (by first | rfl | (simp [bcells_length, ltCells]; done) | (simp [bcells_length, ltCells]; omega) | (simp [bcells_length, *, ltCells]; done)) (by first | rfl | exact bcells_all _ | (simp [Value.oneCell', ltCells]; done) | (simp [Value.oneCell', *, ltCells]; done))) rfl ?_
    refine G_done ?_
    refine G_seq ?_
    refine G_region (l := [0, 1, 2]) rfl ?_
    refine G_val rfl rfl rfl rfl (V_move rfl rfl) ?_
    refine G_call (L2 := [_, _, _, _]) rfl rfl rfl rfl rfl rfl Try.call72 (rep_letter _) [] [] rfl rfl ?_
    rintro v post ⟨bn0, rfl, rfl⟩
    show G _ _ _ [_, _, _, _, _] _
    refine G_callC (L2 := [_, _, _]) rfl rfl rfl rfl rfl rfl Try.call70 rfl (rep_enc2 _ _ _ _ _ _ _ x.nums 4 (by omega) (holds_letter x) rfl n2 _ _ _ _ (by first | assumption | exact .inr rfl | exact .inl rfl) (by first | assumption | exact txt_nil) (by first | omega | (simp [ltCells]; done) | (simp [ltCells]; omega) | (simp [ltCells] at *; omega))) [2, 2] [1, 2, 3] rfl rfl ?_
    rintro v post ⟨rfl, pp, u1, hpp, hu1, rfl⟩
    show G _ _ _ [_, _, _, _, _] _
    refine G_done ?_
    refine GH_start (Lq := [_]) (isq := [3]) (m := 8) mixedK rfl rfl ?_
    refine GH_take 0 rfl rfl rfl rfl (by kernel_rfl) (by kernel_rfl) (by kernel_rfl) (fun _ _ => (V_fieldAddr (fo := 4) rfl Try.underlying96 rfl infReplyW_9 rfl rfl rfl)) ?_
    refine GH_take 1 rfl rfl rfl rfl (by kernel_rfl) (by kernel_rfl) (by kernel_rfl) (fun _ _ => (V_load1 rfl rfl (mem_at 1 rfl) rfl Try.underlying9 rfl)) ?_
    refine GH_take 3 rfl rfl rfl rfl (by kernel_rfl) (by kernel_rfl) (by kernel_rfl) (fun _ _ => (V_fieldAddr (fo := 5) rfl Try.underlying96 rfl infReplyW_94 rfl rfl rfl)) ?_
    refine GH_take 4 rfl rfl rfl rfl (by kernel_rfl) (by kernel_rfl) (by kernel_rfl) (fun _ _ => (V_load1 rfl rfl (mem_at 1 rfl) rfl Try.underlying94 rfl)) ?_
    refine GH_all [2] (by kernel_rfl) (by decide) ?_
    refine (And.intro ?_ trivial)
    · skip
      refine GHop_call (L2 := [_, _, _, _, _]) rfl rfl rfl rfl rfl rfl Try.call71 (ct_text _ (by first | omega | (simp; done) | (simp; omega) | (simp at *; omega))) [] [] rfl rfl [3] (by rintro v post ⟨rfl, rfl⟩; exact ⟨_, rfl⟩) ?_
      rintro v post ⟨rfl, rfl⟩
      show GH _ _ _ _ _ _ _ [_, _, _, _, _] _
      refine GH_all [5] (by kernel_rfl) (by decide) ?_
      refine (And.intro ?_ trivial)
      · skip
        refine GHop_call (L2 := [_, _, _, _, _]) rfl rfl rfl rfl rfl rfl Try.call69 (ct_chain _ (by omega) (by omega)) [] [] rfl rfl [3] (by rintro v post ⟨rfl, rfl⟩; exact ⟨_, rfl⟩) ?_
        rintro v post ⟨rfl, rfl⟩
        show GH _ _ _ _ _ _ _ [_, _, _, _, _] _
        refine GH_take 6 rfl rfl rfl rfl (by kernel_rfl) (by kernel_rfl) (by kernel_rfl) (fun _ _ => (V_sadd rfl rfl rfl (by first | omega | (simp [ltCells]; done) | (simp [ltCells]; omega) | (simp [ltCells] at *; omega)))) ?_
        refine GH_all [7] (by kernel_rfl) (by decide) ?_
        refine (And.intro ?_ trivial)
        · skip
          refine GHop_call (L2 := [_, _, _]) rfl rfl rfl rfl rfl rfl Try.call68 (bld_write _ _ _ _ _ (by first | assumption | exact .inr rfl | exact .inl rfl) (by first | assumption | exact txt_nil) (by first | omega | (simp [ltCells]; done) | (simp [ltCells]; omega) | (simp [ltCells] at *; omega))) [0, 0] [] rfl rfl [3] (by rintro v post ⟨rfl, u1, hu1, rfl⟩; exact ⟨_, rfl⟩) ?_
          rintro v post ⟨rfl, u1, hu1, rfl⟩
          show GH _ _ _ _ _ _ _ [_, _, _, _, _] _
          refine GH_done (by kernel_rfl) ?_
          refine G_inBlock ?_
          have e : encR0 r ls.length ++ (ls.take i).flatMap encL ++ encNums x.nums ++ (text x.tx ++ chainI (x.n : Int)) = encR0 r ls.length ++ (ls.take (i + 1)).flatMap encL := by rw [encL_next hx]; simp [encL, List.append_assoc]
          rw [e] at hu1 ⊢
          refine G_region (l := [0, 1]) rfl ?_
          first
            | refine G_val rfl rfl rfl rfl ((V_add rfl rfl rfl).int (wrap_i64 (by omega))) ?_
            | refine G_val rfl rfl rfl rfl (V_add rfl rfl rfl) ?_
          refine G_val rfl rfl rfl rfl (V_move rfl rfl) ?_
          refine G_done ?_
          refine G_sub ?_ [0, 0, 2] ?_ (ih (i + 1, u1) ?_ ?_)
          · (refine (And.intro ?_ (And.intro ?_ (And.intro ?_ (And.intro ?_ (And.intro ?_ (And.intro ?_ (And.intro ?_ trivial))))))) <;> first | rfl | exact slot_int (by omega) | exact slot_int (by simp))
          · exact ⟨_, rfl⟩
          · exact ⟨by omega, hu1⟩
          · (first | omega | (dsimp only; omega))
  refine G_exit rfl ?_
  refine G_seq ?_
  have n7 := flat_encL_len (ls.take i) (fun l hl => (bigL (m6 l (List.mem_of_mem_take hl)) (ok1 l (List.mem_of_mem_take hl)).n).2.2)
  have n8 : (ls.take i).length ≤ 32 := by simp; omega
  refine G_region (l := [0, 1, 2]) rfl ?_
  refine G_call (L2 := [_]) rfl rfl rfl rfl rfl rfl Try.call73 (bld_string _ _ _ _ (by assumption) (by first | omega | (simp; done) | (simp; omega) | (simp at *; omega))) [0, 0] [] rfl rfl ?_
  rintro v post ⟨rfl, u1, hu1, rfl⟩
  show G _ _ _ [_, _, _] _
  refine G_val rfl rfl rfl rfl (V_assign rfl rfl) ?_
  refine G_val rfl rfl rfl rfl (V_assign rfl rfl) ?_
  refine G_done ?_
  refine G_ret (post := []) Try.func16 rfl (RVs_cons (RV_tmp rfl) (RVs_cons (RV_tmp rfl) RVs_nil)) [] rfl ?_
  dsimp only [packed]
  first
    | exact ⟨(if_neg (by simpa using hc1)).symm, rfl⟩
    | (refine ⟨?_, rfl⟩; unfold repT encR; rw [if_pos (by simpa using hc1), List.take_of_length_le (by omega)])

end
end Go.Proofs.Ytkidmbaakdaflaa
