/- The law DiskNil: of no disk nothing is told, and nothing is done to it; the call returns true and leaves its argument as it was. -/
import Derived.Test.YtkidmbaakdaflaaDiskL
import Derived.Test.YtkidmbaakdaflaaLaw
set_option linter.unusedSimpArgs false
set_option linter.unusedVariables false
namespace Go.Proofs.Ytkidmbaakdaflaa
open Go.ChangeShapes Go.WideShapes Go.ChangeAt Go.RowKit

section
theorem infLawDiskNil_3 : Try.prog.info? 3 = some Try.t3 := by kernel_rfl
theorem infLawDiskNil_50 : Try.prog.info? 50 = some Try.t50 := by kernel_rfl
theorem infLawDiskNil_67 : Try.prog.info? 67 = some Try.t67 := by kernel_rfl

set_option maxRecDepth 100000 in
set_option maxHeartbeats 1000000 in
theorem diskNil_all (a : Ac) (h : AcOk a) (o1 : Option Nat) (p1 q1 : Nat) (c1 : Array Value) (T1 : TypeId) (f1 : Nat × Nat) (ks : List (Int × Int)) (hs : Sees 2 o1 p1 q1 c1 (ks.flatMap kCells) ks.length) (e : a.p = o1.map fun b => ⟨b, p1, none⟩) (e1 : a.i = ks.length) (e2 : a.j = q1) :
    Ct Try.prog 9 [.agg #[.int .i64 a.kind, .int .i64 a.at_, .int .i64 a.n, .int .u8 a.c, sv o1 p1 ks.length q1]] [(o1, .cells c1 T1 f1)] [] fun v post => v = .bool true ∧ post = [] := by
 have ea : acCells a = [.int .i64 a.kind, .int .i64 a.at_, .int .i64 a.n, .int .u8 a.c, sv o1 p1 ks.length q1] := by unfold acCells sv; rw [e, e1, e2]
 refine ct_of Try.func9 rfl rfl (fun w0 => ?_)
 show G _ _ [(0, _)] _ _
 refine G_seq ?_
 refine G_region (l := [0, 1]) rfl ?_
 refine G_new rfl rfl rfl rfl (N_boxA rfl rfl) (fun b1 => ?_)
 refine G_val rfl rfl rfl rfl (V_assign rfl rfl) ?_
 refine G_done ?_
 refine G_seq ?_
 refine G_region (l := [0]) rfl ?_
 refine G_val rfl rfl rfl rfl (V_assign rfl rfl) ?_
 refine G_done ?_
 refine G_seq ?_
 refine G_seq ?_
 refine G_region (l := [0, 1, 2, 3]) rfl ?_
 refine G_val rfl rfl rfl rfl (V_fieldAddr (fo := 4) rfl Try.underlying67 rfl infLawDiskNil_50 rfl rfl rfl) ?_
 refine G_val rfl rfl rfl rfl (V_load1 rfl rfl (mem_at 1 rfl) rfl Try.underlying50 rfl) ?_
 refine G_val rfl rfl rfl rfl (V_len rfl rfl Try.underlying50 rfl) ?_
 refine G_val rfl rfl rfl rfl (V_gtr rfl rfl rfl) ?_
 refine G_done ?_
 refine G_ifD rfl (fun hc1 => ?_) (fun hc1 => ?_)
 · skip
   refine G_seq ?_
   refine G_region (l := [0, 1]) rfl ?_
   refine G_call (L2 := [_]) rfl rfl rfl rfl rfl rfl Try.call31 (dl_live) [] [] rfl rfl ?_
   rintro v post ⟨rfl, rfl⟩
   show G _ _ _ [_] _
   refine G_val rfl rfl rfl rfl (V_assign rfl rfl) ?_
   refine G_done ?_
   refine G_ret (post := []) Try.func9 rfl (RVs_cons (RV_tmp rfl) RVs_nil) [] rfl ?_
   dsimp only [packed]
   exact ⟨rfl, rfl⟩
 refine G_skip ?_
 refine G_seq ?_
 refine G_region (l := [0, 1, 2, 3, 4, 5, 6, 7, 8]) rfl ?_
 refine G_val rfl rfl rfl rfl (V_move rfl rfl) ?_
 refine G_val rfl rfl rfl rfl (V_fieldAddr (fo := 1) rfl Try.underlying67 rfl infLawDiskNil_3 rfl rfl rfl) ?_
 refine G_val rfl rfl rfl rfl (V_load1 rfl rfl (mem_at 1 rfl) rfl Try.underlying3 rfl) ?_
 refine G_call (L2 := [_]) rfl rfl rfl rfl rfl rfl Try.call40 (dk_read_nil _) [] [] rfl rfl ?_
 rintro v post ⟨rfl, rfl⟩
 show G _ _ _ [_] _
 refine G_val rfl rfl rfl rfl (V_move rfl rfl) ?_
 refine G_val rfl rfl rfl rfl (V_extract rfl rfl rfl) ?_
 refine G_val rfl rfl rfl rfl (V_extract rfl rfl rfl) ?_
 refine G_val rfl rfl rfl rfl (V_assign rfl rfl) ?_
 refine G_val rfl rfl rfl rfl (V_assign rfl rfl) ?_
 refine G_done ?_
 refine G_seq ?_
 refine G_region (l := [0, 1, 2, 3, 4, 5, 6, 7, 8]) rfl ?_
 refine G_val rfl rfl rfl rfl (V_move rfl rfl) ?_
 refine G_val rfl rfl rfl rfl (V_fieldAddr (fo := 1) rfl Try.underlying67 rfl infLawDiskNil_3 rfl rfl rfl) ?_
 refine G_val rfl rfl rfl rfl (V_load1 rfl rfl (mem_at 1 rfl) rfl Try.underlying3 rfl) ?_
 refine G_call (L2 := [_]) rfl rfl rfl rfl rfl rfl Try.call41 (dk_lies_nil _) [] [] rfl rfl ?_
 rintro v post ⟨rfl, rfl⟩
 show G _ _ _ [_] _
 refine G_val rfl rfl rfl rfl (V_move rfl rfl) ?_
 refine G_val rfl rfl rfl rfl (V_extract rfl rfl rfl) ?_
 refine G_val rfl rfl rfl rfl (V_extract rfl rfl rfl) ?_
 refine G_val rfl rfl rfl rfl (V_assign rfl rfl) ?_
 refine G_val rfl rfl rfl rfl (V_assign rfl rfl) ?_
 refine G_done ?_
 refine G_seq ?_
 refine G_region (l := [0, 1, 2, 3]) rfl ?_
 refine G_val rfl rfl rfl rfl (V_move rfl rfl) ?_
 refine G_val rfl rfl rfl rfl (V_fieldAddr (fo := 2) rfl Try.underlying67 rfl infLawDiskNil_3 rfl rfl rfl) ?_
 refine G_val rfl rfl rfl rfl (V_load1 rfl rfl (mem_at 1 rfl) rfl Try.underlying3 rfl) ?_
 refine G_call (L2 := [_]) rfl rfl rfl rfl rfl rfl Try.call42 (dk_fuse_nil _) [] [] rfl rfl ?_
 rintro v post ⟨rfl, rfl⟩
 show G _ _ _ [_] _
 refine G_done ?_
 refine G_seq ?_
 refine GH_start (Lq := [_]) (isq := [0]) (m := 59) mixedK rfl rfl ?_
 refine GH_take 0 rfl rfl rfl rfl (by kernel_rfl) (by kernel_rfl) (by kernel_rfl) (fun _ _ => (V_move rfl rfl)) ?_
 refine GH_take 1 rfl rfl rfl rfl (by kernel_rfl) (by kernel_rfl) (by kernel_rfl) (fun _ _ => (V_seql rfl rfl rfl)) ?_
 refine GH_take 2 rfl rfl rfl rfl (by kernel_rfl) (by kernel_rfl) (by kernel_rfl) (fun _ _ => (V_move rfl rfl)) ?_
 refine GH_splitD 33 rfl (fun hc2 => ?_) (fun hc2 => ?_)
 rotate_left
 · (first | (exact absurd rfl hc2) | (simp at hc2; done) | (exfalso; omega))
 refine GH_take 3 rfl rfl rfl rfl (by kernel_rfl) (by kernel_rfl) (by kernel_rfl) (fun _ _ => (V_move rfl rfl)) ?_
 refine GH_take 4 rfl rfl rfl rfl (by kernel_rfl) (by kernel_rfl) (by kernel_rfl) (fun _ _ => (V_seql rfl rfl rfl)) ?_
 refine GH_take 5 rfl rfl rfl rfl (by kernel_rfl) (by kernel_rfl) (by kernel_rfl) (fun _ _ => (V_pickT rfl rfl rfl)) ?_
 refine GH_take 6 rfl rfl rfl rfl (by kernel_rfl) (by kernel_rfl) (by kernel_rfl) (fun _ _ => (V_move rfl rfl)) ?_
 refine GH_splitD 37 rfl (fun hc3 => ?_) (fun hc3 => ?_)
 rotate_left
 · (first | (exact absurd rfl hc3) | (simp at hc3; done) | (exfalso; omega))
 refine GH_take 7 rfl rfl rfl rfl (by kernel_rfl) (by kernel_rfl) (by kernel_rfl) (fun _ _ => (V_move rfl rfl)) ?_
 refine GH_all [8] (by kernel_rfl) (by decide) ?_
 refine (And.intro ?_ trivial)
 · skip
   refine GHop_call (L2 := [_]) rfl rfl rfl rfl rfl rfl Try.call36 (dl_num _) [] [] rfl rfl [0] (by rintro v post ⟨rfl, rfl⟩; exact ⟨_, rfl⟩) ?_
   rintro v post ⟨rfl, rfl⟩
   show GH _ _ _ _ _ _ _ [_] _
   refine GH_take 9 rfl rfl rfl rfl (by kernel_rfl) (by kernel_rfl) (by kernel_rfl) (fun _ _ => (V_eql rfl rfl rfl)) ?_
   refine GH_take 10 rfl rfl rfl rfl (by kernel_rfl) (by kernel_rfl) (by kernel_rfl) (fun _ _ => (V_pickT rfl rfl rfl)) ?_
   refine GH_take 11 rfl rfl rfl rfl (by kernel_rfl) (by kernel_rfl) (by kernel_rfl) (fun _ _ => (V_move rfl rfl)) ?_
   refine GH_splitD 42 rfl (fun hc4 => ?_) (fun hc4 => ?_)
   rotate_left
   · (first | (exact absurd rfl hc4) | (simp at hc4; done) | (exfalso; omega))
   refine GH_take 12 rfl rfl rfl rfl (by kernel_rfl) (by kernel_rfl) (by kernel_rfl) (fun _ _ => (V_move rfl rfl)) ?_
   refine GH_all [13] (by kernel_rfl) (by decide) ?_
   refine (And.intro ?_ trivial)
   · skip
     refine GHop_call (L2 := [_]) rfl rfl rfl rfl rfl rfl Try.call36 (dl_num _) [] [] rfl rfl [0] (by rintro v post ⟨rfl, rfl⟩; exact ⟨_, rfl⟩) ?_
     rintro v post ⟨rfl, rfl⟩
     show GH _ _ _ _ _ _ _ [_] _
     refine GH_take 14 rfl rfl rfl rfl (by kernel_rfl) (by kernel_rfl) (by kernel_rfl) (fun _ _ => (V_eql rfl rfl rfl)) ?_
     refine GH_take 15 rfl rfl rfl rfl (by kernel_rfl) (by kernel_rfl) (by kernel_rfl) (fun _ _ => (V_pickT rfl rfl rfl)) ?_
     refine GH_take 16 rfl rfl rfl rfl (by kernel_rfl) (by kernel_rfl) (by kernel_rfl) (fun _ _ => (V_move rfl rfl)) ?_
     refine GH_splitD 47 rfl (fun hc5 => ?_) (fun hc5 => ?_)
     rotate_left
     · (first | (exact absurd rfl hc5) | (simp at hc5; done) | (exfalso; omega))
     refine GH_take 17 rfl rfl rfl rfl (by kernel_rfl) (by kernel_rfl) (by kernel_rfl) (fun _ _ => (V_move rfl rfl)) ?_
     refine GH_take 18 rfl rfl rfl rfl (by kernel_rfl) (by kernel_rfl) (by kernel_rfl) (fun _ _ => (V_fieldAddr (fo := 1) rfl Try.underlying67 rfl infLawDiskNil_3 rfl rfl rfl)) ?_
     refine GH_take 19 rfl rfl rfl rfl (by kernel_rfl) (by kernel_rfl) (by kernel_rfl) (fun _ _ => (V_load1 rfl rfl (mem_at 1 rfl) rfl Try.underlying3 rfl)) ?_
     first
       | refine GH_take 20 rfl rfl rfl rfl (by kernel_rfl) (by kernel_rfl) (by kernel_rfl) (fun _ _ => (V_loadW (s := 5) rfl rfl (mem_at 1 rfl) Try.underlying67 rfl infLawDiskNil_67 rfl (by first | rfl | (simp [bcells_length, wCells, kCells, wCells, kCells, wCells, kCells, wCells, kCells, wCells, kCells, acCells]; done) | (simp [bcells_length, wCells, kCells, wCells, kCells, wCells, kCells, wCells, kCells, wCells, kCells, acCells]; omega) | (simp [bcells_length, *, wCells, kCells, wCells, kCells, wCells, kCells, wCells, kCells, wCells, kCells, acCells]; done)))) ?_
       | refine GH_take 20 rfl rfl rfl rfl (by kernel_rfl) (by kernel_rfl) (by kernel_rfl) (fun _ _ => (V_loadA (s := 5) rfl rfl (mem_at 1 rfl) Try.underlying67 rfl infLawDiskNil_67 rfl rfl (by first | rfl | (simp [bcells_length, wCells, kCells, wCells, kCells, wCells, kCells, wCells, kCells, wCells, kCells, acCells]; done) | (simp [bcells_length, wCells, kCells, wCells, kCells, wCells, kCells, wCells, kCells, wCells, kCells, acCells]; omega) | (simp [bcells_length, *, wCells, kCells, wCells, kCells, wCells, kCells, wCells, kCells, wCells, kCells, acCells]; done)))) ?_
     refine GH_all [21] (by kernel_rfl) (by decide) ?_
     refine (And.intro ?_ trivial)
     · skip
       refine GHop_call (L2 := [_]) rfl rfl rfl rfl rfl rfl Try.call44 (by rw [← ea]; exact dl_text a h) [] [] rfl rfl [0] (by rintro v post ⟨rfl, rfl⟩; exact ⟨_, rfl⟩) ?_
       rintro v post ⟨rfl, rfl⟩
       show GH _ _ _ _ _ _ _ [_] _
       refine GH_all [22] (by kernel_rfl) (by decide) ?_
       refine (And.intro ?_ trivial)
       · skip
         refine GHop_call (L2 := [_]) rfl rfl rfl rfl rfl rfl Try.call43 (dk_write_nil _ _) [] [] rfl rfl [0] (by rintro v post ⟨rfl, rfl⟩; exact ⟨_, rfl⟩) ?_
         rintro v post ⟨rfl, rfl⟩
         show GH _ _ _ _ _ _ _ [_] _
         refine GH_all [23] (by kernel_rfl) (by decide) ?_
         refine (And.intro ?_ trivial)
         · skip
           refine GHop_call (L2 := [_]) rfl rfl rfl rfl rfl rfl Try.call36 (dl_num _) [] [] rfl rfl [0] (by rintro v post ⟨rfl, rfl⟩; exact ⟨_, rfl⟩) ?_
           rintro v post ⟨rfl, rfl⟩
           show GH _ _ _ _ _ _ _ [_] _
           refine GH_take 24 rfl rfl rfl rfl (by kernel_rfl) (by kernel_rfl) (by kernel_rfl) (fun _ _ => (V_eql rfl rfl rfl)) ?_
           refine GH_take 25 rfl rfl rfl rfl (by kernel_rfl) (by kernel_rfl) (by kernel_rfl) (fun _ _ => (V_pickT rfl rfl rfl)) ?_
           refine GH_take 26 rfl rfl rfl rfl (by kernel_rfl) (by kernel_rfl) (by kernel_rfl) (fun _ _ => (V_move rfl rfl)) ?_
           refine GH_splitD 57 rfl (fun hc6 => ?_) (fun hc6 => ?_)
           rotate_left
           · (first | (exact absurd rfl hc6) | (simp at hc6; done) | (exfalso; omega))
           refine GH_take 27 rfl rfl rfl rfl (by kernel_rfl) (by kernel_rfl) (by kernel_rfl) (fun _ _ => (V_move rfl rfl)) ?_
           refine GH_all [28] (by kernel_rfl) (by decide) ?_
           refine (And.intro ?_ trivial)
           · skip
             refine GHop_call (L2 := [_]) rfl rfl rfl rfl rfl rfl Try.call37 dk_sync_nil [] [] rfl rfl [0] (by rintro v post ⟨rfl, rfl⟩; exact ⟨_, rfl⟩) ?_
             rintro v post ⟨rfl, rfl⟩
             show GH _ _ _ _ _ _ _ [_] _
             refine GH_all [29] (by kernel_rfl) (by decide) ?_
             refine (And.intro ?_ trivial)
             · skip
               refine GHop_call (L2 := [_]) rfl rfl rfl rfl rfl rfl Try.call36 (dl_num _) [] [] rfl rfl [0] (by rintro v post ⟨rfl, rfl⟩; exact ⟨_, rfl⟩) ?_
               rintro v post ⟨rfl, rfl⟩
               show GH _ _ _ _ _ _ _ [_] _
               refine GH_take 30 rfl rfl rfl rfl (by kernel_rfl) (by kernel_rfl) (by kernel_rfl) (fun _ _ => (V_eql rfl rfl rfl)) ?_
               refine GH_take 31 rfl rfl rfl rfl (by kernel_rfl) (by kernel_rfl) (by kernel_rfl) (fun _ _ => (V_pickT rfl rfl rfl)) ?_
               refine GH_take 32 rfl rfl rfl rfl (by kernel_rfl) (by kernel_rfl) (by kernel_rfl) (fun _ _ => (V_move rfl rfl)) ?_
               refine GH_splitD 63 rfl (fun hc7 => ?_) (fun hc7 => ?_)
               rotate_left
               · (first | (exact absurd rfl hc7) | (simp at hc7; done) | (exfalso; omega))
               refine GH_take 33 rfl rfl rfl rfl (by kernel_rfl) (by kernel_rfl) (by kernel_rfl) (fun _ _ => (V_move rfl rfl)) ?_
               refine GH_take 34 rfl rfl rfl rfl (by kernel_rfl) (by kernel_rfl) (by kernel_rfl) (fun _ _ => (V_fieldAddr (fo := 4) rfl Try.underlying67 rfl infLawDiskNil_50 rfl rfl rfl)) ?_
               refine GH_take 35 rfl rfl rfl rfl (by kernel_rfl) (by kernel_rfl) (by kernel_rfl) (fun _ _ => (V_load1 rfl rfl (mem_at 1 rfl) rfl Try.underlying50 rfl)) ?_
               refine GH_all [36] (by kernel_rfl) (by decide) ?_
               refine (And.intro ?_ trivial)
               · skip
                 refine GHop_call (L2 := [_]) rfl rfl rfl rfl rfl rfl Try.call38 (dk_crash_nil _ _ _ _ _ _ ks hs) [] [0] rfl rfl [0] (by rintro v post ⟨rfl, rfl⟩; exact ⟨_, rfl⟩) ?_
                 rintro v post ⟨rfl, rfl⟩
                 show GH _ _ _ _ _ _ _ [_] _
                 refine GH_all [37] (by kernel_rfl) (by decide) ?_
                 refine (And.intro ?_ trivial)
                 · skip
                   refine GHop_call (L2 := [_]) rfl rfl rfl rfl rfl rfl Try.call36 (dl_num _) [] [] rfl rfl [0] (by rintro v post ⟨rfl, rfl⟩; exact ⟨_, rfl⟩) ?_
                   rintro v post ⟨rfl, rfl⟩
                   show GH _ _ _ _ _ _ _ [_] _
                   refine GH_take 38 rfl rfl rfl rfl (by kernel_rfl) (by kernel_rfl) (by kernel_rfl) (fun _ _ => (V_eql rfl rfl rfl)) ?_
                   refine GH_take 39 rfl rfl rfl rfl (by kernel_rfl) (by kernel_rfl) (by kernel_rfl) (fun _ _ => (V_pickT rfl rfl rfl)) ?_
                   refine GH_take 40 rfl rfl rfl rfl (by kernel_rfl) (by kernel_rfl) (by kernel_rfl) (fun _ _ => (V_move rfl rfl)) ?_
                   refine GH_splitD 71 rfl (fun hc8 => ?_) (fun hc8 => ?_)
                   rotate_left
                   · (first | (exact absurd rfl hc8) | (simp at hc8; done) | (exfalso; omega))
                   refine GH_take 41 rfl rfl rfl rfl (by kernel_rfl) (by kernel_rfl) (by kernel_rfl) (fun _ _ => (V_move rfl rfl)) ?_
                   refine GH_all [42] (by kernel_rfl) (by decide) ?_
                   refine (And.intro ?_ trivial)
                   · skip
                     refine GHop_call (L2 := [_]) rfl rfl rfl rfl rfl rfl Try.call45 dk_size_nil [] [] rfl rfl [0] (by rintro v post ⟨rfl, rfl⟩; exact ⟨_, rfl⟩) ?_
                     rintro v post ⟨rfl, rfl⟩
                     show GH _ _ _ _ _ _ _ [_] _
                     refine GH_take 43 rfl rfl rfl rfl (by kernel_rfl) (by kernel_rfl) (by kernel_rfl) (fun _ _ => (V_eql rfl rfl rfl)) ?_
                     refine GH_take 44 rfl rfl rfl rfl (by kernel_rfl) (by kernel_rfl) (by kernel_rfl) (fun _ _ => (V_pickT rfl rfl rfl)) ?_
                     refine GH_take 45 rfl rfl rfl rfl (by kernel_rfl) (by kernel_rfl) (by kernel_rfl) (fun _ _ => (V_move rfl rfl)) ?_
                     refine GH_splitD 76 rfl (fun hc9 => ?_) (fun hc9 => ?_)
                     rotate_left
                     · (first | (exact absurd rfl hc9) | (simp at hc9; done) | (exfalso; omega))
                     refine GH_take 46 rfl rfl rfl rfl (by kernel_rfl) (by kernel_rfl) (by kernel_rfl) (fun _ _ => (V_move rfl rfl)) ?_
                     refine GH_all [47] (by kernel_rfl) (by decide) ?_
                     refine (And.intro ?_ trivial)
                     · skip
                       refine GHop_call (L2 := [_]) rfl rfl rfl rfl rfl rfl Try.call35 dk_waiting_nil [] [] rfl rfl [0] (by rintro v post ⟨rfl, rfl⟩; exact ⟨_, rfl⟩) ?_
                       rintro v post ⟨rfl, rfl⟩
                       show GH _ _ _ _ _ _ _ [_] _
                       refine GH_take 48 rfl rfl rfl rfl (by kernel_rfl) (by kernel_rfl) (by kernel_rfl) (fun _ _ => (V_eql rfl rfl rfl)) ?_
                       refine GH_take 49 rfl rfl rfl rfl (by kernel_rfl) (by kernel_rfl) (by kernel_rfl) (fun _ _ => (V_pickT rfl rfl rfl)) ?_
                       refine GH_take 50 rfl rfl rfl rfl (by kernel_rfl) (by kernel_rfl) (by kernel_rfl) (fun _ _ => (V_move rfl rfl)) ?_
                       refine GH_splitD 81 rfl (fun hc10 => ?_) (fun hc10 => ?_)
                       rotate_left
                       · (first | (exact absurd rfl hc10) | (simp at hc10; done) | (exfalso; omega))
                       refine GH_take 51 rfl rfl rfl rfl (by kernel_rfl) (by kernel_rfl) (by kernel_rfl) (fun _ _ => (V_move rfl rfl)) ?_
                       refine GH_all [52] (by kernel_rfl) (by decide) ?_
                       refine (And.intro ?_ trivial)
                       · skip
                         refine GHop_call (L2 := [_]) rfl rfl rfl rfl rfl rfl Try.call46 dk_dead_nil [] [] rfl rfl [0] (by rintro v post ⟨rfl, rfl⟩; exact ⟨_, rfl⟩) ?_
                         rintro v post ⟨rfl, rfl⟩
                         show GH _ _ _ _ _ _ _ [_] _
                         refine GH_take 53 rfl rfl rfl rfl (by kernel_rfl) (by kernel_rfl) (by kernel_rfl) (fun _ _ => (V_not rfl rfl)) ?_
                         refine GH_take 54 rfl rfl rfl rfl (by kernel_rfl) (by kernel_rfl) (by kernel_rfl) (fun _ _ => (V_pickT rfl rfl rfl)) ?_
                         refine GH_take 55 rfl rfl rfl rfl (by kernel_rfl) (by kernel_rfl) (by kernel_rfl) (fun _ _ => (V_move rfl rfl)) ?_
                         refine GH_split 86 rfl (fun hc11 => ?_) (fun hc11 => ?_)
                         rotate_left
                         · (first | (exact absurd rfl hc11) | (simp at hc11; done) | (exfalso; omega))
                         refine GH_all [56] (by kernel_rfl) (by decide) ?_
                         refine (And.intro ?_ trivial)
                         · skip
                           refine GHop_call (L2 := [_]) rfl rfl rfl rfl rfl rfl Try.call31 (dl_live) [] [] rfl rfl [0] (by rintro v post ⟨rfl, rfl⟩; exact ⟨_, rfl⟩) ?_
                           rintro v post ⟨rfl, rfl⟩
                           show GH _ _ _ _ _ _ _ [_] _
                           refine GH_take 57 rfl rfl rfl rfl (by kernel_rfl) (by kernel_rfl) (by kernel_rfl) (fun _ _ => (V_pickT rfl rfl rfl)) ?_
                           refine GH_take 58 rfl rfl rfl rfl (by kernel_rfl) (by kernel_rfl) (by kernel_rfl) (fun _ _ => (V_assign rfl rfl)) ?_
                           refine GH_done (by kernel_rfl) ?_
                           refine G_ret (post := []) Try.func9 rfl (RVs_cons (RV_tmp rfl) RVs_nil) [] rfl ?_
                           dsimp only [packed]
                           exact ⟨rfl, rfl⟩


theorem reads_slshape {P : Program} {W : World} {t e : TypeId} {cs : List Value} (h : Reads P W t cs) (ht : P.underlying t = some (.slice e)) : ∃ p i j, cs = [.slice p i j] := by
  obtain ⟨H, enc, n, x, h⟩ := h
  rcases Go.Deep.open_slice ht h with ⟨h0, _⟩ | ⟨a, len, cap, m, n, D, Pl, hcs, _, hl, hm, hmm, _, hx⟩
  · exact ⟨_, _, _, h0⟩
  · exact ⟨_, _, _, hcs⟩
instance : Inhabited (Int × Int) := ⟨(0, 0)⟩
theorem keep_of {W : World} {es : List Value} (hl : es.length = 2) (h : Reads Try.prog W 61 es) : ∃ x : Int × Int, es = kCells x ∧ True := by
  match es, hl with
  | [v0, v1], _ =>
    obtain ⟨n0, e0, _⟩ := reads_int (reads_field (s := 1) (vs := [v0]) h Try.underlying61 0 _ rfl (by kernel_rfl) rfl) Try.underlying3
    obtain ⟨n1, e1, _⟩ := reads_int (reads_field (s := 1) (vs := [v1]) h Try.underlying61 1 _ rfl (by kernel_rfl) rfl) Try.underlying3
    simp only [List.cons.injEq, and_true] at e0 e1
    subst e0 e1
    exact ⟨(n0, n1), rfl, trivial⟩
set_option maxRecDepth 100000 in
theorem act_types : Try.prog.cellTypes Try.prog.depth 67 = some [3, 3, 3, 5, 50] := by kernel_rfl
set_option maxRecDepth 100000 in
theorem diskNil_walk : LawWalk 9 Try.f9 := lawwalk_reads (fun W base args hs hval => by
  rw [Try.params9] at hs hval
  obtain ⟨l⟩ := args
  match l, hs with
  | [a], _ =>
    obtain ⟨h0, hr⟩ := hval 0 67 a rfl rfl
    obtain ⟨cs, rfl, hl, hc⟩ := okv_agg (s := 5) h0 Try.underlying67 rfl act_types (by kernel_rfl) rfl
    match cs, hl, hc, hr with
    | [v0, v1, v2, v3, v4], _, hc, hr =>
      obtain ⟨n0, rfl, x0, y0⟩ := okc_int (hc 0 v0 3 rfl rfl) Try.underlying3
      obtain ⟨n1, rfl, x1, y1⟩ := okc_int (hc 1 v1 3 rfl rfl) Try.underlying3
      obtain ⟨n2, rfl, x2, y2⟩ := okc_int (hc 2 v2 3 rfl rfl) Try.underlying3
      obtain ⟨n3, rfl, x3, y3⟩ := okc_int (hc 3 v3 5 rfl rfl) Try.underlying5
      obtain ⟨ob, off, cap, c, T, fr, ks, rfl, hk, _, hb⟩ := reads_slice (sz := 2) (reads_field (s := 1) (vs := [v4]) hr Try.underlying67 4 _ rfl (by kernel_rfl) rfl) Try.underlying50 (by kernel_rfl) rfl (hc 4 v4 50 rfl rfl) kCells k_len (fun _ => True) (fun es hl h => keep_of hl h)
      have y3' : n3 ≤ (255 : Int) := y3
      exact ⟨_, has_cons (has_nil _) hb, diskNil_all ⟨n0, n1, n2, n3, ob.map fun b => ⟨b, off, none⟩, ks.length, cap⟩ ⟨x1, y1, x2, y2, x3, by show n3 < 256; omega⟩ ob off cap c T fr ks hk rfl rfl rfl⟩)


theorem diskNil_holds : Rows.DiskNilSaid :=
  OpenClaim.holds_of_wide 9 Try.f9 rfl rfl rfl rfl rfl rfl rfl ⟨rfl, rfl, rfl, rfl, rfl⟩ rfl rfl rfl rfl rfl (by kernel_rfl) Try.func9 (by kernel_rfl)
    (of_decide_eq_true (by kernel_rfl)) (by unfold Func.isWrapper; rw [if_neg (by decide +kernel)]; exact ⟨rfl, rfl⟩)
    (fun os started H enc _ => law_lifted (s := Rows.diskNilSpec) os started H enc Try.func9 (by kernel_rfl)
      (ChangeSpec.witness6 (enc := enc) (C := Try.checked) false ⟨#[], #[.agg #[.int .i64 0, .int .i64 0, .int .i64 0, .int .u8 0, .slice none 0 0]], []⟩ 8 (by kernel_rfl) (by kernel_rfl) (by kernel_rfl) (by kernel_rfl))
      rfl (by kernel_rfl) (by kernel_rfl) (by decide +kernel) (fun ds h => by match ds, h with | [_], _ => rfl) diskNil_walk)
#print axioms diskNil_holds

end
end Go.Proofs.Ytkidmbaakdaflaa
