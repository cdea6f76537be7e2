/- The law DumpEncodes: of any state the program says as the document does what it is as bytes, or that it may not be written; these bytes are read as that state again; the call returns true and leaves its argument as it was. The arguments hold at most 1048576 values and letters. -/
import Derived.Test.YtjnaeoelnmhjfaaPkDumpEncodes1
import Derived.Test.YtjnaeoelnmhjfaaPkDumpEncodes2
import Derived.Test.YtjnaeoelnmhjfaaPkDumpEncodes3
import Derived.Test.YtjnaeoelnmhjfaaPkDumpEncodes4
import Derived.Test.YtjnaeoelnmhjfaaPkDumpEncodes5
import Derived.Test.YtjnaeoelnmhjfaaPkDumpEncodes6


set_option linter.unusedSimpArgs false
set_option linter.unusedVariables false
namespace Go.Proofs.Ytjnaeoelnmhjfaa
open Go Go.RowKit

section
set_option maxRecDepth 100000 in
set_option maxHeartbeats 1000000 in
theorem eq_It (s1 s2 : Ins It) (hs1 : InsOk 2 cIt s1) (hs2 : InsOk 2 cIt s2) (he : s1.l = s2.l) (hg : ∀ x ∈ s1.l, GIt x) :
    Ct Try.prog 165 [.slice s1.p s1.l.length s1.cap, .slice s2.p s2.l.length s2.cap] [insK s1, insK s2] [] fun v post => v = .bool true ∧ post = [] := by
 have hl1 := hs1.le
 have hl2 := hs1.max
 have hl3 := hs2.le
 have hl4 := hs2.max
 have hln := congrArg List.length he
 refine Yv Try.func165 rfl rfl (fun w0 => ?_)
 show G _ _ [(0, _), (1, _)] _ _
 refine Zi ?_
 refine Zd (l := [0]) rfl ?_
 refine Za rfl rfl rfl rfl (Zk rfl rfl) ?_
 refine Zg ?_
 refine Zi ?_
 refine Zi ?_
 refine Zd (l := [0, 1, 2, 3, 4]) rfl ?_
 refine Za rfl rfl rfl rfl (Zc rfl rfl) ?_
 refine Za rfl rfl rfl rfl (Yf rfl rfl Try.underlying215 rfl) ?_
 refine Za rfl rfl rfl rfl (Zc rfl rfl) ?_
 refine Za rfl rfl rfl rfl (Yf rfl rfl Try.underlying215 rfl) ?_
 refine Za rfl rfl rfl rfl (V_neq rfl rfl rfl) ?_
 refine Zg ?_
 refine Yl rfl (fun hc1 => ?_) (fun hc1 => ?_)
 · (first | contradiction | (exact absurd rfl hc1) | (exfalso; omega))
 refine Zu ?_
 refine Zi ?_
 refine Zi ?_
 refine Zd (l := [0, 1, 2]) rfl ?_
 refine Za rfl rfl rfl rfl (Zc rfl rfl) ?_
 refine Za rfl rfl rfl rfl (Yf rfl rfl Try.underlying215 rfl) ?_
 refine Za rfl rfl rfl rfl (Zc rfl rfl) ?_
 refine Zg ?_
 refine Zp ?_
 refine Yc ?he4 [] ?hl4 (Xc (X := Nat) (fun i => i ≤ s1.l.length) (fun i => s1.l.length - i) (fun i => [(0, .slice s1.p s1.l.length s1.cap), (1, .slice s2.p s2.l.length s2.cap), (12, .int .i64 (s1.l.length : Int)), (13, .int .i64 (i : Int))]) (fun i => []) ?round4 0 ?h04)
 case he4 => exact (And.intro rfl (And.intro rfl (And.intro rfl (And.intro rfl trivial))))
 case hl4 => exact ⟨_, rfl⟩
 case h04 => exact Nat.zero_le _
 case round4 =>
  intro i hJ ih
  try dsimp only at hJ ih
  refine Zi ?_
  refine Zd (l := [0]) rfl ?_
  refine Za rfl rfl rfl rfl (Xh rfl rfl rfl) ?_
  refine Zg ?_
  refine Zi ?_
  refine Yl rfl (fun hc2 => ?_) (fun hc2 => ?_)
  ·
   refine Zu ?_
   refine Zi ?_
   refine Zp ?_
   refine Zi ?_
   refine Zd (l := [0, 1]) rfl ?_
   refine Za rfl rfl rfl rfl (Zc rfl rfl) ?_
   refine Za rfl rfl rfl rfl (Zk rfl rfl) ?_
   refine Zg ?_
   refine Zi ?_
   obtain ⟨y, hy⟩ := Xv (show i < s1.l.length by omega)
   obtain ⟨y2, hy2⟩ := Xv (show i < s2.l.length by omega)
   obtain ⟨c1, p1, q1, ss1⟩ := hs1.isS (i := i) (by omega)
   obtain ⟨c2, p2, q2, ss2⟩ := hs2.isS (i := i) (by omega)
   rw [p1, p2]
   have hyy : y2 = y := by rw [he, hy2] at hy; exact Option.some.inj hy
   subst hyy
   obtain ⟨lx, hlx⟩ := key_It (hg y2 (List.mem_of_getElem? hy))
   refine G_draw Ym (by kernel_rfl) ?_
   refine Yo rfl rfl rfl rfl (Zc rfl rfl) ?_
   refine Yo rfl rfl rfl rfl (Zc rfl rfl) ?_
   refine Yo rfl rfl rfl rfl (Zl (s := 2) rfl Try.underlying215 i_262 rfl rfl rfl rfl (by omega)) ?_
   refine Yo rfl rfl rfl rfl (Xm (s := 2) (vs := (cIt y2).toArray) rfl rfl (by rw [← Yg q1]; exact Zf 0 rfl) Try.underlying262 rfl i_262 rfl (ss1.elem cIt_len hy) (by rfl)) ?_
   refine Yo rfl rfl rfl rfl (Zc rfl rfl) ?_
   refine Yo rfl rfl rfl rfl (Zc rfl rfl) ?_
   refine Yo rfl rfl rfl rfl (Zl (s := 2) rfl Try.underlying215 i_262 rfl rfl rfl rfl (by omega)) ?_
   refine Yo rfl rfl rfl rfl (Xm (s := 2) (vs := (cIt y2).toArray) rfl rfl (by rw [← Yg q2]; exact Zf 1 rfl) Try.underlying262 rfl i_262 rfl (ss2.elem cIt_len hy2) (by rfl)) ?_
   refine Yo rfl rfl rfl rfl (V_aggneq (m := 6) rfl Try.eqGuardType262 (by kernel_rfl) (by decide) (formed_of Try.underlying262 rfl (by kernel_rfl : Try.prog.cellsOf 262 = 2) (by rfl)) (formed_of Try.underlying262 rfl (by kernel_rfl : Try.prog.cellsOf 262 = 2) (by rfl)) rfl rfl hlx hlx) ?_
   refine GQ_done rfl ?_
   refine Yl rfl (fun hc3 => ?_) (fun hc3 => ?_)
   · (first | contradiction | (exact absurd rfl hc3) | (exfalso; omega))
   refine Zu ?_
   refine Zs ?_
   refine Zd (l := [0, 1]) rfl ?_
   refine Za rfl rfl rfl rfl ((Yu rfl rfl rfl).int (Zv (by omega))) ?_
   refine Za rfl rfl rfl rfl (Zc rfl rfl) ?_
   refine Zg ?_
   refine Yc ?_ [] ?_ (ih (i + 1) ?_ ?_)
   · (refine (And.intro ?_ (And.intro ?_ (And.intro ?_ (And.intro ?_ trivial)))) <;> first | rfl | exact Zm (by omega) | (rw [p1]; rfl) | (rw [p2]; rfl))
   · exact ⟨_, rfl⟩
   · omega
   · (first | omega | (dsimp only; omega))
  refine Yx rfl ?_
  refine Zi ?_
  refine Zd (l := [0]) rfl ?_
  refine Za rfl rfl rfl rfl (Zk rfl rfl) ?_
  refine Zg ?_
  refine Xa (post := []) Try.func165 rfl (Zy (Yy rfl) Zo) [] rfl ?_
  dsimp only [packed]
  exact ⟨rfl, rfl⟩

set_option maxRecDepth 100000 in
set_option maxHeartbeats 1000000 in
theorem eq_Op (s1 s2 : Ins Op) (hs1 : InsOk 18 cOp s1) (hs2 : InsOk 18 cOp s2) (he : s1.l = s2.l) (hg : ∀ x ∈ s1.l, GOp x) :
    Ct Try.prog 65 [.slice s1.p s1.l.length s1.cap, .slice s2.p s2.l.length s2.cap] [insK s1, insK s2] [] fun v post => v = .bool true ∧ post = [] := by
 have hl1 := hs1.le
 have hl2 := hs1.max
 have hl3 := hs2.le
 have hl4 := hs2.max
 have hln := congrArg List.length he
 refine Yv Try.func65 rfl rfl (fun w0 => ?_)
 show G _ _ [(0, _), (1, _)] _ _
 refine Zi ?_
 refine Zd (l := [0]) rfl ?_
 refine Za rfl rfl rfl rfl (Zk rfl rfl) ?_
 refine Zg ?_
 refine Zi ?_
 refine Zi ?_
 refine Zd (l := [0, 1, 2, 3, 4]) rfl ?_
 refine Za rfl rfl rfl rfl (Zc rfl rfl) ?_
 refine Za rfl rfl rfl rfl (Yf rfl rfl Try.underlying24 rfl) ?_
 refine Za rfl rfl rfl rfl (Zc rfl rfl) ?_
 refine Za rfl rfl rfl rfl (Yf rfl rfl Try.underlying24 rfl) ?_
 refine Za rfl rfl rfl rfl (V_neq rfl rfl rfl) ?_
 refine Zg ?_
 refine Yl rfl (fun hc1 => ?_) (fun hc1 => ?_)
 · (first | contradiction | (exact absurd rfl hc1) | (exfalso; omega))
 refine Zu ?_
 refine Zi ?_
 refine Zi ?_
 refine Zd (l := [0, 1, 2]) rfl ?_
 refine Za rfl rfl rfl rfl (Zc rfl rfl) ?_
 refine Za rfl rfl rfl rfl (Yf rfl rfl Try.underlying24 rfl) ?_
 refine Za rfl rfl rfl rfl (Zc rfl rfl) ?_
 refine Zg ?_
 refine Zp ?_
 refine Yc ?he4 [] ?hl4 (Xc (X := Nat) (fun i => i ≤ s1.l.length) (fun i => s1.l.length - i) (fun i => [(0, .slice s1.p s1.l.length s1.cap), (1, .slice s2.p s2.l.length s2.cap), (12, .int .i64 (s1.l.length : Int)), (13, .int .i64 (i : Int))]) (fun i => []) ?round4 0 ?h04)
 case he4 => exact (And.intro rfl (And.intro rfl (And.intro rfl (And.intro rfl trivial))))
 case hl4 => exact ⟨_, rfl⟩
 case h04 => exact Nat.zero_le _
 case round4 =>
  intro i hJ ih
  try dsimp only at hJ ih
  refine Zi ?_
  refine Zd (l := [0]) rfl ?_
  refine Za rfl rfl rfl rfl (Xh rfl rfl rfl) ?_
  refine Zg ?_
  refine Zi ?_
  refine Yl rfl (fun hc2 => ?_) (fun hc2 => ?_)
  ·
   refine Zu ?_
   refine Zi ?_
   refine Zp ?_
   refine Zi ?_
   refine Zd (l := [0, 1]) rfl ?_
   refine Za rfl rfl rfl rfl (Zc rfl rfl) ?_
   refine Za rfl rfl rfl rfl (Zk rfl rfl) ?_
   refine Zg ?_
   refine Zi ?_
   obtain ⟨y, hy⟩ := Xv (show i < s1.l.length by omega)
   obtain ⟨y2, hy2⟩ := Xv (show i < s2.l.length by omega)
   obtain ⟨c1, p1, q1, ss1⟩ := hs1.isS (i := i) (by omega)
   obtain ⟨c2, p2, q2, ss2⟩ := hs2.isS (i := i) (by omega)
   rw [p1, p2]
   have hyy : y2 = y := by rw [he, hy2] at hy; exact Option.some.inj hy
   subst hyy
   obtain ⟨lx, hlx⟩ := key_Op (hg y2 (List.mem_of_getElem? hy))
   refine G_draw Ym (by kernel_rfl) ?_
   refine Yo rfl rfl rfl rfl (Zc rfl rfl) ?_
   refine Yo rfl rfl rfl rfl (Zc rfl rfl) ?_
   refine Yo rfl rfl rfl rfl (Zl (s := 18) rfl Try.underlying24 i_137 rfl rfl rfl rfl (by omega)) ?_
   refine Yo rfl rfl rfl rfl (Xm (s := 18) (vs := (cOp y2).toArray) rfl rfl (by rw [← Yg q1]; exact Zf 0 rfl) Try.underlying137 rfl i_137 rfl (ss1.elem cOp_len hy) (by rfl)) ?_
   refine Yo rfl rfl rfl rfl (Zc rfl rfl) ?_
   refine Yo rfl rfl rfl rfl (Zc rfl rfl) ?_
   refine Yo rfl rfl rfl rfl (Zl (s := 18) rfl Try.underlying24 i_137 rfl rfl rfl rfl (by omega)) ?_
   refine Yo rfl rfl rfl rfl (Xm (s := 18) (vs := (cOp y2).toArray) rfl rfl (by rw [← Yg q2]; exact Zf 1 rfl) Try.underlying137 rfl i_137 rfl (ss2.elem cOp_len hy2) (by rfl)) ?_
   refine Yo rfl rfl rfl rfl (V_aggneq (m := 6) rfl Try.eqGuardType137 (by kernel_rfl) (by decide) (formed_of Try.underlying137 rfl (by kernel_rfl : Try.prog.cellsOf 137 = 18) (by rfl)) (formed_of Try.underlying137 rfl (by kernel_rfl : Try.prog.cellsOf 137 = 18) (by rfl)) rfl rfl hlx hlx) ?_
   refine GQ_done rfl ?_
   refine Yl rfl (fun hc3 => ?_) (fun hc3 => ?_)
   · (first | contradiction | (exact absurd rfl hc3) | (exfalso; omega))
   refine Zu ?_
   refine Zs ?_
   refine Zd (l := [0, 1]) rfl ?_
   refine Za rfl rfl rfl rfl ((Yu rfl rfl rfl).int (Zv (by omega))) ?_
   refine Za rfl rfl rfl rfl (Zc rfl rfl) ?_
   refine Zg ?_
   refine Yc ?_ [] ?_ (ih (i + 1) ?_ ?_)
   · (refine (And.intro ?_ (And.intro ?_ (And.intro ?_ (And.intro ?_ trivial)))) <;> first | rfl | exact Zm (by omega) | (rw [p1]; rfl) | (rw [p2]; rfl))
   · exact ⟨_, rfl⟩
   · omega
   · (first | omega | (dsimp only; omega))
  refine Yx rfl ?_
  refine Zi ?_
  refine Zd (l := [0]) rfl ?_
  refine Za rfl rfl rfl rfl (Zk rfl rfl) ?_
  refine Zg ?_
  refine Xa (post := []) Try.func65 rfl (Zy (Yy rfl) Zo) [] rfl ?_
  dsimp only [packed]
  exact ⟨rfl, rfl⟩

set_option maxRecDepth 100000 in
set_option maxHeartbeats 1000000 in
theorem eq_Wk (s1 s2 : Ins Wk) (hs1 : InsOk 7 cWk s1) (hs2 : InsOk 7 cWk s2) (he : s1.l = s2.l) (hg : ∀ x ∈ s1.l, GWk x) :
    Ct Try.prog 66 [.slice s1.p s1.l.length s1.cap, .slice s2.p s2.l.length s2.cap] [insK s1, insK s2] [] fun v post => v = .bool true ∧ post = [] := by
 have hl1 := hs1.le
 have hl2 := hs1.max
 have hl3 := hs2.le
 have hl4 := hs2.max
 have hln := congrArg List.length he
 refine Yv Try.func66 rfl rfl (fun w0 => ?_)
 show G _ _ [(0, _), (1, _)] _ _
 refine Zi ?_
 refine Zd (l := [0]) rfl ?_
 refine Za rfl rfl rfl rfl (Zk rfl rfl) ?_
 refine Zg ?_
 refine Zi ?_
 refine Zi ?_
 refine Zd (l := [0, 1, 2, 3, 4]) rfl ?_
 refine Za rfl rfl rfl rfl (Zc rfl rfl) ?_
 refine Za rfl rfl rfl rfl (Yf rfl rfl Try.underlying25 rfl) ?_
 refine Za rfl rfl rfl rfl (Zc rfl rfl) ?_
 refine Za rfl rfl rfl rfl (Yf rfl rfl Try.underlying25 rfl) ?_
 refine Za rfl rfl rfl rfl (V_neq rfl rfl rfl) ?_
 refine Zg ?_
 refine Yl rfl (fun hc1 => ?_) (fun hc1 => ?_)
 · (first | contradiction | (exact absurd rfl hc1) | (exfalso; omega))
 refine Zu ?_
 refine Zi ?_
 refine Zi ?_
 refine Zd (l := [0, 1, 2]) rfl ?_
 refine Za rfl rfl rfl rfl (Zc rfl rfl) ?_
 refine Za rfl rfl rfl rfl (Yf rfl rfl Try.underlying25 rfl) ?_
 refine Za rfl rfl rfl rfl (Zc rfl rfl) ?_
 refine Zg ?_
 refine Zp ?_
 refine Yc ?he4 [] ?hl4 (Xc (X := Nat) (fun i => i ≤ s1.l.length) (fun i => s1.l.length - i) (fun i => [(0, .slice s1.p s1.l.length s1.cap), (1, .slice s2.p s2.l.length s2.cap), (12, .int .i64 (s1.l.length : Int)), (13, .int .i64 (i : Int))]) (fun i => []) ?round4 0 ?h04)
 case he4 => exact (And.intro rfl (And.intro rfl (And.intro rfl (And.intro rfl trivial))))
 case hl4 => exact ⟨_, rfl⟩
 case h04 => exact Nat.zero_le _
 case round4 =>
  intro i hJ ih
  try dsimp only at hJ ih
  refine Zi ?_
  refine Zd (l := [0]) rfl ?_
  refine Za rfl rfl rfl rfl (Xh rfl rfl rfl) ?_
  refine Zg ?_
  refine Zi ?_
  refine Yl rfl (fun hc2 => ?_) (fun hc2 => ?_)
  ·
   refine Zu ?_
   refine Zi ?_
   refine Zp ?_
   refine Zi ?_
   refine Zd (l := [0, 1]) rfl ?_
   refine Za rfl rfl rfl rfl (Zc rfl rfl) ?_
   refine Za rfl rfl rfl rfl (Zk rfl rfl) ?_
   refine Zg ?_
   refine Zi ?_
   obtain ⟨y, hy⟩ := Xv (show i < s1.l.length by omega)
   obtain ⟨y2, hy2⟩ := Xv (show i < s2.l.length by omega)
   obtain ⟨c1, p1, q1, ss1⟩ := hs1.isS (i := i) (by omega)
   obtain ⟨c2, p2, q2, ss2⟩ := hs2.isS (i := i) (by omega)
   rw [p1, p2]
   have hyy : y2 = y := by rw [he, hy2] at hy; exact Option.some.inj hy
   subst hyy
   obtain ⟨lx, hlx⟩ := key_Wk (hg y2 (List.mem_of_getElem? hy))
   refine G_draw Ym (by kernel_rfl) ?_
   refine Yo rfl rfl rfl rfl (Zc rfl rfl) ?_
   refine Yo rfl rfl rfl rfl (Zc rfl rfl) ?_
   refine Yo rfl rfl rfl rfl (Zl (s := 7) rfl Try.underlying25 i_92 rfl rfl rfl rfl (by omega)) ?_
   refine Yo rfl rfl rfl rfl (Xm (s := 7) (vs := (cWk y2).toArray) rfl rfl (by rw [← Yg q1]; exact Zf 0 rfl) Try.underlying92 rfl i_92 rfl (ss1.elem cWk_len hy) (by rfl)) ?_
   refine Yo rfl rfl rfl rfl (Zc rfl rfl) ?_
   refine Yo rfl rfl rfl rfl (Zc rfl rfl) ?_
   refine Yo rfl rfl rfl rfl (Zl (s := 7) rfl Try.underlying25 i_92 rfl rfl rfl rfl (by omega)) ?_
   refine Yo rfl rfl rfl rfl (Xm (s := 7) (vs := (cWk y2).toArray) rfl rfl (by rw [← Yg q2]; exact Zf 1 rfl) Try.underlying92 rfl i_92 rfl (ss2.elem cWk_len hy2) (by rfl)) ?_
   refine Yo rfl rfl rfl rfl (V_aggneq (m := 6) rfl Try.eqGuardType92 (by kernel_rfl) (by decide) (formed_of Try.underlying92 rfl (by kernel_rfl : Try.prog.cellsOf 92 = 7) (by rfl)) (formed_of Try.underlying92 rfl (by kernel_rfl : Try.prog.cellsOf 92 = 7) (by rfl)) rfl rfl hlx hlx) ?_
   refine GQ_done rfl ?_
   refine Yl rfl (fun hc3 => ?_) (fun hc3 => ?_)
   · (first | contradiction | (exact absurd rfl hc3) | (exfalso; omega))
   refine Zu ?_
   refine Zs ?_
   refine Zd (l := [0, 1]) rfl ?_
   refine Za rfl rfl rfl rfl ((Yu rfl rfl rfl).int (Zv (by omega))) ?_
   refine Za rfl rfl rfl rfl (Zc rfl rfl) ?_
   refine Zg ?_
   refine Yc ?_ [] ?_ (ih (i + 1) ?_ ?_)
   · (refine (And.intro ?_ (And.intro ?_ (And.intro ?_ (And.intro ?_ trivial)))) <;> first | rfl | exact Zm (by omega) | (rw [p1]; rfl) | (rw [p2]; rfl))
   · exact ⟨_, rfl⟩
   · omega
   · (first | omega | (dsimp only; omega))
  refine Yx rfl ?_
  refine Zi ?_
  refine Zd (l := [0]) rfl ?_
  refine Za rfl rfl rfl rfl (Zk rfl rfl) ?_
  refine Zg ?_
  refine Xa (post := []) Try.func66 rfl (Zy (Yy rfl) Zo) [] rfl ?_
  dsimp only [packed]
  exact ⟨rfl, rfl⟩

set_option maxRecDepth 100000 in
set_option maxHeartbeats 1000000 in
theorem eq_Iv (s1 s2 : Ins Iv) (hs1 : InsOk 5 cIv s1) (hs2 : InsOk 5 cIv s2) (he : s1.l = s2.l) (hg : ∀ x ∈ s1.l, GIv x) :
    Ct Try.prog 67 [.slice s1.p s1.l.length s1.cap, .slice s2.p s2.l.length s2.cap] [insK s1, insK s2] [] fun v post => v = .bool true ∧ post = [] := by
 have hl1 := hs1.le
 have hl2 := hs1.max
 have hl3 := hs2.le
 have hl4 := hs2.max
 have hln := congrArg List.length he
 refine Yv Try.func67 rfl rfl (fun w0 => ?_)
 show G _ _ [(0, _), (1, _)] _ _
 refine Zi ?_
 refine Zd (l := [0]) rfl ?_
 refine Za rfl rfl rfl rfl (Zk rfl rfl) ?_
 refine Zg ?_
 refine Zi ?_
 refine Zi ?_
 refine Zd (l := [0, 1, 2, 3, 4]) rfl ?_
 refine Za rfl rfl rfl rfl (Zc rfl rfl) ?_
 refine Za rfl rfl rfl rfl (Yf rfl rfl Try.underlying26 rfl) ?_
 refine Za rfl rfl rfl rfl (Zc rfl rfl) ?_
 refine Za rfl rfl rfl rfl (Yf rfl rfl Try.underlying26 rfl) ?_
 refine Za rfl rfl rfl rfl (V_neq rfl rfl rfl) ?_
 refine Zg ?_
 refine Yl rfl (fun hc1 => ?_) (fun hc1 => ?_)
 · (first | contradiction | (exact absurd rfl hc1) | (exfalso; omega))
 refine Zu ?_
 refine Zi ?_
 refine Zi ?_
 refine Zd (l := [0, 1, 2]) rfl ?_
 refine Za rfl rfl rfl rfl (Zc rfl rfl) ?_
 refine Za rfl rfl rfl rfl (Yf rfl rfl Try.underlying26 rfl) ?_
 refine Za rfl rfl rfl rfl (Zc rfl rfl) ?_
 refine Zg ?_
 refine Zp ?_
 refine Yc ?he4 [] ?hl4 (Xc (X := Nat) (fun i => i ≤ s1.l.length) (fun i => s1.l.length - i) (fun i => [(0, .slice s1.p s1.l.length s1.cap), (1, .slice s2.p s2.l.length s2.cap), (12, .int .i64 (s1.l.length : Int)), (13, .int .i64 (i : Int))]) (fun i => []) ?round4 0 ?h04)
 case he4 => exact (And.intro rfl (And.intro rfl (And.intro rfl (And.intro rfl trivial))))
 case hl4 => exact ⟨_, rfl⟩
 case h04 => exact Nat.zero_le _
 case round4 =>
  intro i hJ ih
  try dsimp only at hJ ih
  refine Zi ?_
  refine Zd (l := [0]) rfl ?_
  refine Za rfl rfl rfl rfl (Xh rfl rfl rfl) ?_
  refine Zg ?_
  refine Zi ?_
  refine Yl rfl (fun hc2 => ?_) (fun hc2 => ?_)
  ·
   refine Zu ?_
   refine Zi ?_
   refine Zp ?_
   refine Zi ?_
   refine Zd (l := [0, 1]) rfl ?_
   refine Za rfl rfl rfl rfl (Zc rfl rfl) ?_
   refine Za rfl rfl rfl rfl (Zk rfl rfl) ?_
   refine Zg ?_
   refine Zi ?_
   obtain ⟨y, hy⟩ := Xv (show i < s1.l.length by omega)
   obtain ⟨y2, hy2⟩ := Xv (show i < s2.l.length by omega)
   obtain ⟨c1, p1, q1, ss1⟩ := hs1.isS (i := i) (by omega)
   obtain ⟨c2, p2, q2, ss2⟩ := hs2.isS (i := i) (by omega)
   rw [p1, p2]
   have hyy : y2 = y := by rw [he, hy2] at hy; exact Option.some.inj hy
   subst hyy
   obtain ⟨lx, hlx⟩ := key_Iv (hg y2 (List.mem_of_getElem? hy))
   refine G_draw Ym (by kernel_rfl) ?_
   refine Yo rfl rfl rfl rfl (Zc rfl rfl) ?_
   refine Yo rfl rfl rfl rfl (Zc rfl rfl) ?_
   refine Yo rfl rfl rfl rfl (Zl (s := 5) rfl Try.underlying26 i_95 rfl rfl rfl rfl (by omega)) ?_
   refine Yo rfl rfl rfl rfl (Xm (s := 5) (vs := (cIv y2).toArray) rfl rfl (by rw [← Yg q1]; exact Zf 0 rfl) Try.underlying95 rfl i_95 rfl (ss1.elem cIv_len hy) (by rfl)) ?_
   refine Yo rfl rfl rfl rfl (Zc rfl rfl) ?_
   refine Yo rfl rfl rfl rfl (Zc rfl rfl) ?_
   refine Yo rfl rfl rfl rfl (Zl (s := 5) rfl Try.underlying26 i_95 rfl rfl rfl rfl (by omega)) ?_
   refine Yo rfl rfl rfl rfl (Xm (s := 5) (vs := (cIv y2).toArray) rfl rfl (by rw [← Yg q2]; exact Zf 1 rfl) Try.underlying95 rfl i_95 rfl (ss2.elem cIv_len hy2) (by rfl)) ?_
   refine Yo rfl rfl rfl rfl (V_aggneq (m := 6) rfl Try.eqGuardType95 (by kernel_rfl) (by decide) (formed_of Try.underlying95 rfl (by kernel_rfl : Try.prog.cellsOf 95 = 5) (by rfl)) (formed_of Try.underlying95 rfl (by kernel_rfl : Try.prog.cellsOf 95 = 5) (by rfl)) rfl rfl hlx hlx) ?_
   refine GQ_done rfl ?_
   refine Yl rfl (fun hc3 => ?_) (fun hc3 => ?_)
   · (first | contradiction | (exact absurd rfl hc3) | (exfalso; omega))
   refine Zu ?_
   refine Zs ?_
   refine Zd (l := [0, 1]) rfl ?_
   refine Za rfl rfl rfl rfl ((Yu rfl rfl rfl).int (Zv (by omega))) ?_
   refine Za rfl rfl rfl rfl (Zc rfl rfl) ?_
   refine Zg ?_
   refine Yc ?_ [] ?_ (ih (i + 1) ?_ ?_)
   · (refine (And.intro ?_ (And.intro ?_ (And.intro ?_ (And.intro ?_ trivial)))) <;> first | rfl | exact Zm (by omega) | (rw [p1]; rfl) | (rw [p2]; rfl))
   · exact ⟨_, rfl⟩
   · omega
   · (first | omega | (dsimp only; omega))
  refine Yx rfl ?_
  refine Zi ?_
  refine Zd (l := [0]) rfl ?_
  refine Za rfl rfl rfl rfl (Zk rfl rfl) ?_
  refine Zg ?_
  refine Xa (post := []) Try.func67 rfl (Zy (Yy rfl) Zo) [] rfl ?_
  dsimp only [packed]
  exact ⟨rfl, rfl⟩

set_option maxRecDepth 100000 in
set_option maxHeartbeats 1000000 in
theorem eq_Hr (s1 s2 : Ins Hr) (hs1 : InsOk 17 cHr s1) (hs2 : InsOk 17 cHr s2) (he : s1.l = s2.l) (hg : ∀ x ∈ s1.l, GHr x) :
    Ct Try.prog 68 [.slice s1.p s1.l.length s1.cap, .slice s2.p s2.l.length s2.cap] [insK s1, insK s2] [] fun v post => v = .bool true ∧ post = [] := by
 have hl1 := hs1.le
 have hl2 := hs1.max
 have hl3 := hs2.le
 have hl4 := hs2.max
 have hln := congrArg List.length he
 refine Yv Try.func68 rfl rfl (fun w0 => ?_)
 show G _ _ [(0, _), (1, _)] _ _
 refine Zi ?_
 refine Zd (l := [0]) rfl ?_
 refine Za rfl rfl rfl rfl (Zk rfl rfl) ?_
 refine Zg ?_
 refine Zi ?_
 refine Zi ?_
 refine Zd (l := [0, 1, 2, 3, 4]) rfl ?_
 refine Za rfl rfl rfl rfl (Zc rfl rfl) ?_
 refine Za rfl rfl rfl rfl (Yf rfl rfl Try.underlying28 rfl) ?_
 refine Za rfl rfl rfl rfl (Zc rfl rfl) ?_
 refine Za rfl rfl rfl rfl (Yf rfl rfl Try.underlying28 rfl) ?_
 refine Za rfl rfl rfl rfl (V_neq rfl rfl rfl) ?_
 refine Zg ?_
 refine Yl rfl (fun hc1 => ?_) (fun hc1 => ?_)
 · (first | contradiction | (exact absurd rfl hc1) | (exfalso; omega))
 refine Zu ?_
 refine Zi ?_
 refine Zi ?_
 refine Zd (l := [0, 1, 2]) rfl ?_
 refine Za rfl rfl rfl rfl (Zc rfl rfl) ?_
 refine Za rfl rfl rfl rfl (Yf rfl rfl Try.underlying28 rfl) ?_
 refine Za rfl rfl rfl rfl (Zc rfl rfl) ?_
 refine Zg ?_
 refine Zp ?_
 refine Yc ?he4 [] ?hl4 (Xc (X := Nat) (fun i => i ≤ s1.l.length) (fun i => s1.l.length - i) (fun i => [(0, .slice s1.p s1.l.length s1.cap), (1, .slice s2.p s2.l.length s2.cap), (12, .int .i64 (s1.l.length : Int)), (13, .int .i64 (i : Int))]) (fun i => []) ?round4 0 ?h04)
 case he4 => exact (And.intro rfl (And.intro rfl (And.intro rfl (And.intro rfl trivial))))
 case hl4 => exact ⟨_, rfl⟩
 case h04 => exact Nat.zero_le _
 case round4 =>
  intro i hJ ih
  try dsimp only at hJ ih
  refine Zi ?_
  refine Zd (l := [0]) rfl ?_
  refine Za rfl rfl rfl rfl (Xh rfl rfl rfl) ?_
  refine Zg ?_
  refine Zi ?_
  refine Yl rfl (fun hc2 => ?_) (fun hc2 => ?_)
  ·
   refine Zu ?_
   refine Zi ?_
   refine Zp ?_
   refine Zi ?_
   refine Zd (l := [0, 1]) rfl ?_
   refine Za rfl rfl rfl rfl (Zc rfl rfl) ?_
   refine Za rfl rfl rfl rfl (Zk rfl rfl) ?_
   refine Zg ?_
   refine Zi ?_
   obtain ⟨y, hy⟩ := Xv (show i < s1.l.length by omega)
   obtain ⟨y2, hy2⟩ := Xv (show i < s2.l.length by omega)
   obtain ⟨c1, p1, q1, ss1⟩ := hs1.isS (i := i) (by omega)
   obtain ⟨c2, p2, q2, ss2⟩ := hs2.isS (i := i) (by omega)
   rw [p1, p2]
   have hyy : y2 = y := by rw [he, hy2] at hy; exact Option.some.inj hy
   subst hyy
   obtain ⟨lx, hlx⟩ := key_Hr (hg y2 (List.mem_of_getElem? hy))
   refine G_draw Ym (by kernel_rfl) ?_
   refine Yo rfl rfl rfl rfl (Zc rfl rfl) ?_
   refine Yo rfl rfl rfl rfl (Zc rfl rfl) ?_
   refine Yo rfl rfl rfl rfl (Zl (s := 17) rfl Try.underlying28 i_141 rfl rfl rfl rfl (by omega)) ?_
   refine Yo rfl rfl rfl rfl (Xm (s := 17) (vs := (cHr y2).toArray) rfl rfl (by rw [← Yg q1]; exact Zf 0 rfl) Try.underlying141 rfl i_141 rfl (ss1.elem cHr_len hy) (by rfl)) ?_
   refine Yo rfl rfl rfl rfl (Zc rfl rfl) ?_
   refine Yo rfl rfl rfl rfl (Zc rfl rfl) ?_
   refine Yo rfl rfl rfl rfl (Zl (s := 17) rfl Try.underlying28 i_141 rfl rfl rfl rfl (by omega)) ?_
   refine Yo rfl rfl rfl rfl (Xm (s := 17) (vs := (cHr y2).toArray) rfl rfl (by rw [← Yg q2]; exact Zf 1 rfl) Try.underlying141 rfl i_141 rfl (ss2.elem cHr_len hy2) (by rfl)) ?_
   refine Yo rfl rfl rfl rfl (V_aggneq (m := 6) rfl Try.eqGuardType141 (by kernel_rfl) (by decide) (formed_of Try.underlying141 rfl (by kernel_rfl : Try.prog.cellsOf 141 = 17) (by rfl)) (formed_of Try.underlying141 rfl (by kernel_rfl : Try.prog.cellsOf 141 = 17) (by rfl)) rfl rfl hlx hlx) ?_
   refine GQ_done rfl ?_
   refine Yl rfl (fun hc3 => ?_) (fun hc3 => ?_)
   · (first | contradiction | (exact absurd rfl hc3) | (exfalso; omega))
   refine Zu ?_
   refine Zs ?_
   refine Zd (l := [0, 1]) rfl ?_
   refine Za rfl rfl rfl rfl ((Yu rfl rfl rfl).int (Zv (by omega))) ?_
   refine Za rfl rfl rfl rfl (Zc rfl rfl) ?_
   refine Zg ?_
   refine Yc ?_ [] ?_ (ih (i + 1) ?_ ?_)
   · (refine (And.intro ?_ (And.intro ?_ (And.intro ?_ (And.intro ?_ trivial)))) <;> first | rfl | exact Zm (by omega) | (rw [p1]; rfl) | (rw [p2]; rfl))
   · exact ⟨_, rfl⟩
   · omega
   · (first | omega | (dsimp only; omega))
  refine Yx rfl ?_
  refine Zi ?_
  refine Zd (l := [0]) rfl ?_
  refine Za rfl rfl rfl rfl (Zk rfl rfl) ?_
  refine Zg ?_
  refine Xa (post := []) Try.func68 rfl (Zy (Yy rfl) Zo) [] rfl ?_
  dsimp only [packed]
  exact ⟨rfl, rfl⟩

set_option maxRecDepth 100000 in
set_option maxHeartbeats 1000000 in
theorem eq_Lt (s1 s2 : Ins Lt) (hs1 : InsOk 6 cLt s1) (hs2 : InsOk 6 cLt s2) (he : s1.l = s2.l) (hg : ∀ x ∈ s1.l, GLt x) :
    Ct Try.prog 69 [.slice s1.p s1.l.length s1.cap, .slice s2.p s2.l.length s2.cap] [insK s1, insK s2] [] fun v post => v = .bool true ∧ post = [] := by
 have hl1 := hs1.le
 have hl2 := hs1.max
 have hl3 := hs2.le
 have hl4 := hs2.max
 have hln := congrArg List.length he
 refine Yv Try.func69 rfl rfl (fun w0 => ?_)
 show G _ _ [(0, _), (1, _)] _ _
 refine Zi ?_
 refine Zd (l := [0]) rfl ?_
 refine Za rfl rfl rfl rfl (Zk rfl rfl) ?_
 refine Zg ?_
 refine Zi ?_
 refine Zi ?_
 refine Zd (l := [0, 1, 2, 3, 4]) rfl ?_
 refine Za rfl rfl rfl rfl (Zc rfl rfl) ?_
 refine Za rfl rfl rfl rfl (Yf rfl rfl Try.underlying29 rfl) ?_
 refine Za rfl rfl rfl rfl (Zc rfl rfl) ?_
 refine Za rfl rfl rfl rfl (Yf rfl rfl Try.underlying29 rfl) ?_
 refine Za rfl rfl rfl rfl (V_neq rfl rfl rfl) ?_
 refine Zg ?_
 refine Yl rfl (fun hc1 => ?_) (fun hc1 => ?_)
 · (first | contradiction | (exact absurd rfl hc1) | (exfalso; omega))
 refine Zu ?_
 refine Zi ?_
 refine Zi ?_
 refine Zd (l := [0, 1, 2]) rfl ?_
 refine Za rfl rfl rfl rfl (Zc rfl rfl) ?_
 refine Za rfl rfl rfl rfl (Yf rfl rfl Try.underlying29 rfl) ?_
 refine Za rfl rfl rfl rfl (Zc rfl rfl) ?_
 refine Zg ?_
 refine Zp ?_
 refine Yc ?he4 [] ?hl4 (Xc (X := Nat) (fun i => i ≤ s1.l.length) (fun i => s1.l.length - i) (fun i => [(0, .slice s1.p s1.l.length s1.cap), (1, .slice s2.p s2.l.length s2.cap), (12, .int .i64 (s1.l.length : Int)), (13, .int .i64 (i : Int))]) (fun i => []) ?round4 0 ?h04)
 case he4 => exact (And.intro rfl (And.intro rfl (And.intro rfl (And.intro rfl trivial))))
 case hl4 => exact ⟨_, rfl⟩
 case h04 => exact Nat.zero_le _
 case round4 =>
  intro i hJ ih
  try dsimp only at hJ ih
  refine Zi ?_
  refine Zd (l := [0]) rfl ?_
  refine Za rfl rfl rfl rfl (Xh rfl rfl rfl) ?_
  refine Zg ?_
  refine Zi ?_
  refine Yl rfl (fun hc2 => ?_) (fun hc2 => ?_)
  ·
   refine Zu ?_
   refine Zi ?_
   refine Zp ?_
   refine Zi ?_
   refine Zd (l := [0, 1]) rfl ?_
   refine Za rfl rfl rfl rfl (Zc rfl rfl) ?_
   refine Za rfl rfl rfl rfl (Zk rfl rfl) ?_
   refine Zg ?_
   refine Zi ?_
   obtain ⟨y, hy⟩ := Xv (show i < s1.l.length by omega)
   obtain ⟨y2, hy2⟩ := Xv (show i < s2.l.length by omega)
   obtain ⟨c1, p1, q1, ss1⟩ := hs1.isS (i := i) (by omega)
   obtain ⟨c2, p2, q2, ss2⟩ := hs2.isS (i := i) (by omega)
   rw [p1, p2]
   have hyy : y2 = y := by rw [he, hy2] at hy; exact Option.some.inj hy
   subst hyy
   obtain ⟨lx, hlx⟩ := key_Lt (hg y2 (List.mem_of_getElem? hy))
   refine G_draw Ym (by kernel_rfl) ?_
   refine Yo rfl rfl rfl rfl (Zc rfl rfl) ?_
   refine Yo rfl rfl rfl rfl (Zc rfl rfl) ?_
   refine Yo rfl rfl rfl rfl (Zl (s := 6) rfl Try.underlying29 i_143 rfl rfl rfl rfl (by omega)) ?_
   refine Yo rfl rfl rfl rfl (Xm (s := 6) (vs := (cLt y2).toArray) rfl rfl (by rw [← Yg q1]; exact Zf 0 rfl) Try.underlying143 rfl i_143 rfl (ss1.elem cLt_len hy) (by rfl)) ?_
   refine Yo rfl rfl rfl rfl (Zc rfl rfl) ?_
   refine Yo rfl rfl rfl rfl (Zc rfl rfl) ?_
   refine Yo rfl rfl rfl rfl (Zl (s := 6) rfl Try.underlying29 i_143 rfl rfl rfl rfl (by omega)) ?_
   refine Yo rfl rfl rfl rfl (Xm (s := 6) (vs := (cLt y2).toArray) rfl rfl (by rw [← Yg q2]; exact Zf 1 rfl) Try.underlying143 rfl i_143 rfl (ss2.elem cLt_len hy2) (by rfl)) ?_
   refine Yo rfl rfl rfl rfl (V_aggneq (m := 6) rfl Try.eqGuardType143 (by kernel_rfl) (by decide) (formed_of Try.underlying143 rfl (by kernel_rfl : Try.prog.cellsOf 143 = 6) (by rfl)) (formed_of Try.underlying143 rfl (by kernel_rfl : Try.prog.cellsOf 143 = 6) (by rfl)) rfl rfl hlx hlx) ?_
   refine GQ_done rfl ?_
   refine Yl rfl (fun hc3 => ?_) (fun hc3 => ?_)
   · (first | contradiction | (exact absurd rfl hc3) | (exfalso; omega))
   refine Zu ?_
   refine Zs ?_
   refine Zd (l := [0, 1]) rfl ?_
   refine Za rfl rfl rfl rfl ((Yu rfl rfl rfl).int (Zv (by omega))) ?_
   refine Za rfl rfl rfl rfl (Zc rfl rfl) ?_
   refine Zg ?_
   refine Yc ?_ [] ?_ (ih (i + 1) ?_ ?_)
   · (refine (And.intro ?_ (And.intro ?_ (And.intro ?_ (And.intro ?_ trivial)))) <;> first | rfl | exact Zm (by omega) | (rw [p1]; rfl) | (rw [p2]; rfl))
   · exact ⟨_, rfl⟩
   · omega
   · (first | omega | (dsimp only; omega))
  refine Yx rfl ?_
  refine Zi ?_
  refine Zd (l := [0]) rfl ?_
  refine Za rfl rfl rfl rfl (Zk rfl rfl) ?_
  refine Zg ?_
  refine Xa (post := []) Try.func69 rfl (Zy (Yy rfl) Zo) [] rfl ?_
  dsimp only [packed]
  exact ⟨rfl, rfl⟩

set_option maxRecDepth 100000 in
set_option maxHeartbeats 1000000 in
theorem eq_Wt (s1 s2 : Ins Wt) (hs1 : InsOk 2 cWt s1) (hs2 : InsOk 2 cWt s2) (he : s1.l = s2.l) (hg : ∀ x ∈ s1.l, GWt x) :
    Ct Try.prog 70 [.slice s1.p s1.l.length s1.cap, .slice s2.p s2.l.length s2.cap] [insK s1, insK s2] [] fun v post => v = .bool true ∧ post = [] := by
 have hl1 := hs1.le
 have hl2 := hs1.max
 have hl3 := hs2.le
 have hl4 := hs2.max
 have hln := congrArg List.length he
 refine Yv Try.func70 rfl rfl (fun w0 => ?_)
 show G _ _ [(0, _), (1, _)] _ _
 refine Zi ?_
 refine Zd (l := [0]) rfl ?_
 refine Za rfl rfl rfl rfl (Zk rfl rfl) ?_
 refine Zg ?_
 refine Zi ?_
 refine Zi ?_
 refine Zd (l := [0, 1, 2, 3, 4]) rfl ?_
 refine Za rfl rfl rfl rfl (Zc rfl rfl) ?_
 refine Za rfl rfl rfl rfl (Yf rfl rfl Try.underlying30 rfl) ?_
 refine Za rfl rfl rfl rfl (Zc rfl rfl) ?_
 refine Za rfl rfl rfl rfl (Yf rfl rfl Try.underlying30 rfl) ?_
 refine Za rfl rfl rfl rfl (V_neq rfl rfl rfl) ?_
 refine Zg ?_
 refine Yl rfl (fun hc1 => ?_) (fun hc1 => ?_)
 · (first | contradiction | (exact absurd rfl hc1) | (exfalso; omega))
 refine Zu ?_
 refine Zi ?_
 refine Zi ?_
 refine Zd (l := [0, 1, 2]) rfl ?_
 refine Za rfl rfl rfl rfl (Zc rfl rfl) ?_
 refine Za rfl rfl rfl rfl (Yf rfl rfl Try.underlying30 rfl) ?_
 refine Za rfl rfl rfl rfl (Zc rfl rfl) ?_
 refine Zg ?_
 refine Zp ?_
 refine Yc ?he4 [] ?hl4 (Xc (X := Nat) (fun i => i ≤ s1.l.length) (fun i => s1.l.length - i) (fun i => [(0, .slice s1.p s1.l.length s1.cap), (1, .slice s2.p s2.l.length s2.cap), (12, .int .i64 (s1.l.length : Int)), (13, .int .i64 (i : Int))]) (fun i => []) ?round4 0 ?h04)
 case he4 => exact (And.intro rfl (And.intro rfl (And.intro rfl (And.intro rfl trivial))))
 case hl4 => exact ⟨_, rfl⟩
 case h04 => exact Nat.zero_le _
 case round4 =>
  intro i hJ ih
  try dsimp only at hJ ih
  refine Zi ?_
  refine Zd (l := [0]) rfl ?_
  refine Za rfl rfl rfl rfl (Xh rfl rfl rfl) ?_
  refine Zg ?_
  refine Zi ?_
  refine Yl rfl (fun hc2 => ?_) (fun hc2 => ?_)
  ·
   refine Zu ?_
   refine Zi ?_
   refine Zp ?_
   refine Zi ?_
   refine Zd (l := [0, 1]) rfl ?_
   refine Za rfl rfl rfl rfl (Zc rfl rfl) ?_
   refine Za rfl rfl rfl rfl (Zk rfl rfl) ?_
   refine Zg ?_
   refine Zi ?_
   obtain ⟨y, hy⟩ := Xv (show i < s1.l.length by omega)
   obtain ⟨y2, hy2⟩ := Xv (show i < s2.l.length by omega)
   obtain ⟨c1, p1, q1, ss1⟩ := hs1.isS (i := i) (by omega)
   obtain ⟨c2, p2, q2, ss2⟩ := hs2.isS (i := i) (by omega)
   rw [p1, p2]
   have hyy : y2 = y := by rw [he, hy2] at hy; exact Option.some.inj hy
   subst hyy
   obtain ⟨lx, hlx⟩ := key_Wt (hg y2 (List.mem_of_getElem? hy))
   refine G_draw Ym (by kernel_rfl) ?_
   refine Yo rfl rfl rfl rfl (Zc rfl rfl) ?_
   refine Yo rfl rfl rfl rfl (Zc rfl rfl) ?_
   refine Yo rfl rfl rfl rfl (Zl (s := 2) rfl Try.underlying30 i_145 rfl rfl rfl rfl (by omega)) ?_
   refine Yo rfl rfl rfl rfl (Xm (s := 2) (vs := (cWt y2).toArray) rfl rfl (by rw [← Yg q1]; exact Zf 0 rfl) Try.underlying145 rfl i_145 rfl (ss1.elem cWt_len hy) (by rfl)) ?_
   refine Yo rfl rfl rfl rfl (Zc rfl rfl) ?_
   refine Yo rfl rfl rfl rfl (Zc rfl rfl) ?_
   refine Yo rfl rfl rfl rfl (Zl (s := 2) rfl Try.underlying30 i_145 rfl rfl rfl rfl (by omega)) ?_
   refine Yo rfl rfl rfl rfl (Xm (s := 2) (vs := (cWt y2).toArray) rfl rfl (by rw [← Yg q2]; exact Zf 1 rfl) Try.underlying145 rfl i_145 rfl (ss2.elem cWt_len hy2) (by rfl)) ?_
   refine Yo rfl rfl rfl rfl (V_aggneq (m := 6) rfl Try.eqGuardType145 (by kernel_rfl) (by decide) (formed_of Try.underlying145 rfl (by kernel_rfl : Try.prog.cellsOf 145 = 2) (by rfl)) (formed_of Try.underlying145 rfl (by kernel_rfl : Try.prog.cellsOf 145 = 2) (by rfl)) rfl rfl hlx hlx) ?_
   refine GQ_done rfl ?_
   refine Yl rfl (fun hc3 => ?_) (fun hc3 => ?_)
   · (first | contradiction | (exact absurd rfl hc3) | (exfalso; omega))
   refine Zu ?_
   refine Zs ?_
   refine Zd (l := [0, 1]) rfl ?_
   refine Za rfl rfl rfl rfl ((Yu rfl rfl rfl).int (Zv (by omega))) ?_
   refine Za rfl rfl rfl rfl (Zc rfl rfl) ?_
   refine Zg ?_
   refine Yc ?_ [] ?_ (ih (i + 1) ?_ ?_)
   · (refine (And.intro ?_ (And.intro ?_ (And.intro ?_ (And.intro ?_ trivial)))) <;> first | rfl | exact Zm (by omega) | (rw [p1]; rfl) | (rw [p2]; rfl))
   · exact ⟨_, rfl⟩
   · omega
   · (first | omega | (dsimp only; omega))
  refine Yx rfl ?_
  refine Zi ?_
  refine Zd (l := [0]) rfl ?_
  refine Za rfl rfl rfl rfl (Zk rfl rfl) ?_
  refine Zg ?_
  refine Xa (post := []) Try.func70 rfl (Zy (Yy rfl) Zo) [] rfl ?_
  dsimp only [packed]
  exact ⟨rfl, rfl⟩

set_option maxRecDepth 100000 in
set_option maxHeartbeats 1000000 in
theorem eq_Int (s1 s2 : Ins Int) (hs1 : InsOk 1 i1C s1) (hs2 : InsOk 1 i1C s2) (he : s1.l = s2.l) :
    Ct Try.prog 124 [.slice s1.p s1.l.length s1.cap, .slice s2.p s2.l.length s2.cap] [insK s1, insK s2] [] fun v post => v = .bool true ∧ post = [] := by
 have hl1 := hs1.le
 have hl2 := hs1.max
 have hl3 := hs2.le
 have hl4 := hs2.max
 have hln := congrArg List.length he
 refine Yv Try.func124 rfl rfl (fun w0 => ?_)
 show G _ _ [(0, _), (1, _)] _ _
 refine Zi ?_
 refine Zd (l := [0]) rfl ?_
 refine Za rfl rfl rfl rfl (Zk rfl rfl) ?_
 refine Zg ?_
 refine Zi ?_
 refine Zi ?_
 refine Zd (l := [0, 1, 2, 3, 4]) rfl ?_
 refine Za rfl rfl rfl rfl (Zc rfl rfl) ?_
 refine Za rfl rfl rfl rfl (Yf rfl rfl Try.underlying99 rfl) ?_
 refine Za rfl rfl rfl rfl (Zc rfl rfl) ?_
 refine Za rfl rfl rfl rfl (Yf rfl rfl Try.underlying99 rfl) ?_
 refine Za rfl rfl rfl rfl (V_neq rfl rfl rfl) ?_
 refine Zg ?_
 refine Yl rfl (fun hc1 => ?_) (fun hc1 => ?_)
 · (first | contradiction | (exact absurd rfl hc1) | (exfalso; omega))
 refine Zu ?_
 refine Zi ?_
 refine Zi ?_
 refine Zd (l := [0, 1, 2]) rfl ?_
 refine Za rfl rfl rfl rfl (Zc rfl rfl) ?_
 refine Za rfl rfl rfl rfl (Yf rfl rfl Try.underlying99 rfl) ?_
 refine Za rfl rfl rfl rfl (Zc rfl rfl) ?_
 refine Zg ?_
 refine Zp ?_
 refine Yc ?he4 [] ?hl4 (Xc (X := Nat) (fun i => i ≤ s1.l.length) (fun i => s1.l.length - i) (fun i => [(0, .slice s1.p s1.l.length s1.cap), (1, .slice s2.p s2.l.length s2.cap), (12, .int .i64 (s1.l.length : Int)), (13, .int .i64 (i : Int))]) (fun i => []) ?round4 0 ?h04)
 case he4 => exact (And.intro rfl (And.intro rfl (And.intro rfl (And.intro rfl trivial))))
 case hl4 => exact ⟨_, rfl⟩
 case h04 => exact Nat.zero_le _
 case round4 =>
  intro i hJ ih
  try dsimp only at hJ ih
  refine Zi ?_
  refine Zd (l := [0]) rfl ?_
  refine Za rfl rfl rfl rfl (Xh rfl rfl rfl) ?_
  refine Zg ?_
  refine Zi ?_
  refine Yl rfl (fun hc2 => ?_) (fun hc2 => ?_)
  ·
   refine Zu ?_
   refine Zi ?_
   refine Zp ?_
   refine Zi ?_
   refine Zd (l := [0, 1]) rfl ?_
   refine Za rfl rfl rfl rfl (Zc rfl rfl) ?_
   refine Za rfl rfl rfl rfl (Zk rfl rfl) ?_
   refine Zg ?_
   refine Zi ?_
   obtain ⟨y, hy⟩ := Xv (show i < s1.l.length by omega)
   obtain ⟨y2, hy2⟩ := Xv (show i < s2.l.length by omega)
   obtain ⟨c1, p1, q1, ss1⟩ := hs1.isS (i := i) (by omega)
   obtain ⟨c2, p2, q2, ss2⟩ := hs2.isS (i := i) (by omega)
   rw [p1, p2]
   have hyy : y2 = y := by rw [he, hy2] at hy; exact Option.some.inj hy
   subst hyy
   refine G_draw Ym (by kernel_rfl) ?_
   refine Yo rfl rfl rfl rfl (Zc rfl rfl) ?_
   refine Yo rfl rfl rfl rfl (Zc rfl rfl) ?_
   refine Yo rfl rfl rfl rfl (Zl (s := 1) rfl Try.underlying99 i_3 rfl rfl rfl rfl (by omega)) ?_
   refine Yo rfl rfl rfl rfl (Zj rfl rfl (by rw [← Yg q1]; exact Zf 0 rfl) (Zr (Ys ss1 i1_len hy 0 (by omega) rfl)) Try.underlying3 rfl) ?_
   refine Yo rfl rfl rfl rfl (Zc rfl rfl) ?_
   refine Yo rfl rfl rfl rfl (Zc rfl rfl) ?_
   refine Yo rfl rfl rfl rfl (Zl (s := 1) rfl Try.underlying99 i_3 rfl rfl rfl rfl (by omega)) ?_
   refine Yo rfl rfl rfl rfl (Zj rfl rfl (by rw [← Yg q2]; exact Zf 1 rfl) (Zr (Ys ss2 i1_len hy2 0 (by omega) rfl)) Try.underlying3 rfl) ?_
   refine Yo rfl rfl rfl rfl (V_neq rfl rfl rfl) ?_
   refine GQ_done rfl ?_
   refine Yl rfl (fun hc3 => ?_) (fun hc3 => ?_)
   · (first | contradiction | (exact absurd rfl hc3) | (exfalso; omega))
   refine Zu ?_
   refine Zs ?_
   refine Zd (l := [0, 1]) rfl ?_
   refine Za rfl rfl rfl rfl ((Yu rfl rfl rfl).int (Zv (by omega))) ?_
   refine Za rfl rfl rfl rfl (Zc rfl rfl) ?_
   refine Zg ?_
   refine Yc ?_ [] ?_ (ih (i + 1) ?_ ?_)
   · (refine (And.intro ?_ (And.intro ?_ (And.intro ?_ (And.intro ?_ trivial)))) <;> first | rfl | exact Zm (by omega) | (rw [p1]; rfl) | (rw [p2]; rfl))
   · exact ⟨_, rfl⟩
   · omega
   · (first | omega | (dsimp only; omega))
  refine Yx rfl ?_
  refine Zi ?_
  refine Zd (l := [0]) rfl ?_
  refine Za rfl rfl rfl rfl (Zk rfl rfl) ?_
  refine Zg ?_
  refine Xa (post := []) Try.func124 rfl (Zy (Yy rfl) Zo) [] rfl ?_
  dsimp only [packed]
  exact ⟨rfl, rfl⟩

set_option maxRecDepth 100000 in
set_option maxHeartbeats 1000000 in
theorem eq_Bool (s1 s2 : Ins Bool) (hs1 : InsOk 1 bC s1) (hs2 : InsOk 1 bC s2) (he : s1.l = s2.l) :
    Ct Try.prog 125 [.slice s1.p s1.l.length s1.cap, .slice s2.p s2.l.length s2.cap] [insK s1, insK s2] [] fun v post => v = .bool true ∧ post = [] := by
 have hl1 := hs1.le
 have hl2 := hs1.max
 have hl3 := hs2.le
 have hl4 := hs2.max
 have hln := congrArg List.length he
 refine Yv Try.func125 rfl rfl (fun w0 => ?_)
 show G _ _ [(0, _), (1, _)] _ _
 refine Zi ?_
 refine Zd (l := [0]) rfl ?_
 refine Za rfl rfl rfl rfl (Zk rfl rfl) ?_
 refine Zg ?_
 refine Zi ?_
 refine Zi ?_
 refine Zd (l := [0, 1, 2, 3, 4]) rfl ?_
 refine Za rfl rfl rfl rfl (Zc rfl rfl) ?_
 refine Za rfl rfl rfl rfl (Yf rfl rfl Try.underlying101 rfl) ?_
 refine Za rfl rfl rfl rfl (Zc rfl rfl) ?_
 refine Za rfl rfl rfl rfl (Yf rfl rfl Try.underlying101 rfl) ?_
 refine Za rfl rfl rfl rfl (V_neq rfl rfl rfl) ?_
 refine Zg ?_
 refine Yl rfl (fun hc1 => ?_) (fun hc1 => ?_)
 · (first | contradiction | (exact absurd rfl hc1) | (exfalso; omega))
 refine Zu ?_
 refine Zi ?_
 refine Zi ?_
 refine Zd (l := [0, 1, 2]) rfl ?_
 refine Za rfl rfl rfl rfl (Zc rfl rfl) ?_
 refine Za rfl rfl rfl rfl (Yf rfl rfl Try.underlying101 rfl) ?_
 refine Za rfl rfl rfl rfl (Zc rfl rfl) ?_
 refine Zg ?_
 refine Zp ?_
 refine Yc ?he4 [] ?hl4 (Xc (X := Nat) (fun i => i ≤ s1.l.length) (fun i => s1.l.length - i) (fun i => [(0, .slice s1.p s1.l.length s1.cap), (1, .slice s2.p s2.l.length s2.cap), (12, .int .i64 (s1.l.length : Int)), (13, .int .i64 (i : Int))]) (fun i => []) ?round4 0 ?h04)
 case he4 => exact (And.intro rfl (And.intro rfl (And.intro rfl (And.intro rfl trivial))))
 case hl4 => exact ⟨_, rfl⟩
 case h04 => exact Nat.zero_le _
 case round4 =>
  intro i hJ ih
  try dsimp only at hJ ih
  refine Zi ?_
  refine Zd (l := [0]) rfl ?_
  refine Za rfl rfl rfl rfl (Xh rfl rfl rfl) ?_
  refine Zg ?_
  refine Zi ?_
  refine Yl rfl (fun hc2 => ?_) (fun hc2 => ?_)
  ·
   refine Zu ?_
   refine Zi ?_
   refine Zp ?_
   refine Zi ?_
   refine Zd (l := [0, 1]) rfl ?_
   refine Za rfl rfl rfl rfl (Zc rfl rfl) ?_
   refine Za rfl rfl rfl rfl (Zk rfl rfl) ?_
   refine Zg ?_
   refine Zi ?_
   obtain ⟨y, hy⟩ := Xv (show i < s1.l.length by omega)
   obtain ⟨y2, hy2⟩ := Xv (show i < s2.l.length by omega)
   obtain ⟨c1, p1, q1, ss1⟩ := hs1.isS (i := i) (by omega)
   obtain ⟨c2, p2, q2, ss2⟩ := hs2.isS (i := i) (by omega)
   rw [p1, p2]
   have hyy : y2 = y := by rw [he, hy2] at hy; exact Option.some.inj hy
   subst hyy
   refine G_draw Ym (by kernel_rfl) ?_
   refine Yo rfl rfl rfl rfl (Zc rfl rfl) ?_
   refine Yo rfl rfl rfl rfl (Zc rfl rfl) ?_
   refine Yo rfl rfl rfl rfl (Zl (s := 1) rfl Try.underlying101 i_4 rfl rfl rfl rfl (by omega)) ?_
   refine Yo rfl rfl rfl rfl (Zj rfl rfl (by rw [← Yg q1]; exact Zf 0 rfl) (Zr (Ys ss1 bC_len hy 0 (by omega) rfl)) Try.underlying4 rfl) ?_
   refine Yo rfl rfl rfl rfl (Zc rfl rfl) ?_
   refine Yo rfl rfl rfl rfl (Zc rfl rfl) ?_
   refine Yo rfl rfl rfl rfl (Zl (s := 1) rfl Try.underlying101 i_4 rfl rfl rfl rfl (by omega)) ?_
   refine Yo rfl rfl rfl rfl (Zj rfl rfl (by rw [← Yg q2]; exact Zf 1 rfl) (Zr (Ys ss2 bC_len hy2 0 (by omega) rfl)) Try.underlying4 rfl) ?_
   refine Yo rfl rfl rfl rfl (V_bneq rfl Try.underlying4 rfl rfl) ?_
   refine GQ_done rfl ?_
   refine Yl rfl (fun hc3 => ?_) (fun hc3 => ?_)
   · (first | contradiction | (exact absurd rfl hc3) | (exfalso; omega))
   refine Zu ?_
   refine Zs ?_
   refine Zd (l := [0, 1]) rfl ?_
   refine Za rfl rfl rfl rfl ((Yu rfl rfl rfl).int (Zv (by omega))) ?_
   refine Za rfl rfl rfl rfl (Zc rfl rfl) ?_
   refine Zg ?_
   refine Yc ?_ [] ?_ (ih (i + 1) ?_ ?_)
   · (refine (And.intro ?_ (And.intro ?_ (And.intro ?_ (And.intro ?_ trivial)))) <;> first | rfl | exact Zm (by omega) | (rw [p1]; rfl) | (rw [p2]; rfl))
   · exact ⟨_, rfl⟩
   · omega
   · (first | omega | (dsimp only; omega))
  refine Yx rfl ?_
  refine Zi ?_
  refine Zd (l := [0]) rfl ?_
  refine Za rfl rfl rfl rfl (Zk rfl rfl) ?_
  refine Zg ?_
  refine Xa (post := []) Try.func125 rfl (Zy (Yy rfl) Zo) [] rfl ?_
  dsimp only [packed]
  exact ⟨rfl, rfl⟩

set_option maxRecDepth 100000 in
set_option maxHeartbeats 1000000 in
theorem sm_Fl (x y : Fl) (ox : OkFl x) (oy : OkFl y) (he : vFl x = vFl y) (hg : GPF (vFl x)) :
    Ct Try.prog 149 [.agg (cFl x).toArray, .agg (cFl y).toArray] ((kFl x ++ kFl y)) [] fun v post => v = .bool true ∧ post = [] := by
 have e0 := congrArg PF.v0 he
 have e1 := congrArg PF.v1 he
 have e2 := congrArg PF.v2 he
 have el := congrArg PF.l he
 simp only [vFl] at e0 e1 e2 el
 have hgi := (gPF_iff.1 hg).2.2
 refine Yv Try.func149 rfl rfl (fun w0 => ?_)
 show G _ _ [(0, _), (1, _)] _ _
 refine Zi ?_
 refine Zd (l := [0, 1, 2]) rfl ?_
 refine Yr rfl rfl rfl rfl (N_boxA rfl rfl) (fun b2 => ?_)
 refine Yr rfl rfl rfl rfl (N_boxA rfl rfl) (fun b3 => ?_)
 refine Za rfl rfl rfl rfl (Zk rfl rfl) ?_
 refine Zg ?_
 refine Zi ?_
 refine Zd (l := [0, 1, 2, 3, 4, 5, 6, 7, 8, 9, 10, 11, 12, 13, 14, 15, 16, 17, 18, 19, 20, 21, 22, 23, 24, 25, 26]) rfl ?_
 refine Za rfl rfl rfl rfl (Zb (fo := 0) rfl Try.underlying258 rfl i_3 rfl rfl rfl) ?_
 refine Za rfl rfl rfl rfl (Zj rfl rfl (List.mem_append_right _ (Zf 1 rfl)) rfl Try.underlying3 rfl) ?_
 refine Za rfl rfl rfl rfl (Zb (fo := 0) rfl Try.underlying258 rfl i_3 rfl rfl rfl) ?_
 refine Za rfl rfl rfl rfl (Zj rfl rfl (List.mem_append_right _ (Zf 0 rfl)) rfl Try.underlying3 rfl) ?_
 refine Za rfl rfl rfl rfl (V_eql rfl rfl rfl) ?_
 refine Za rfl rfl rfl rfl (Zc rfl rfl) ?_
 refine Xr 10 rfl (fun hc1 => ?_) (fun hc1 => ?_)
 rotate_left
 · (first | contradiction | (exact absurd rfl hc1) | (exfalso; omega))
 refine Za rfl rfl rfl rfl (Zb (fo := 1) rfl Try.underlying258 rfl i_3 rfl rfl rfl) ?_
 refine Za rfl rfl rfl rfl (Zj rfl rfl (List.mem_append_right _ (Zf 1 rfl)) rfl Try.underlying3 rfl) ?_
 refine Za rfl rfl rfl rfl (Zb (fo := 1) rfl Try.underlying258 rfl i_3 rfl rfl rfl) ?_
 refine Za rfl rfl rfl rfl (Zj rfl rfl (List.mem_append_right _ (Zf 0 rfl)) rfl Try.underlying3 rfl) ?_
 refine Za rfl rfl rfl rfl (V_eql rfl rfl rfl) ?_
 refine Za rfl rfl rfl rfl (Yk rfl rfl rfl) ?_
 refine Za rfl rfl rfl rfl (Zc rfl rfl) ?_
 refine Xr 17 rfl (fun hc2 => ?_) (fun hc2 => ?_)
 rotate_left
 · (first | contradiction | (exact absurd rfl hc2) | (exfalso; omega))
 refine Za rfl rfl rfl rfl (Zb (fo := 2) rfl Try.underlying258 rfl i_3 rfl rfl rfl) ?_
 refine Za rfl rfl rfl rfl (Zj rfl rfl (List.mem_append_right _ (Zf 1 rfl)) rfl Try.underlying3 rfl) ?_
 refine Za rfl rfl rfl rfl (Zb (fo := 2) rfl Try.underlying258 rfl i_3 rfl rfl rfl) ?_
 refine Za rfl rfl rfl rfl (Zj rfl rfl (List.mem_append_right _ (Zf 0 rfl)) rfl Try.underlying3 rfl) ?_
 refine Za rfl rfl rfl rfl (V_eql rfl rfl rfl) ?_
 refine Za rfl rfl rfl rfl (Yk rfl rfl rfl) ?_
 refine Za rfl rfl rfl rfl (Zc rfl rfl) ?_
 refine Xr 24 rfl (fun hc3 => ?_) (fun hc3 => ?_)
 rotate_left
 · (first | contradiction | (exact absurd rfl hc3) | (exfalso; omega))
 refine Za rfl rfl rfl rfl (Zb (fo := 3) rfl Try.underlying258 rfl i_215 rfl rfl rfl) ?_
 refine Za rfl rfl rfl rfl (Zj rfl rfl (List.mem_append_right _ (Zf 1 rfl)) rfl Try.underlying215 rfl) ?_
 refine Za rfl rfl rfl rfl (Zb (fo := 3) rfl Try.underlying258 rfl i_215 rfl rfl rfl) ?_
 refine Za rfl rfl rfl rfl (Zj rfl rfl (List.mem_append_right _ (Zf 0 rfl)) rfl Try.underlying215 rfl) ?_
 refine Yn (L2 := [_, _]) rfl rfl rfl rfl rfl rfl Try.call165 (eq_It x.s y.s ox.1 oy.1 el hgi) [] rfl (Yb (List.mem_append_left _ (List.mem_append_left _ List.mem_cons_self)) (Yb (List.mem_append_left _ (List.mem_append_right _ List.mem_cons_self)) Yd)) ?_
 rintro v post ⟨rfl, rfl⟩
 show G _ _ _ [_, _] _
 refine Za rfl rfl rfl rfl (Yk rfl rfl rfl) ?_
 refine Za rfl rfl rfl rfl (Zk rfl rfl) ?_
 refine Zg ?_
 refine Xa (post := []) Try.func149 rfl (Zy (Yy rfl) Zo) [] rfl ?_
 dsimp only [packed]
 exact ⟨rfl, rfl⟩

set_option maxRecDepth 100000 in
set_option maxHeartbeats 1000000 in
theorem ef_Fl (s1 s2 : Ins Fl) (hs1 : InsOk 4 cFl s1) (hs2 : InsOk 4 cFl s2) (ok1 : ∀ y ∈ s1.l, OkFl y) (ok2 : ∀ y ∈ s2.l, OkFl y) (he : s1.l.map vFl = s2.l.map vFl) (hg : ∀ y ∈ s1.l, GPF (vFl y)) :
    Ct Try.prog 148 [.slice s1.p s1.l.length s1.cap, .slice s2.p s2.l.length s2.cap, .func (.func 149) #[] #[]] (insK s1 :: insK s2 :: (s1.l.flatMap kFl ++ s2.l.flatMap kFl)) [] fun v post => v = .bool true ∧ post = [] := by
 have hl1 := hs1.le
 have hl2 := hs1.max
 have hl3 := hs2.le
 have hl4 := hs2.max
 have hln := len_of_map he
 refine Yv Try.func148 rfl rfl (fun w0 => ?_)
 show G _ _ [(0, _), (1, _), (2, _)] _ _
 refine Zi ?_
 refine Zd (l := [0]) rfl ?_
 refine Za rfl rfl rfl rfl (Zk rfl rfl) ?_
 refine Zg ?_
 refine Zi ?_
 refine Zi ?_
 refine Zd (l := [0, 1, 2, 3, 4]) rfl ?_
 refine Za rfl rfl rfl rfl (Zc rfl rfl) ?_
 refine Za rfl rfl rfl rfl (Yf rfl rfl Try.underlying204 rfl) ?_
 refine Za rfl rfl rfl rfl (Zc rfl rfl) ?_
 refine Za rfl rfl rfl rfl (Yf rfl rfl Try.underlying204 rfl) ?_
 refine Za rfl rfl rfl rfl (V_neq rfl rfl rfl) ?_
 refine Zg ?_
 refine Yl rfl (fun hc1 => ?_) (fun hc1 => ?_)
 · (first | contradiction | (exact absurd rfl hc1) | (exfalso; omega))
 refine Zu ?_
 refine Zi ?_
 refine Zi ?_
 refine Zd (l := [0, 1, 2]) rfl ?_
 refine Za rfl rfl rfl rfl (Zc rfl rfl) ?_
 refine Za rfl rfl rfl rfl (Yf rfl rfl Try.underlying204 rfl) ?_
 refine Za rfl rfl rfl rfl (Zc rfl rfl) ?_
 refine Zg ?_
 refine Zp ?_
 refine Yc ?he4 [] ?hl4 (Xc (X := Nat) (fun i => i ≤ s1.l.length) (fun i => s1.l.length - i) (fun i => [(0, .slice s1.p s1.l.length s1.cap), (1, .slice s2.p s2.l.length s2.cap), (2, .func (.func 149) #[] #[]), (15, .slice s1.p s1.l.length s1.cap), (16, .int .i64 (s1.l.length : Int)), (17, .int .i64 (i : Int))]) (fun i => []) ?round4 0 ?h04)
 case he4 => exact (And.intro rfl (And.intro rfl (And.intro rfl (And.intro rfl (And.intro rfl (And.intro rfl trivial))))))
 case hl4 => exact ⟨_, rfl⟩
 case h04 => exact Nat.zero_le _
 case round4 =>
  intro i hJ ih
  try dsimp only at hJ ih
  refine Zi ?_
  refine Zd (l := [0]) rfl ?_
  refine Za rfl rfl rfl rfl (Xh rfl rfl rfl) ?_
  refine Zg ?_
  refine Zi ?_
  refine Yl rfl (fun hc2 => ?_) (fun hc2 => ?_)
  ·
   refine Zu ?_
   refine Zi ?_
   refine Zp ?_
   refine Zi ?_
   obtain ⟨y, hy⟩ := Xv (show i < s1.l.length by omega)
   obtain ⟨y2, hy2⟩ := Xv (show i < s2.l.length by omega)
   obtain ⟨c1, p1, q1, ss1⟩ := hs1.isS (i := i) (by omega)
   obtain ⟨c2, p2, q2, ss2⟩ := hs2.isS (i := i) (by omega)
   rw [p1, p2]
   have hv := map_at he hy hy2
   refine Zd (l := [0, 1, 2, 3, 4, 5]) rfl ?_
   refine Za rfl rfl rfl rfl (Zc rfl rfl) ?_
   refine Za rfl rfl rfl rfl (Zl (s := 4) rfl Try.underlying204 i_258 rfl rfl rfl rfl (by omega)) ?_
   refine Za rfl rfl rfl rfl (Xm (s := 4) (vs := (cFl y).toArray) rfl rfl (by rw [← Yg q1]; exact List.mem_append_left _ (Zf 0 rfl)) Try.underlying258 rfl i_258 rfl (ss1.elem cFl_len hy) (by rfl)) ?_
   refine Yr rfl rfl rfl rfl (Xb rfl i_258 rfl) (fun b8 => ?_)
   refine Za rfl rfl rfl rfl (Zk rfl rfl) ?_
   refine Xl (l1 := []) (L' := [_]) rfl rfl rfl rfl (Xk (s := 4) rfl rfl rfl (Zf 0 rfl) (by rfl) i_258 rfl (by rfl) (by simp [Value.oneCell', cOp, cWk, cIv, cHr, cLt, cWt, cIt, cFl, cTn, cCl, cPo, cSt, cDt, cDs, Sl.v, zIns, insV, cDp, cDst])) rfl ?_
   refine Zg ?_
   refine Zi ?_
   refine Zd (l := [0, 1, 2, 3, 4, 5]) rfl ?_
   refine Za rfl rfl rfl rfl (Zc rfl rfl) ?_
   refine Za rfl rfl rfl rfl (Zc rfl rfl) ?_
   refine Za rfl rfl rfl rfl (Zl (s := 4) rfl Try.underlying204 i_258 rfl rfl rfl rfl (by omega)) ?_
   refine Za rfl rfl rfl rfl (Xm (s := 4) (vs := (cFl y2).toArray) rfl rfl (by rw [← Yg q2]; exact List.mem_append_left _ (Zf 1 rfl)) Try.underlying258 rfl i_258 rfl (ss2.elem cFl_len hy2) (by rfl)) ?_
   refine Yr rfl rfl rfl rfl (Xb rfl i_258 rfl) (fun b9 => ?_)
   refine Xl (l1 := []) (L' := [_, _]) rfl rfl rfl rfl (Xk (s := 4) rfl rfl rfl (Zf 0 rfl) (by rfl) i_258 rfl (by rfl) (by simp [Value.oneCell', cOp, cWk, cIv, cHr, cLt, cWt, cIt, cFl, cTn, cCl, cPo, cSt, cDt, cDs, Sl.v, zIns, insV, cDp, cDst])) rfl ?_
   refine Zg ?_
   refine Zi ?_
   refine Zd (l := [0, 1, 2, 3, 4]) rfl ?_
   refine Za rfl rfl rfl rfl (Zc rfl rfl) ?_
   refine Za rfl rfl rfl rfl (V_loadW (s := 4) rfl rfl (List.mem_append_right _ (Zf 1 rfl)) Try.underlying258 rfl i_258 rfl (by rfl)) ?_
   refine Za rfl rfl rfl rfl (V_loadW (s := 4) rfl rfl (List.mem_append_right _ (Zf 0 rfl)) Try.underlying258 rfl i_258 rfl (by rfl)) ?_
   refine G_callMC (L2 := [_, _]) rfl rfl rfl rfl rfl rfl Try.call149 rfl (sm_Fl y y2 (ok1 y (List.mem_of_getElem? hy)) (ok2 y2 (List.mem_of_getElem? hy2)) hv (hg y (List.mem_of_getElem? hy))) [] rfl (fun z hz => List.mem_append_left _ ((List.mem_append.1 hz).elim (fun h => in_a1 hy h) (fun h => in_a2 hy2 h))) ?_
   rintro v post ⟨rfl, rfl⟩
   show G _ _ _ [_, _] _
   refine Za rfl rfl rfl rfl (V_not rfl rfl) ?_
   refine Zg ?_
   refine G_else rfl ?_
   refine Zu ?_
   refine Zs ?_
   refine Zd (l := [0, 1]) rfl ?_
   refine Za rfl rfl rfl rfl ((Yu rfl rfl rfl).int (Zv (by omega))) ?_
   refine Za rfl rfl rfl rfl (Zc rfl rfl) ?_
   refine Zg ?_
   refine Yc ?_ [] ?_ (ih (i + 1) ?_ ?_)
   · (refine (And.intro ?_ (And.intro ?_ (And.intro ?_ (And.intro ?_ (And.intro ?_ (And.intro ?_ trivial)))))) <;> first | rfl | exact Zm (by omega) | (rw [p1]; rfl) | (rw [p2]; rfl))
   · exact ⟨_, rfl⟩
   · omega
   · (first | omega | (dsimp only; omega))
  refine Yx rfl ?_
  refine Zi ?_
  refine Zd (l := [0]) rfl ?_
  refine Za rfl rfl rfl rfl (Zk rfl rfl) ?_
  refine Zg ?_
  refine Xa (post := []) Try.func148 rfl (Zy (Yy rfl) Zo) [] rfl ?_
  dsimp only [packed]
  exact ⟨rfl, rfl⟩

set_option maxRecDepth 100000 in
set_option maxHeartbeats 1000000 in
theorem sm_Tn (x y : Tn) (ox : OkTn x) (oy : OkTn y) (he : vTn x = vTn y) (hg : GPT (vTn x)) :
    Ct Try.prog 123 [.agg (cTn x).toArray, .agg (cTn y).toArray] ((kTn x ++ kTn y)) [] fun v post => v = .bool true ∧ post = [] := by
 have e0 := congrArg PT.v0 he
 have e1 := congrArg PT.v1 he
 have e2 := congrArg PT.v2 he
 have e3 := congrArg PT.g he
 have el := congrArg PT.l he
 simp only [vTn] at e0 e1 e2 e3 el
 have hgi := (gPT_iff.1 hg).2.2
 simp only [vTn] at hgi
 refine Yv Try.func123 rfl rfl (fun w0 => ?_)
 show G _ _ [(0, _), (1, _)] _ _
 refine Zi ?_
 refine Zd (l := [0, 1, 2]) rfl ?_
 refine Yr rfl rfl rfl rfl (N_boxA rfl rfl) (fun b2 => ?_)
 refine Yr rfl rfl rfl rfl (N_boxA rfl rfl) (fun b3 => ?_)
 refine Za rfl rfl rfl rfl (Zk rfl rfl) ?_
 refine Zg ?_
 refine Zi ?_
 refine Zd (l := [0, 1, 2, 3, 4, 5, 6, 7, 8, 9, 10, 11, 12, 13, 14, 15, 16, 17, 18, 19, 20, 21, 22, 23, 24, 25, 26, 27, 28, 29, 30, 31, 32, 33]) rfl ?_
 refine Za rfl rfl rfl rfl (Zb (fo := 0) rfl Try.underlying206 rfl i_3 rfl rfl rfl) ?_
 refine Za rfl rfl rfl rfl (Zj rfl rfl (List.mem_append_right _ (Zf 1 rfl)) rfl Try.underlying3 rfl) ?_
 refine Za rfl rfl rfl rfl (Zb (fo := 0) rfl Try.underlying206 rfl i_3 rfl rfl rfl) ?_
 refine Za rfl rfl rfl rfl (Zj rfl rfl (List.mem_append_right _ (Zf 0 rfl)) rfl Try.underlying3 rfl) ?_
 refine Za rfl rfl rfl rfl (V_eql rfl rfl rfl) ?_
 refine Za rfl rfl rfl rfl (Zc rfl rfl) ?_
 refine Xr 10 rfl (fun hc1 => ?_) (fun hc1 => ?_)
 rotate_left
 · (first | contradiction | (exact absurd rfl hc1) | (exfalso; omega))
 refine Za rfl rfl rfl rfl (Zb (fo := 1) rfl Try.underlying206 rfl i_3 rfl rfl rfl) ?_
 refine Za rfl rfl rfl rfl (Zj rfl rfl (List.mem_append_right _ (Zf 1 rfl)) rfl Try.underlying3 rfl) ?_
 refine Za rfl rfl rfl rfl (Zb (fo := 1) rfl Try.underlying206 rfl i_3 rfl rfl rfl) ?_
 refine Za rfl rfl rfl rfl (Zj rfl rfl (List.mem_append_right _ (Zf 0 rfl)) rfl Try.underlying3 rfl) ?_
 refine Za rfl rfl rfl rfl (V_eql rfl rfl rfl) ?_
 refine Za rfl rfl rfl rfl (Yk rfl rfl rfl) ?_
 refine Za rfl rfl rfl rfl (Zc rfl rfl) ?_
 refine Xr 17 rfl (fun hc2 => ?_) (fun hc2 => ?_)
 rotate_left
 · (first | contradiction | (exact absurd rfl hc2) | (exfalso; omega))
 refine Za rfl rfl rfl rfl (Zb (fo := 2) rfl Try.underlying206 rfl i_3 rfl rfl rfl) ?_
 refine Za rfl rfl rfl rfl (Zj rfl rfl (List.mem_append_right _ (Zf 1 rfl)) rfl Try.underlying3 rfl) ?_
 refine Za rfl rfl rfl rfl (Zb (fo := 2) rfl Try.underlying206 rfl i_3 rfl rfl rfl) ?_
 refine Za rfl rfl rfl rfl (Zj rfl rfl (List.mem_append_right _ (Zf 0 rfl)) rfl Try.underlying3 rfl) ?_
 refine Za rfl rfl rfl rfl (V_eql rfl rfl rfl) ?_
 refine Za rfl rfl rfl rfl (Yk rfl rfl rfl) ?_
 refine Za rfl rfl rfl rfl (Zc rfl rfl) ?_
 refine Xr 24 rfl (fun hc3 => ?_) (fun hc3 => ?_)
 rotate_left
 · (first | contradiction | (exact absurd rfl hc3) | (exfalso; omega))
 refine Za rfl rfl rfl rfl (Zb (fo := 4) rfl Try.underlying206 rfl i_4 rfl rfl rfl) ?_
 refine Za rfl rfl rfl rfl (Zj rfl rfl (List.mem_append_right _ (Zf 1 rfl)) rfl Try.underlying4 rfl) ?_
 refine Za rfl rfl rfl rfl (Zb (fo := 4) rfl Try.underlying206 rfl i_4 rfl rfl rfl) ?_
 refine Za rfl rfl rfl rfl (Zj rfl rfl (List.mem_append_right _ (Zf 0 rfl)) rfl Try.underlying4 rfl) ?_
 refine Za rfl rfl rfl rfl (V_beql rfl Try.underlying4 rfl rfl) ?_
 refine Za rfl rfl rfl rfl (Yk rfl rfl rfl) ?_
 refine Za rfl rfl rfl rfl (Zc rfl rfl) ?_
 refine Xr 31 rfl (fun hc4 => ?_) (fun hc4 => ?_)
 rotate_left
 · (first | contradiction | (exact absurd rfl hc4) | (exfalso; omega))
 refine Za rfl rfl rfl rfl (Zb (fo := 3) rfl Try.underlying206 rfl i_204 rfl rfl rfl) ?_
 refine Za rfl rfl rfl rfl (Zj rfl rfl (List.mem_append_right _ (Zf 1 rfl)) rfl Try.underlying204 rfl) ?_
 refine Za rfl rfl rfl rfl (Zb (fo := 3) rfl Try.underlying206 rfl i_204 rfl rfl rfl) ?_
 refine Za rfl rfl rfl rfl (Zj rfl rfl (List.mem_append_right _ (Zf 0 rfl)) rfl Try.underlying204 rfl) ?_
 refine Yn (L2 := [_, _]) rfl rfl rfl rfl rfl rfl Try.call148 (ef_Fl x.s y.s ox.1 oy.1 ox.2 oy.2 el (fun f hf => hgi _ (List.mem_map.2 ⟨f, hf, rfl⟩))) [] rfl (sub_2 (fun z hz => List.mem_append_left _ (List.mem_append_left _ hz)) (fun z hz => List.mem_append_left _ (List.mem_append_right _ hz))) ?_
 rintro v post ⟨rfl, rfl⟩
 show G _ _ _ [_, _] _
 refine Za rfl rfl rfl rfl (Yk rfl rfl rfl) ?_
 refine Za rfl rfl rfl rfl (Zk rfl rfl) ?_
 refine Zg ?_
 refine Xa (post := []) Try.func123 rfl (Zy (Yy rfl) Zo) [] rfl ?_
 dsimp only [packed]
 exact ⟨rfl, rfl⟩

set_option maxRecDepth 100000 in
set_option maxHeartbeats 1000000 in
theorem ef_Tn (s1 s2 : Ins Tn) (hs1 : InsOk 5 cTn s1) (hs2 : InsOk 5 cTn s2) (ok1 : ∀ y ∈ s1.l, OkTn y) (ok2 : ∀ y ∈ s2.l, OkTn y) (he : s1.l.map vTn = s2.l.map vTn) (hg : ∀ y ∈ s1.l, GPT (vTn y)) :
    Ct Try.prog 122 [.slice s1.p s1.l.length s1.cap, .slice s2.p s2.l.length s2.cap, .func (.func 123) #[] #[]] (insK s1 :: insK s2 :: (s1.l.flatMap kTn ++ s2.l.flatMap kTn)) [] fun v post => v = .bool true ∧ post = [] := by
 have hl1 := hs1.le
 have hl2 := hs1.max
 have hl3 := hs2.le
 have hl4 := hs2.max
 have hln := len_of_map he
 refine Yv Try.func122 rfl rfl (fun w0 => ?_)
 show G _ _ [(0, _), (1, _), (2, _)] _ _
 refine Zi ?_
 refine Zd (l := [0]) rfl ?_
 refine Za rfl rfl rfl rfl (Zk rfl rfl) ?_
 refine Zg ?_
 refine Zi ?_
 refine Zi ?_
 refine Zd (l := [0, 1, 2, 3, 4]) rfl ?_
 refine Za rfl rfl rfl rfl (Zc rfl rfl) ?_
 refine Za rfl rfl rfl rfl (Yf rfl rfl Try.underlying109 rfl) ?_
 refine Za rfl rfl rfl rfl (Zc rfl rfl) ?_
 refine Za rfl rfl rfl rfl (Yf rfl rfl Try.underlying109 rfl) ?_
 refine Za rfl rfl rfl rfl (V_neq rfl rfl rfl) ?_
 refine Zg ?_
 refine Yl rfl (fun hc1 => ?_) (fun hc1 => ?_)
 · (first | contradiction | (exact absurd rfl hc1) | (exfalso; omega))
 refine Zu ?_
 refine Zi ?_
 refine Zi ?_
 refine Zd (l := [0, 1, 2]) rfl ?_
 refine Za rfl rfl rfl rfl (Zc rfl rfl) ?_
 refine Za rfl rfl rfl rfl (Yf rfl rfl Try.underlying109 rfl) ?_
 refine Za rfl rfl rfl rfl (Zc rfl rfl) ?_
 refine Zg ?_
 refine Zp ?_
 refine Yc ?he4 [] ?hl4 (Xc (X := Nat) (fun i => i ≤ s1.l.length) (fun i => s1.l.length - i) (fun i => [(0, .slice s1.p s1.l.length s1.cap), (1, .slice s2.p s2.l.length s2.cap), (2, .func (.func 123) #[] #[]), (15, .slice s1.p s1.l.length s1.cap), (16, .int .i64 (s1.l.length : Int)), (17, .int .i64 (i : Int))]) (fun i => []) ?round4 0 ?h04)
 case he4 => exact (And.intro rfl (And.intro rfl (And.intro rfl (And.intro rfl (And.intro rfl (And.intro rfl trivial))))))
 case hl4 => exact ⟨_, rfl⟩
 case h04 => exact Nat.zero_le _
 case round4 =>
  intro i hJ ih
  try dsimp only at hJ ih
  refine Zi ?_
  refine Zd (l := [0]) rfl ?_
  refine Za rfl rfl rfl rfl (Xh rfl rfl rfl) ?_
  refine Zg ?_
  refine Zi ?_
  refine Yl rfl (fun hc2 => ?_) (fun hc2 => ?_)
  ·
   refine Zu ?_
   refine Zi ?_
   refine Zp ?_
   refine Zi ?_
   obtain ⟨y, hy⟩ := Xv (show i < s1.l.length by omega)
   obtain ⟨y2, hy2⟩ := Xv (show i < s2.l.length by omega)
   obtain ⟨c1, p1, q1, ss1⟩ := hs1.isS (i := i) (by omega)
   obtain ⟨c2, p2, q2, ss2⟩ := hs2.isS (i := i) (by omega)
   rw [p1, p2]
   have hv := map_at he hy hy2
   refine Zd (l := [0, 1, 2, 3, 4, 5]) rfl ?_
   refine Za rfl rfl rfl rfl (Zc rfl rfl) ?_
   refine Za rfl rfl rfl rfl (Zl (s := 5) rfl Try.underlying109 i_206 rfl rfl rfl rfl (by omega)) ?_
   refine Za rfl rfl rfl rfl (Xm (s := 5) (vs := (cTn y).toArray) rfl rfl (by rw [← Yg q1]; exact List.mem_append_left _ (Zf 0 rfl)) Try.underlying206 rfl i_206 rfl (ss1.elem cTn_len hy) (by rfl)) ?_
   refine Yr rfl rfl rfl rfl (Xb rfl i_206 rfl) (fun b8 => ?_)
   refine Za rfl rfl rfl rfl (Zk rfl rfl) ?_
   refine Xl (l1 := []) (L' := [_]) rfl rfl rfl rfl (Xk (s := 5) rfl rfl rfl (Zf 0 rfl) (by rfl) i_206 rfl (by rfl) (by simp [Value.oneCell', cOp, cWk, cIv, cHr, cLt, cWt, cIt, cFl, cTn, cCl, cPo, cSt, cDt, cDs, Sl.v, zIns, insV, cDp, cDst])) rfl ?_
   refine Zg ?_
   refine Zi ?_
   refine Zd (l := [0, 1, 2, 3, 4, 5]) rfl ?_
   refine Za rfl rfl rfl rfl (Zc rfl rfl) ?_
   refine Za rfl rfl rfl rfl (Zc rfl rfl) ?_
   refine Za rfl rfl rfl rfl (Zl (s := 5) rfl Try.underlying109 i_206 rfl rfl rfl rfl (by omega)) ?_
   refine Za rfl rfl rfl rfl (Xm (s := 5) (vs := (cTn y2).toArray) rfl rfl (by rw [← Yg q2]; exact List.mem_append_left _ (Zf 1 rfl)) Try.underlying206 rfl i_206 rfl (ss2.elem cTn_len hy2) (by rfl)) ?_
   refine Yr rfl rfl rfl rfl (Xb rfl i_206 rfl) (fun b9 => ?_)
   refine Xl (l1 := []) (L' := [_, _]) rfl rfl rfl rfl (Xk (s := 5) rfl rfl rfl (Zf 0 rfl) (by rfl) i_206 rfl (by rfl) (by simp [Value.oneCell', cOp, cWk, cIv, cHr, cLt, cWt, cIt, cFl, cTn, cCl, cPo, cSt, cDt, cDs, Sl.v, zIns, insV, cDp, cDst])) rfl ?_
   refine Zg ?_
   refine Zi ?_
   refine Zd (l := [0, 1, 2, 3, 4]) rfl ?_
   refine Za rfl rfl rfl rfl (Zc rfl rfl) ?_
   refine Za rfl rfl rfl rfl (V_loadW (s := 5) rfl rfl (List.mem_append_right _ (Zf 1 rfl)) Try.underlying206 rfl i_206 rfl (by rfl)) ?_
   refine Za rfl rfl rfl rfl (V_loadW (s := 5) rfl rfl (List.mem_append_right _ (Zf 0 rfl)) Try.underlying206 rfl i_206 rfl (by rfl)) ?_
   refine G_callMC (L2 := [_, _]) rfl rfl rfl rfl rfl rfl Try.call123 rfl (sm_Tn y y2 (ok1 y (List.mem_of_getElem? hy)) (ok2 y2 (List.mem_of_getElem? hy2)) hv (hg y (List.mem_of_getElem? hy))) [] rfl (fun z hz => List.mem_append_left _ ((List.mem_append.1 hz).elim (fun h => in_a1 hy h) (fun h => in_a2 hy2 h))) ?_
   rintro v post ⟨rfl, rfl⟩
   show G _ _ _ [_, _] _
   refine Za rfl rfl rfl rfl (V_not rfl rfl) ?_
   refine Zg ?_
   refine G_else rfl ?_
   refine Zu ?_
   refine Zs ?_
   refine Zd (l := [0, 1]) rfl ?_
   refine Za rfl rfl rfl rfl ((Yu rfl rfl rfl).int (Zv (by omega))) ?_
   refine Za rfl rfl rfl rfl (Zc rfl rfl) ?_
   refine Zg ?_
   refine Yc ?_ [] ?_ (ih (i + 1) ?_ ?_)
   · (refine (And.intro ?_ (And.intro ?_ (And.intro ?_ (And.intro ?_ (And.intro ?_ (And.intro ?_ trivial)))))) <;> first | rfl | exact Zm (by omega) | (rw [p1]; rfl) | (rw [p2]; rfl))
   · exact ⟨_, rfl⟩
   · omega
   · (first | omega | (dsimp only; omega))
  refine Yx rfl ?_
  refine Zi ?_
  refine Zd (l := [0]) rfl ?_
  refine Za rfl rfl rfl rfl (Zk rfl rfl) ?_
  refine Zg ?_
  refine Xa (post := []) Try.func122 rfl (Zy (Yy rfl) Zo) [] rfl ?_
  dsimp only [packed]
  exact ⟨rfl, rfl⟩

set_option maxRecDepth 100000 in
set_option maxHeartbeats 1000000 in
theorem sm_Sh (s1 s2 : Ins Tn) (hs1 : InsOk 5 cTn s1) (hs2 : InsOk 5 cTn s2) (ok1 : ∀ y ∈ s1.l, OkTn y) (ok2 : ∀ y ∈ s2.l, OkTn y) (he : s1.l.map vTn = s2.l.map vTn) (hg : ∀ y ∈ s1.l, GPT (vTn y)) :
    Ct Try.prog 121 [.slice s1.p s1.l.length s1.cap, .slice s2.p s2.l.length s2.cap] ((kSh s1 ++ kSh s2)) [] fun v post => v = .bool true ∧ post = [] := by
 refine Yv Try.func121 rfl rfl (fun w0 => ?_)
 show G _ _ [(0, _), (1, _)] _ _
 refine Zi ?_
 refine Zd (l := [0]) rfl ?_
 refine Za rfl rfl rfl rfl (Zk rfl rfl) ?_
 refine Zg ?_
 refine Zi ?_
 refine Zd (l := [0, 1, 2, 3]) rfl ?_
 refine Za rfl rfl rfl rfl (Zc rfl rfl) ?_
 refine Za rfl rfl rfl rfl (Zc rfl rfl) ?_
 refine Yn (L2 := []) rfl rfl rfl rfl rfl rfl Try.call122 (ef_Tn s1 s2 hs1 hs2 ok1 ok2 he hg) [] rfl (sub_2 (fun z hz => List.mem_append_left _ (List.mem_append_left _ hz)) (fun z hz => List.mem_append_left _ (List.mem_append_right _ hz))) ?_
 rintro v post ⟨rfl, rfl⟩
 refine Za rfl rfl rfl rfl (Zk rfl rfl) ?_
 refine Zg ?_
 refine Xa (post := []) Try.func121 rfl (Zy (Yy rfl) Zo) [] rfl ?_
 dsimp only [packed]
 exact ⟨rfl, rfl⟩

set_option maxRecDepth 100000 in
set_option maxHeartbeats 1000000 in
theorem ef_Sh (s1 s2 : Ins (Ins Tn)) (hs1 : InsOk 1 shC s1) (hs2 : InsOk 1 shC s2) (ok1 : ∀ s ∈ s1.l, InsOk 5 cTn s ∧ ∀ y ∈ s.l, OkTn y) (ok2 : ∀ s ∈ s2.l, InsOk 5 cTn s ∧ ∀ y ∈ s.l, OkTn y) (he : s1.l.map (fun s => s.l.map vTn) = s2.l.map (fun s => s.l.map vTn)) (hg : ∀ s ∈ s1.l, ∀ y ∈ s.l, GPT (vTn y)) :
    Ct Try.prog 126 [.slice s1.p s1.l.length s1.cap, .slice s2.p s2.l.length s2.cap, .func (.func 121) #[] #[]] (insK s1 :: insK s2 :: (s1.l.flatMap kSh ++ s2.l.flatMap kSh)) [] fun v post => v = .bool true ∧ post = [] := by
 have hl1 := hs1.le
 have hl2 := hs1.max
 have hl3 := hs2.le
 have hl4 := hs2.max
 have hln := len_of_map he
 refine Yv Try.func126 rfl rfl (fun w0 => ?_)
 show G _ _ [(0, _), (1, _), (2, _)] _ _
 refine Zi ?_
 refine Zd (l := [0]) rfl ?_
 refine Za rfl rfl rfl rfl (Zk rfl rfl) ?_
 refine Zg ?_
 refine Zi ?_
 refine Zi ?_
 refine Zd (l := [0, 1, 2, 3, 4]) rfl ?_
 refine Za rfl rfl rfl rfl (Zc rfl rfl) ?_
 refine Za rfl rfl rfl rfl (Yf rfl rfl Try.underlying100 rfl) ?_
 refine Za rfl rfl rfl rfl (Zc rfl rfl) ?_
 refine Za rfl rfl rfl rfl (Yf rfl rfl Try.underlying100 rfl) ?_
 refine Za rfl rfl rfl rfl (V_neq rfl rfl rfl) ?_
 refine Zg ?_
 refine Yl rfl (fun hc1 => ?_) (fun hc1 => ?_)
 · (first | contradiction | (exact absurd rfl hc1) | (exfalso; omega))
 refine Zu ?_
 refine Zi ?_
 refine Zi ?_
 refine Zd (l := [0, 1, 2]) rfl ?_
 refine Za rfl rfl rfl rfl (Zc rfl rfl) ?_
 refine Za rfl rfl rfl rfl (Yf rfl rfl Try.underlying100 rfl) ?_
 refine Za rfl rfl rfl rfl (Zc rfl rfl) ?_
 refine Zg ?_
 refine Zp ?_
 refine Yc ?he4 [] ?hl4 (Xc (X := Nat) (fun i => i ≤ s1.l.length) (fun i => s1.l.length - i) (fun i => [(0, .slice s1.p s1.l.length s1.cap), (1, .slice s2.p s2.l.length s2.cap), (2, .func (.func 121) #[] #[]), (15, .slice s1.p s1.l.length s1.cap), (16, .int .i64 (s1.l.length : Int)), (17, .int .i64 (i : Int))]) (fun i => []) ?round4 0 ?h04)
 case he4 => exact (And.intro rfl (And.intro rfl (And.intro rfl (And.intro rfl (And.intro rfl (And.intro rfl trivial))))))
 case hl4 => exact ⟨_, rfl⟩
 case h04 => exact Nat.zero_le _
 case round4 =>
  intro i hJ ih
  try dsimp only at hJ ih
  refine Zi ?_
  refine Zd (l := [0]) rfl ?_
  refine Za rfl rfl rfl rfl (Xh rfl rfl rfl) ?_
  refine Zg ?_
  refine Zi ?_
  refine Yl rfl (fun hc2 => ?_) (fun hc2 => ?_)
  ·
   refine Zu ?_
   refine Zi ?_
   refine Zp ?_
   refine Zi ?_
   obtain ⟨y, hy⟩ := Xv (show i < s1.l.length by omega)
   obtain ⟨y2, hy2⟩ := Xv (show i < s2.l.length by omega)
   obtain ⟨c1, p1, q1, ss1⟩ := hs1.isS (i := i) (by omega)
   obtain ⟨c2, p2, q2, ss2⟩ := hs2.isS (i := i) (by omega)
   rw [p1, p2]
   have hv := map_at he hy hy2
   have o1 := ok1 y (List.mem_of_getElem? hy)
   have o2 := ok2 y2 (List.mem_of_getElem? hy2)
   refine Zd (l := [0, 1, 2, 3, 4]) rfl ?_
   refine Za rfl rfl rfl rfl (Zc rfl rfl) ?_
   refine Za rfl rfl rfl rfl (Zl (s := 1) rfl Try.underlying100 i_109 rfl rfl rfl rfl (by omega)) ?_
   refine Za rfl rfl rfl rfl (Zj rfl rfl (by rw [← Yg q1]; exact List.mem_append_left _ (Zf 0 rfl)) (Zr (Ys ss1 shC_len hy 0 (by omega) rfl)) Try.underlying109 rfl) ?_
   refine Za rfl rfl rfl rfl (Zk rfl rfl) ?_
   refine Za rfl rfl rfl rfl (Zk rfl rfl) ?_
   refine Zg ?_
   refine Zi ?_
   refine Zd (l := [0, 1, 2, 3, 4]) rfl ?_
   refine Za rfl rfl rfl rfl (Zc rfl rfl) ?_
   refine Za rfl rfl rfl rfl (Zc rfl rfl) ?_
   refine Za rfl rfl rfl rfl (Zl (s := 1) rfl Try.underlying100 i_109 rfl rfl rfl rfl (by omega)) ?_
   refine Za rfl rfl rfl rfl (Zj rfl rfl (by rw [← Yg q2]; exact List.mem_append_left _ (Zf 1 rfl)) (Zr (Ys ss2 shC_len hy2 0 (by omega) rfl)) Try.underlying109 rfl) ?_
   refine Za rfl rfl rfl rfl (Zk rfl rfl) ?_
   refine Zg ?_
   refine Zi ?_
   refine Zd (l := [0, 1, 2, 3, 4]) rfl ?_
   refine Za rfl rfl rfl rfl (Zc rfl rfl) ?_
   refine Za rfl rfl rfl rfl (Zc rfl rfl) ?_
   refine Za rfl rfl rfl rfl (Zc rfl rfl) ?_
   refine G_callMC (L2 := []) rfl rfl rfl rfl rfl rfl Try.call121 rfl (sm_Sh y y2 o1.1 o2.1 o1.2 o2.2 hv (hg y (List.mem_of_getElem? hy))) [] rfl (fun z hz => List.mem_append_left _ ((List.mem_append.1 hz).elim (fun h => in_a1 hy h) (fun h => in_a2 hy2 h))) ?_
   rintro v post ⟨rfl, rfl⟩
   refine Za rfl rfl rfl rfl (V_not rfl rfl) ?_
   refine Zg ?_
   refine G_else rfl ?_
   refine Zu ?_
   refine Zs ?_
   refine Zd (l := [0, 1]) rfl ?_
   refine Za rfl rfl rfl rfl ((Yu rfl rfl rfl).int (Zv (by omega))) ?_
   refine Za rfl rfl rfl rfl (Zc rfl rfl) ?_
   refine Zg ?_
   refine Yc ?_ [] ?_ (ih (i + 1) ?_ ?_)
   · (refine (And.intro ?_ (And.intro ?_ (And.intro ?_ (And.intro ?_ (And.intro ?_ (And.intro ?_ trivial)))))) <;> first | rfl | exact Zm (by omega) | (rw [p1]; rfl) | (rw [p2]; rfl))
   · exact ⟨_, rfl⟩
   · omega
   · (first | omega | (dsimp only; omega))
  refine Yx rfl ?_
  refine Zi ?_
  refine Zd (l := [0]) rfl ?_
  refine Za rfl rfl rfl rfl (Zk rfl rfl) ?_
  refine Zg ?_
  refine Xa (post := []) Try.func126 rfl (Zy (Yy rfl) Zo) [] rfl ?_
  dsimp only [packed]
  exact ⟨rfl, rfl⟩


theorem zipC : ∀ (az : List Int) (gs : List Bool) (ss : List (Ins Tn)), az.length = gs.length → gs.length = ss.length → (List.zipWith (fun a (p : Bool × Ins Tn) => mkCl a p.1 p.2) az (gs.zip ss)).map PC.v0 = az ∧ (List.zipWith (fun a (p : Bool × Ins Tn) => mkCl a p.1 p.2) az (gs.zip ss)).map PC.g = gs ∧ (List.zipWith (fun a (p : Bool × Ins Tn) => mkCl a p.1 p.2) az (gs.zip ss)).map PC.l = ss.map fun s => s.l.map vTn
  | [], [], [], _, _ => ⟨rfl, rfl, rfl⟩
  | [], g :: gs, _, h, _ => by simp at h
  | [], [], s :: ss, _, h => by simp at h
  | a :: az, [], _, h, _ => by simp at h
  | a :: az, g :: gs, [], _, h => by simp at h
  | a :: az, g :: gs, s :: ss, h1, h2 => by
    obtain ⟨k1, k2, k3⟩ := zipC az gs ss (by simpa using h1) (by simpa using h2)
    refine ⟨?_, ?_, ?_⟩
    · exact congrArg (a :: ·) k1
    · exact congrArg (g :: ·) k2
    · exact congrArg (s.l.map vTn :: ·) k3
structure PoEq (x y : Po) : Prop where
  n : x.n = y.n
  u : x.u = y.u
  sv : x.sv.l = y.sv.l
  gv : x.gv.l = y.gv.l
  sh : x.sh.l.map (fun s => s.l.map vTn) = y.sh.l.map (fun s => s.l.map vTn)
theorem po_eq {x y : Po} (he : vPo x = vPo y) (hev : (vPo x).ev = true) : PoEq x y := by
  have e1 : EvenPo x := of_decide_eq_true hev
  have e2 : EvenPo y := of_decide_eq_true (by rw [he] at hev; exact hev)
  unfold vPo at he
  rw [if_pos e1, if_pos e2, cls_v, cls_v] at he
  simp only [PP.mk.injEq] at he
  obtain ⟨h1, h2, _, h4⟩ := he
  have a := zipC x.sv.l x.gv.l x.sh.l e1.2 (by have := e1.1; have := e1.2; omega)
  have b := zipC y.sv.l y.gv.l y.sh.l e2.2 (by have := e2.1; have := e2.2; omega)
  rw [h4] at a
  exact ⟨h1, h2, a.1.symm.trans b.1, a.2.1.symm.trans b.2.1, a.2.2.symm.trans b.2.2⟩
theorem po_good {x : Po} (hg : GPP (vPo x)) : ∀ s ∈ x.sh.l, ∀ y ∈ s.l, GPT (vTn y) := by
  intro s hs y hy
  have hev : EvenPo x := of_decide_eq_true hg.2
  have h1 := (gPP_iff.1 hg).2.2.1.2
  unfold vPo at h1
  rw [if_pos hev, cls_v] at h1
  have b := (zipC x.sv.l x.gv.l x.sh.l hev.2 (by have := hev.1; have := hev.2; omega)).2.2
  have h2 : s.l.map vTn ∈ x.sh.l.map fun s => s.l.map vTn := List.mem_map.2 ⟨s, hs, rfl⟩
  rw [← b] at h2
  obtain ⟨c, hc, hce⟩ := List.mem_map.1 h2
  have h3 := (gPC_iff.1 (h1 c hc)).2.2
  rw [hce] at h3
  exact h3 _ (List.mem_map.2 ⟨y, hy, rfl⟩)

set_option maxRecDepth 100000 in
set_option maxHeartbeats 1000000 in
theorem sm_Po (x y : Po) (ox : OkPo x) (oy : OkPo y) (he : vPo x = vPo y) (hg : GPP (vPo x)) :
    Ct Try.prog 72 [.agg (cPo x).toArray, .agg (cPo y).toArray] ((kPo x ++ kPo y)) [] fun v post => v = .bool true ∧ post = [] := by
 have hv := po_eq he hg.2
 have e0 := hv.n
 have e1 := hv.u
 refine Yv Try.func72 rfl rfl (fun w0 => ?_)
 show G _ _ [(0, _), (1, _)] _ _
 refine Zi ?_
 refine Zd (l := [0, 1, 2]) rfl ?_
 refine Yr rfl rfl rfl rfl (N_boxA rfl rfl) (fun b2 => ?_)
 refine Yr rfl rfl rfl rfl (N_boxA rfl rfl) (fun b3 => ?_)
 refine Za rfl rfl rfl rfl (Zk rfl rfl) ?_
 refine Zg ?_
 refine Zi ?_
 refine Zd (l := [0]) rfl ?_
 refine Za rfl rfl rfl rfl (Zk rfl rfl) ?_
 refine Zg ?_
 refine Zi ?_
 refine Zd (l := [0, 1, 2, 3, 4, 5, 6, 7, 8, 9, 10, 11, 12, 13, 14, 15, 16, 17, 18, 19, 20, 21, 22, 23, 24, 25, 26, 27, 28, 29, 30, 31, 32, 33, 34]) rfl ?_
 refine Za rfl rfl rfl rfl (Zb (fo := 0) rfl Try.underlying103 rfl i_9 rfl rfl rfl) ?_
 refine Za rfl rfl rfl rfl (Zj rfl rfl (List.mem_append_right _ (Zf 1 rfl)) rfl Try.underlying9 rfl) ?_
 refine Za rfl rfl rfl rfl (Zb (fo := 0) rfl Try.underlying103 rfl i_9 rfl rfl rfl) ?_
 refine Za rfl rfl rfl rfl (Zj rfl rfl (List.mem_append_right _ (Zf 0 rfl)) rfl Try.underlying9 rfl) ?_
 refine Za rfl rfl rfl rfl (V_seql rfl rfl rfl) ?_
 refine Za rfl rfl rfl rfl (Zc rfl rfl) ?_
 refine Xr 11 rfl (fun hc1 => ?_) (fun hc1 => ?_)
 rotate_left
 · (first | contradiction | (exact absurd rfl hc1) | (exfalso; omega))
 refine Za rfl rfl rfl rfl (Zb (fo := 1) rfl Try.underlying103 rfl i_3 rfl rfl rfl) ?_
 refine Za rfl rfl rfl rfl (Zj rfl rfl (List.mem_append_right _ (Zf 1 rfl)) rfl Try.underlying3 rfl) ?_
 refine Za rfl rfl rfl rfl (Zb (fo := 1) rfl Try.underlying103 rfl i_3 rfl rfl rfl) ?_
 refine Za rfl rfl rfl rfl (Zj rfl rfl (List.mem_append_right _ (Zf 0 rfl)) rfl Try.underlying3 rfl) ?_
 refine Za rfl rfl rfl rfl (V_eql rfl rfl rfl) ?_
 refine Za rfl rfl rfl rfl (Yk rfl rfl rfl) ?_
 refine Za rfl rfl rfl rfl (Zc rfl rfl) ?_
 refine Xr 18 rfl (fun hc2 => ?_) (fun hc2 => ?_)
 rotate_left
 · (first | contradiction | (exact absurd rfl hc2) | (exfalso; omega))
 refine Za rfl rfl rfl rfl (Zb (fo := 2) rfl Try.underlying103 rfl i_99 rfl rfl rfl) ?_
 refine Za rfl rfl rfl rfl (Zj rfl rfl (List.mem_append_right _ (Zf 1 rfl)) rfl Try.underlying99 rfl) ?_
 refine Za rfl rfl rfl rfl (Zb (fo := 2) rfl Try.underlying103 rfl i_99 rfl rfl rfl) ?_
 refine Za rfl rfl rfl rfl (Zj rfl rfl (List.mem_append_right _ (Zf 0 rfl)) rfl Try.underlying99 rfl) ?_
 refine Yn (L2 := [_, _]) rfl rfl rfl rfl rfl rfl Try.call124 (eq_Int x.sv y.sv ox.1 oy.1 hv.sv) [] rfl (Yb (List.mem_append_left _ (List.mem_append_left _ (by unfold kPo; simp))) (Yb (List.mem_append_left _ (List.mem_append_right _ (by unfold kPo; simp))) Yd)) ?_
 rintro v post ⟨rfl, rfl⟩
 show G _ _ _ [_, _] _
 refine Za rfl rfl rfl rfl (Yk rfl rfl rfl) ?_
 refine Za rfl rfl rfl rfl (Zc rfl rfl) ?_
 refine Za rfl rfl rfl rfl (Zb (fo := 4) rfl Try.underlying103 rfl i_101 rfl rfl rfl) ?_
 refine Za rfl rfl rfl rfl (Zj rfl rfl (List.mem_append_right _ (Zf 1 rfl)) rfl Try.underlying101 rfl) ?_
 refine Za rfl rfl rfl rfl (Zb (fo := 4) rfl Try.underlying103 rfl i_101 rfl rfl rfl) ?_
 refine Za rfl rfl rfl rfl (Zj rfl rfl (List.mem_append_right _ (Zf 0 rfl)) rfl Try.underlying101 rfl) ?_
 refine Yn (L2 := [_, _]) rfl rfl rfl rfl rfl rfl Try.call125 (eq_Bool x.gv y.gv ox.2.1 oy.2.1 hv.gv) [] rfl (Yb (List.mem_append_left _ (List.mem_append_left _ (by unfold kPo; simp))) (Yb (List.mem_append_left _ (List.mem_append_right _ (by unfold kPo; simp))) Yd)) ?_
 rintro v post ⟨rfl, rfl⟩
 show G _ _ _ [_, _] _
 refine Za rfl rfl rfl rfl (Yk rfl rfl rfl) ?_
 refine Za rfl rfl rfl rfl (Zc rfl rfl) ?_
 refine Za rfl rfl rfl rfl (Zb (fo := 3) rfl Try.underlying103 rfl i_100 rfl rfl rfl) ?_
 refine Za rfl rfl rfl rfl (Zj rfl rfl (List.mem_append_right _ (Zf 1 rfl)) rfl Try.underlying100 rfl) ?_
 refine Za rfl rfl rfl rfl (Zb (fo := 3) rfl Try.underlying103 rfl i_100 rfl rfl rfl) ?_
 refine Za rfl rfl rfl rfl (Zj rfl rfl (List.mem_append_right _ (Zf 0 rfl)) rfl Try.underlying100 rfl) ?_
 refine Za rfl rfl rfl rfl (Zc rfl rfl) ?_
 refine Yn (L2 := [_, _]) rfl rfl rfl rfl rfl rfl Try.call126 (ef_Sh x.sh y.sh ox.2.2.1 oy.2.2.1 ox.2.2.2 oy.2.2.2 hv.sh (po_good hg)) [] rfl (sub_2 (fun z hz => List.mem_append_left _ (List.mem_append_left _ (by unfold kPo; exact List.mem_cons_of_mem _ (List.mem_cons_of_mem _ hz)))) (fun z hz => List.mem_append_left _ (List.mem_append_right _ (by unfold kPo; exact List.mem_cons_of_mem _ (List.mem_cons_of_mem _ hz))))) ?_
 rintro v post ⟨rfl, rfl⟩
 show G _ _ _ [_, _] _
 refine Za rfl rfl rfl rfl (Yk rfl rfl rfl) ?_
 refine Za rfl rfl rfl rfl (Zk rfl rfl) ?_
 refine Zg ?_
 refine Xa (post := []) Try.func72 rfl (Zy (Yy rfl) Zo) [] rfl ?_
 dsimp only [packed]
 exact ⟨rfl, rfl⟩

set_option maxRecDepth 100000 in
set_option maxHeartbeats 1000000 in
theorem ef_Po (s1 s2 : Ins Po) (hs1 : InsOk 5 cPo s1) (hs2 : InsOk 5 cPo s2) (ok1 : ∀ y ∈ s1.l, OkPo y) (ok2 : ∀ y ∈ s2.l, OkPo y) (he : s1.l.map vPo = s2.l.map vPo) (hg : ∀ y ∈ s1.l, GPP (vPo y)) :
    Ct Try.prog 71 [.slice s1.p s1.l.length s1.cap, .slice s2.p s2.l.length s2.cap, .func (.func 72) #[] #[]] (insK s1 :: insK s2 :: (s1.l.flatMap kPo ++ s2.l.flatMap kPo)) [] fun v post => v = .bool true ∧ post = [] := by
 have hl1 := hs1.le
 have hl2 := hs1.max
 have hl3 := hs2.le
 have hl4 := hs2.max
 have hln := len_of_map he
 refine Yv Try.func71 rfl rfl (fun w0 => ?_)
 show G _ _ [(0, _), (1, _), (2, _)] _ _
 refine Zi ?_
 refine Zd (l := [0]) rfl ?_
 refine Za rfl rfl rfl rfl (Zk rfl rfl) ?_
 refine Zg ?_
 refine Zi ?_
 refine Zi ?_
 refine Zd (l := [0, 1, 2, 3, 4]) rfl ?_
 refine Za rfl rfl rfl rfl (Zc rfl rfl) ?_
 refine Za rfl rfl rfl rfl (Yf rfl rfl Try.underlying27 rfl) ?_
 refine Za rfl rfl rfl rfl (Zc rfl rfl) ?_
 refine Za rfl rfl rfl rfl (Yf rfl rfl Try.underlying27 rfl) ?_
 refine Za rfl rfl rfl rfl (V_neq rfl rfl rfl) ?_
 refine Zg ?_
 refine Yl rfl (fun hc1 => ?_) (fun hc1 => ?_)
 · (first | contradiction | (exact absurd rfl hc1) | (exfalso; omega))
 refine Zu ?_
 refine Zi ?_
 refine Zi ?_
 refine Zd (l := [0, 1, 2]) rfl ?_
 refine Za rfl rfl rfl rfl (Zc rfl rfl) ?_
 refine Za rfl rfl rfl rfl (Yf rfl rfl Try.underlying27 rfl) ?_
 refine Za rfl rfl rfl rfl (Zc rfl rfl) ?_
 refine Zg ?_
 refine Zp ?_
 refine Yc ?he4 [] ?hl4 (Xc (X := Nat) (fun i => i ≤ s1.l.length) (fun i => s1.l.length - i) (fun i => [(0, .slice s1.p s1.l.length s1.cap), (1, .slice s2.p s2.l.length s2.cap), (2, .func (.func 72) #[] #[]), (15, .slice s1.p s1.l.length s1.cap), (16, .int .i64 (s1.l.length : Int)), (17, .int .i64 (i : Int))]) (fun i => []) ?round4 0 ?h04)
 case he4 => exact (And.intro rfl (And.intro rfl (And.intro rfl (And.intro rfl (And.intro rfl (And.intro rfl trivial))))))
 case hl4 => exact ⟨_, rfl⟩
 case h04 => exact Nat.zero_le _
 case round4 =>
  intro i hJ ih
  try dsimp only at hJ ih
  refine Zi ?_
  refine Zd (l := [0]) rfl ?_
  refine Za rfl rfl rfl rfl (Xh rfl rfl rfl) ?_
  refine Zg ?_
  refine Zi ?_
  refine Yl rfl (fun hc2 => ?_) (fun hc2 => ?_)
  ·
   refine Zu ?_
   refine Zi ?_
   refine Zp ?_
   refine Zi ?_
   obtain ⟨y, hy⟩ := Xv (show i < s1.l.length by omega)
   obtain ⟨y2, hy2⟩ := Xv (show i < s2.l.length by omega)
   obtain ⟨c1, p1, q1, ss1⟩ := hs1.isS (i := i) (by omega)
   obtain ⟨c2, p2, q2, ss2⟩ := hs2.isS (i := i) (by omega)
   rw [p1, p2]
   have hv := map_at he hy hy2
   refine Zd (l := [0, 1, 2, 3, 4, 5]) rfl ?_
   refine Za rfl rfl rfl rfl (Zc rfl rfl) ?_
   refine Za rfl rfl rfl rfl (Zl (s := 5) rfl Try.underlying27 i_103 rfl rfl rfl rfl (by omega)) ?_
   refine Za rfl rfl rfl rfl (Xm (s := 5) (vs := (cPo y).toArray) rfl rfl (by rw [← Yg q1]; exact List.mem_append_left _ (Zf 0 rfl)) Try.underlying103 rfl i_103 rfl (ss1.elem cPo_len hy) (by rfl)) ?_
   refine Yr rfl rfl rfl rfl (Xb rfl i_103 rfl) (fun b8 => ?_)
   refine Za rfl rfl rfl rfl (Zk rfl rfl) ?_
   refine Xl (l1 := []) (L' := [_]) rfl rfl rfl rfl (Xk (s := 5) rfl rfl rfl (Zf 0 rfl) (by rfl) i_103 rfl (by rfl) (by simp [Value.oneCell', cOp, cWk, cIv, cHr, cLt, cWt, cIt, cFl, cTn, cCl, cPo, cSt, cDt, cDs, Sl.v, zIns, insV, cDp, cDst])) rfl ?_
   refine Zg ?_
   refine Zi ?_
   refine Zd (l := [0, 1, 2, 3, 4, 5]) rfl ?_
   refine Za rfl rfl rfl rfl (Zc rfl rfl) ?_
   refine Za rfl rfl rfl rfl (Zc rfl rfl) ?_
   refine Za rfl rfl rfl rfl (Zl (s := 5) rfl Try.underlying27 i_103 rfl rfl rfl rfl (by omega)) ?_
   refine Za rfl rfl rfl rfl (Xm (s := 5) (vs := (cPo y2).toArray) rfl rfl (by rw [← Yg q2]; exact List.mem_append_left _ (Zf 1 rfl)) Try.underlying103 rfl i_103 rfl (ss2.elem cPo_len hy2) (by rfl)) ?_
   refine Yr rfl rfl rfl rfl (Xb rfl i_103 rfl) (fun b9 => ?_)
   refine Xl (l1 := []) (L' := [_, _]) rfl rfl rfl rfl (Xk (s := 5) rfl rfl rfl (Zf 0 rfl) (by rfl) i_103 rfl (by rfl) (by simp [Value.oneCell', cOp, cWk, cIv, cHr, cLt, cWt, cIt, cFl, cTn, cCl, cPo, cSt, cDt, cDs, Sl.v, zIns, insV, cDp, cDst])) rfl ?_
   refine Zg ?_
   refine Zi ?_
   refine Zd (l := [0, 1, 2, 3, 4]) rfl ?_
   refine Za rfl rfl rfl rfl (Zc rfl rfl) ?_
   refine Za rfl rfl rfl rfl (V_loadW (s := 5) rfl rfl (List.mem_append_right _ (Zf 1 rfl)) Try.underlying103 rfl i_103 rfl (by rfl)) ?_
   refine Za rfl rfl rfl rfl (V_loadW (s := 5) rfl rfl (List.mem_append_right _ (Zf 0 rfl)) Try.underlying103 rfl i_103 rfl (by rfl)) ?_
   refine G_callMC (L2 := [_, _]) rfl rfl rfl rfl rfl rfl Try.call72 rfl (sm_Po y y2 (ok1 y (List.mem_of_getElem? hy)) (ok2 y2 (List.mem_of_getElem? hy2)) hv (hg y (List.mem_of_getElem? hy))) [] rfl (fun z hz => List.mem_append_left _ ((List.mem_append.1 hz).elim (fun h => in_a1 hy h) (fun h => in_a2 hy2 h))) ?_
   rintro v post ⟨rfl, rfl⟩
   show G _ _ _ [_, _] _
   refine Za rfl rfl rfl rfl (V_not rfl rfl) ?_
   refine Zg ?_
   refine G_else rfl ?_
   refine Zu ?_
   refine Zs ?_
   refine Zd (l := [0, 1]) rfl ?_
   refine Za rfl rfl rfl rfl ((Yu rfl rfl rfl).int (Zv (by omega))) ?_
   refine Za rfl rfl rfl rfl (Zc rfl rfl) ?_
   refine Zg ?_
   refine Yc ?_ [] ?_ (ih (i + 1) ?_ ?_)
   · (refine (And.intro ?_ (And.intro ?_ (And.intro ?_ (And.intro ?_ (And.intro ?_ (And.intro ?_ trivial)))))) <;> first | rfl | exact Zm (by omega) | (rw [p1]; rfl) | (rw [p2]; rfl))
   · exact ⟨_, rfl⟩
   · omega
   · (first | omega | (dsimp only; omega))
  refine Yx rfl ?_
  refine Zi ?_
  refine Zd (l := [0]) rfl ?_
  refine Za rfl rfl rfl rfl (Zk rfl rfl) ?_
  refine Zg ?_
  refine Xa (post := []) Try.func71 rfl (Zy (Yy rfl) Zo) [] rfl ?_
  dsimp only [packed]
  exact ⟨rfl, rfl⟩


theorem po_in3 {x : St} {z : HBk} (hz : z ∈ insK x.po :: x.po.l.flatMap kPo) : z ∈ kSt x := by
  unfold kSt
  simp only [List.mem_cons] at hz ⊢
  grind

set_option maxRecDepth 100000 in
set_option maxHeartbeats 4000000 in
theorem sm_state (x y : St) (hx : MkSt x) (hy : MkSt y) (he : vSt x = vSt y) (hg : GPS (vSt x)) :
    Ct Try.prog 18 [.agg (cSt x).toArray, .agg (cSt y).toArray] ((kSt x ++ kSt y)) [] fun v post => v = .bool true ∧ post = [] := by
 have e_v0 := congrArg PS.v0 he
 have e_g := congrArg PS.g he
 have e_v2 := congrArg PS.v2 he
 have e_v3 := congrArg PS.v3 he
 have e_v4 := congrArg PS.v4 he
 have e_v5 := congrArg PS.v5 he
 have e_v6 := congrArg PS.v6 he
 have e_li := congrArg PS.li he
 have e_en := congrArg PS.en he
 have e_wo := congrArg PS.wo he
 have e_iv := congrArg PS.iv he
 have e_po := congrArg PS.po he
 have e_hi := congrArg PS.hi he
 have e_le := congrArg PS.le he
 have e_wa := congrArg PS.wa he
 simp only [vSt] at e_v0 e_g e_v2 e_v3 e_v4 e_v5 e_v6 e_li e_en e_wo e_iv e_po e_hi e_le e_wa
 obtain ⟨_, _, g_li, g_en, g_wo, g_iv, g_po, g_hi, g_le, g_wa⟩ := gPS_iff.1 hg
 replace g_li := g_li.2
 replace g_en := g_en.2
 replace g_wo := g_wo.2
 replace g_iv := g_iv.2
 replace g_po := g_po.2
 replace g_hi := g_hi.2
 replace g_le := g_le.2
 replace g_wa := g_wa.2
 replace g_po : ∀ p ∈ x.po.l, GPP (vPo p) := fun p hp => g_po _ (List.mem_map.2 ⟨p, hp, rfl⟩)
 have e_v0 : (x.v0 : Int) = (y.v0 : Int) := by rw [e_v0]
 refine Yv Try.func18 rfl rfl (fun w0 => ?_)
 show G _ _ [(0, _), (1, _)] _ _
 refine Zi ?_
 refine Zd (l := [0, 1, 2]) rfl ?_
 refine Yr rfl rfl rfl rfl (N_boxA rfl rfl) (fun b2 => ?_)
 refine Yr rfl rfl rfl rfl (N_boxA rfl rfl) (fun b3 => ?_)
 refine Za rfl rfl rfl rfl (Zk rfl rfl) ?_
 refine Zg ?_
 refine Zi ?_
 refine Zd (l := [0, 1, 2, 3, 4, 5, 6, 7, 8, 9, 10, 11, 12, 13, 14, 15, 16, 17, 18, 19, 20, 21, 22, 23, 24, 25, 26, 27, 28, 29, 30, 31, 32, 33, 34, 35, 36, 37, 38, 39, 40, 41, 42, 43, 44, 45, 46, 47]) rfl ?_
 refine Za rfl rfl rfl rfl (Zb (fo := 0) rfl Try.underlying32 rfl i_23 rfl rfl rfl) ?_
 refine Za rfl rfl rfl rfl (Zj rfl rfl (List.mem_append_right _ (Zf 1 rfl)) rfl Try.underlying23 rfl) ?_
 refine Za rfl rfl rfl rfl (Zb (fo := 0) rfl Try.underlying32 rfl i_23 rfl rfl rfl) ?_
 refine Za rfl rfl rfl rfl (Zj rfl rfl (List.mem_append_right _ (Zf 0 rfl)) rfl Try.underlying23 rfl) ?_
 refine Za rfl rfl rfl rfl (V_eql rfl rfl rfl) ?_
 refine Za rfl rfl rfl rfl (Zc rfl rfl) ?_
 refine Xr 13 rfl (fun hc1 => ?_) (fun hc1 => ?_)
 rotate_left
 · (first | contradiction | (exact absurd rfl hc1) | (exfalso; omega))
 refine Za rfl rfl rfl rfl (Zb (fo := 1) rfl Try.underlying32 rfl i_4 rfl rfl rfl) ?_
 refine Za rfl rfl rfl rfl (Zj rfl rfl (List.mem_append_right _ (Zf 1 rfl)) rfl Try.underlying4 rfl) ?_
 refine Za rfl rfl rfl rfl (Zb (fo := 1) rfl Try.underlying32 rfl i_4 rfl rfl rfl) ?_
 refine Za rfl rfl rfl rfl (Zj rfl rfl (List.mem_append_right _ (Zf 0 rfl)) rfl Try.underlying4 rfl) ?_
 refine Za rfl rfl rfl rfl (V_beql rfl Try.underlying4 rfl rfl) ?_
 refine Za rfl rfl rfl rfl (Yk rfl rfl rfl) ?_
 refine Za rfl rfl rfl rfl (Zc rfl rfl) ?_
 refine Xr 20 rfl (fun hc2 => ?_) (fun hc2 => ?_)
 rotate_left
 · (first | contradiction | (exact absurd rfl hc2) | (exfalso; omega))
 refine Za rfl rfl rfl rfl (Zb (fo := 2) rfl Try.underlying32 rfl i_3 rfl rfl rfl) ?_
 refine Za rfl rfl rfl rfl (Zj rfl rfl (List.mem_append_right _ (Zf 1 rfl)) rfl Try.underlying3 rfl) ?_
 refine Za rfl rfl rfl rfl (Zb (fo := 2) rfl Try.underlying32 rfl i_3 rfl rfl rfl) ?_
 refine Za rfl rfl rfl rfl (Zj rfl rfl (List.mem_append_right _ (Zf 0 rfl)) rfl Try.underlying3 rfl) ?_
 refine Za rfl rfl rfl rfl (V_eql rfl rfl rfl) ?_
 refine Za rfl rfl rfl rfl (Yk rfl rfl rfl) ?_
 refine Za rfl rfl rfl rfl (Zc rfl rfl) ?_
 refine Xr 27 rfl (fun hc3 => ?_) (fun hc3 => ?_)
 rotate_left
 · (first | contradiction | (exact absurd rfl hc3) | (exfalso; omega))
 refine Za rfl rfl rfl rfl (Zb (fo := 3) rfl Try.underlying32 rfl i_3 rfl rfl rfl) ?_
 refine Za rfl rfl rfl rfl (Zj rfl rfl (List.mem_append_right _ (Zf 1 rfl)) rfl Try.underlying3 rfl) ?_
 refine Za rfl rfl rfl rfl (Zb (fo := 3) rfl Try.underlying32 rfl i_3 rfl rfl rfl) ?_
 refine Za rfl rfl rfl rfl (Zj rfl rfl (List.mem_append_right _ (Zf 0 rfl)) rfl Try.underlying3 rfl) ?_
 refine Za rfl rfl rfl rfl (V_eql rfl rfl rfl) ?_
 refine Za rfl rfl rfl rfl (Yk rfl rfl rfl) ?_
 refine Za rfl rfl rfl rfl (Zc rfl rfl) ?_
 refine Xr 34 rfl (fun hc4 => ?_) (fun hc4 => ?_)
 rotate_left
 · (first | contradiction | (exact absurd rfl hc4) | (exfalso; omega))
 refine Za rfl rfl rfl rfl (Zb (fo := 4) rfl Try.underlying32 rfl i_3 rfl rfl rfl) ?_
 refine Za rfl rfl rfl rfl (Zj rfl rfl (List.mem_append_right _ (Zf 1 rfl)) rfl Try.underlying3 rfl) ?_
 refine Za rfl rfl rfl rfl (Zb (fo := 4) rfl Try.underlying32 rfl i_3 rfl rfl rfl) ?_
 refine Za rfl rfl rfl rfl (Zj rfl rfl (List.mem_append_right _ (Zf 0 rfl)) rfl Try.underlying3 rfl) ?_
 refine Za rfl rfl rfl rfl (V_eql rfl rfl rfl) ?_
 refine Za rfl rfl rfl rfl (Yk rfl rfl rfl) ?_
 refine Za rfl rfl rfl rfl (Zc rfl rfl) ?_
 refine Xr 41 rfl (fun hc5 => ?_) (fun hc5 => ?_)
 rotate_left
 · (first | contradiction | (exact absurd rfl hc5) | (exfalso; omega))
 refine Za rfl rfl rfl rfl (Zb (fo := 5) rfl Try.underlying32 rfl i_3 rfl rfl rfl) ?_
 refine Za rfl rfl rfl rfl (Zj rfl rfl (List.mem_append_right _ (Zf 1 rfl)) rfl Try.underlying3 rfl) ?_
 refine Za rfl rfl rfl rfl (Zb (fo := 5) rfl Try.underlying32 rfl i_3 rfl rfl rfl) ?_
 refine Za rfl rfl rfl rfl (Zj rfl rfl (List.mem_append_right _ (Zf 0 rfl)) rfl Try.underlying3 rfl) ?_
 refine Za rfl rfl rfl rfl (V_eql rfl rfl rfl) ?_
 refine Za rfl rfl rfl rfl (Yk rfl rfl rfl) ?_
 refine Za rfl rfl rfl rfl (Zc rfl rfl) ?_
 refine Xr 48 rfl (fun hc6 => ?_) (fun hc6 => ?_)
 rotate_left
 · (first | contradiction | (exact absurd rfl hc6) | (exfalso; omega))
 refine Za rfl rfl rfl rfl (Zb (fo := 6) rfl Try.underlying32 rfl i_3 rfl rfl rfl) ?_
 refine Za rfl rfl rfl rfl (Zj rfl rfl (List.mem_append_right _ (Zf 1 rfl)) rfl Try.underlying3 rfl) ?_
 refine Za rfl rfl rfl rfl (Zb (fo := 6) rfl Try.underlying32 rfl i_3 rfl rfl rfl) ?_
 refine Za rfl rfl rfl rfl (Zj rfl rfl (List.mem_append_right _ (Zf 0 rfl)) rfl Try.underlying3 rfl) ?_
 refine Za rfl rfl rfl rfl (V_eql rfl rfl rfl) ?_
 refine Za rfl rfl rfl rfl (Yk rfl rfl rfl) ?_
 refine Za rfl rfl rfl rfl (Zk rfl rfl) ?_
 refine Zg ?_
 refine Zi ?_
 refine Zd (l := [0, 1, 2, 3, 4, 5, 6, 7, 8, 9, 10, 11, 12, 13, 14, 15, 16, 17, 18, 19, 20, 21, 22, 23, 24, 25, 26]) rfl ?_
 refine Za rfl rfl rfl rfl (Zb (fo := 7) rfl Try.underlying32 rfl i_24 rfl rfl rfl) ?_
 refine Za rfl rfl rfl rfl (Zj rfl rfl (List.mem_append_right _ (Zf 1 rfl)) rfl Try.underlying24 rfl) ?_
 refine Za rfl rfl rfl rfl (Zb (fo := 7) rfl Try.underlying32 rfl i_24 rfl rfl rfl) ?_
 refine Za rfl rfl rfl rfl (Zj rfl rfl (List.mem_append_right _ (Zf 0 rfl)) rfl Try.underlying24 rfl) ?_
 refine Yn (L2 := [_, _]) rfl rfl rfl rfl rfl rfl Try.call65 (eq_Op x.li y.li hx.li hy.li e_li g_li) [] rfl (Yb (List.mem_append_left _ (List.mem_append_left _ (by unfold kSt; simp))) (Yb (List.mem_append_left _ (List.mem_append_right _ (by unfold kSt; simp))) Yd)) ?_
 rintro v post ⟨rfl, rfl⟩
 show G _ _ _ [_, _] _
 refine Za rfl rfl rfl rfl (Zc rfl rfl) ?_
 refine Za rfl rfl rfl rfl (Zb (fo := 8) rfl Try.underlying32 rfl i_24 rfl rfl rfl) ?_
 refine Za rfl rfl rfl rfl (Zj rfl rfl (List.mem_append_right _ (Zf 1 rfl)) rfl Try.underlying24 rfl) ?_
 refine Za rfl rfl rfl rfl (Zb (fo := 8) rfl Try.underlying32 rfl i_24 rfl rfl rfl) ?_
 refine Za rfl rfl rfl rfl (Zj rfl rfl (List.mem_append_right _ (Zf 0 rfl)) rfl Try.underlying24 rfl) ?_
 refine Yn (L2 := [_, _]) rfl rfl rfl rfl rfl rfl Try.call65 (eq_Op x.en y.en hx.en hy.en e_en g_en) [] rfl (Yb (List.mem_append_left _ (List.mem_append_left _ (by unfold kSt; simp))) (Yb (List.mem_append_left _ (List.mem_append_right _ (by unfold kSt; simp))) Yd)) ?_
 rintro v post ⟨rfl, rfl⟩
 show G _ _ _ [_, _] _
 refine Za rfl rfl rfl rfl (Yk rfl rfl rfl) ?_
 refine Za rfl rfl rfl rfl (Zc rfl rfl) ?_
 refine Za rfl rfl rfl rfl (Zb (fo := 9) rfl Try.underlying32 rfl i_25 rfl rfl rfl) ?_
 refine Za rfl rfl rfl rfl (Zj rfl rfl (List.mem_append_right _ (Zf 1 rfl)) rfl Try.underlying25 rfl) ?_
 refine Za rfl rfl rfl rfl (Zb (fo := 9) rfl Try.underlying32 rfl i_25 rfl rfl rfl) ?_
 refine Za rfl rfl rfl rfl (Zj rfl rfl (List.mem_append_right _ (Zf 0 rfl)) rfl Try.underlying25 rfl) ?_
 refine Yn (L2 := [_, _]) rfl rfl rfl rfl rfl rfl Try.call66 (eq_Wk x.wo y.wo hx.wo hy.wo e_wo g_wo) [] rfl (Yb (List.mem_append_left _ (List.mem_append_left _ (by unfold kSt; simp))) (Yb (List.mem_append_left _ (List.mem_append_right _ (by unfold kSt; simp))) Yd)) ?_
 rintro v post ⟨rfl, rfl⟩
 show G _ _ _ [_, _] _
 refine Za rfl rfl rfl rfl (Yk rfl rfl rfl) ?_
 refine Za rfl rfl rfl rfl (Zc rfl rfl) ?_
 refine Za rfl rfl rfl rfl (Zb (fo := 10) rfl Try.underlying32 rfl i_26 rfl rfl rfl) ?_
 refine Za rfl rfl rfl rfl (Zj rfl rfl (List.mem_append_right _ (Zf 1 rfl)) rfl Try.underlying26 rfl) ?_
 refine Za rfl rfl rfl rfl (Zb (fo := 10) rfl Try.underlying32 rfl i_26 rfl rfl rfl) ?_
 refine Za rfl rfl rfl rfl (Zj rfl rfl (List.mem_append_right _ (Zf 0 rfl)) rfl Try.underlying26 rfl) ?_
 refine Yn (L2 := [_, _]) rfl rfl rfl rfl rfl rfl Try.call67 (eq_Iv x.iv y.iv hx.iv hy.iv e_iv g_iv) [] rfl (Yb (List.mem_append_left _ (List.mem_append_left _ (by unfold kSt; simp))) (Yb (List.mem_append_left _ (List.mem_append_right _ (by unfold kSt; simp))) Yd)) ?_
 rintro v post ⟨rfl, rfl⟩
 show G _ _ _ [_, _] _
 refine Za rfl rfl rfl rfl (Yk rfl rfl rfl) ?_
 refine Za rfl rfl rfl rfl (Zk rfl rfl) ?_
 refine Zg ?_
 refine Zi ?_
 refine Zd (l := [0, 1, 2, 3, 4, 5, 6, 7, 8, 9, 10, 11, 12, 13, 14, 15, 16, 17, 18, 19]) rfl ?_
 refine Za rfl rfl rfl rfl (Zb (fo := 12) rfl Try.underlying32 rfl i_28 rfl rfl rfl) ?_
 refine Za rfl rfl rfl rfl (Zj rfl rfl (List.mem_append_right _ (Zf 1 rfl)) rfl Try.underlying28 rfl) ?_
 refine Za rfl rfl rfl rfl (Zb (fo := 12) rfl Try.underlying32 rfl i_28 rfl rfl rfl) ?_
 refine Za rfl rfl rfl rfl (Zj rfl rfl (List.mem_append_right _ (Zf 0 rfl)) rfl Try.underlying28 rfl) ?_
 refine Yn (L2 := [_, _]) rfl rfl rfl rfl rfl rfl Try.call68 (eq_Hr x.hi y.hi hx.hi hy.hi e_hi g_hi) [] rfl (Yb (List.mem_append_left _ (List.mem_append_left _ (by unfold kSt; simp))) (Yb (List.mem_append_left _ (List.mem_append_right _ (by unfold kSt; simp))) Yd)) ?_
 rintro v post ⟨rfl, rfl⟩
 show G _ _ _ [_, _] _
 refine Za rfl rfl rfl rfl (Zc rfl rfl) ?_
 refine Za rfl rfl rfl rfl (Zb (fo := 13) rfl Try.underlying32 rfl i_29 rfl rfl rfl) ?_
 refine Za rfl rfl rfl rfl (Zj rfl rfl (List.mem_append_right _ (Zf 1 rfl)) rfl Try.underlying29 rfl) ?_
 refine Za rfl rfl rfl rfl (Zb (fo := 13) rfl Try.underlying32 rfl i_29 rfl rfl rfl) ?_
 refine Za rfl rfl rfl rfl (Zj rfl rfl (List.mem_append_right _ (Zf 0 rfl)) rfl Try.underlying29 rfl) ?_
 refine Yn (L2 := [_, _]) rfl rfl rfl rfl rfl rfl Try.call69 (eq_Lt x.le y.le hx.le hy.le e_le g_le) [] rfl (Yb (List.mem_append_left _ (List.mem_append_left _ (by unfold kSt; simp))) (Yb (List.mem_append_left _ (List.mem_append_right _ (by unfold kSt; simp))) Yd)) ?_
 rintro v post ⟨rfl, rfl⟩
 show G _ _ _ [_, _] _
 refine Za rfl rfl rfl rfl (Yk rfl rfl rfl) ?_
 refine Za rfl rfl rfl rfl (Zc rfl rfl) ?_
 refine Za rfl rfl rfl rfl (Zb (fo := 14) rfl Try.underlying32 rfl i_30 rfl rfl rfl) ?_
 refine Za rfl rfl rfl rfl (Zj rfl rfl (List.mem_append_right _ (Zf 1 rfl)) rfl Try.underlying30 rfl) ?_
 refine Za rfl rfl rfl rfl (Zb (fo := 14) rfl Try.underlying32 rfl i_30 rfl rfl rfl) ?_
 refine Za rfl rfl rfl rfl (Zj rfl rfl (List.mem_append_right _ (Zf 0 rfl)) rfl Try.underlying30 rfl) ?_
 refine Yn (L2 := [_, _]) rfl rfl rfl rfl rfl rfl Try.call70 (eq_Wt x.wa y.wa hx.wa hy.wa e_wa g_wa) [] rfl (Yb (List.mem_append_left _ (List.mem_append_left _ (by unfold kSt; simp))) (Yb (List.mem_append_left _ (List.mem_append_right _ (by unfold kSt; simp))) Yd)) ?_
 rintro v post ⟨rfl, rfl⟩
 show G _ _ _ [_, _] _
 refine Za rfl rfl rfl rfl (Yk rfl rfl rfl) ?_
 refine Za rfl rfl rfl rfl (Zk rfl rfl) ?_
 refine Zg ?_
 refine Zi ?_
 refine Zd (l := [0, 1, 2, 3, 4, 5, 6, 7, 8, 9, 10, 11, 12, 13, 14]) rfl ?_
 refine Za rfl rfl rfl rfl (Zc rfl rfl) ?_
 refine Za rfl rfl rfl rfl (Zc rfl rfl) ?_
 refine Xr 101 rfl (fun hc7 => ?_) (fun hc7 => ?_)
 rotate_left
 · (first | contradiction | (exact absurd rfl hc7) | (exfalso; omega))
 refine Za rfl rfl rfl rfl (Zc rfl rfl) ?_
 refine Za rfl rfl rfl rfl (Yk rfl rfl rfl) ?_
 refine Za rfl rfl rfl rfl (Zc rfl rfl) ?_
 refine Za rfl rfl rfl rfl (Zc rfl rfl) ?_
 refine Za rfl rfl rfl rfl (Yk rfl rfl rfl) ?_
 refine Za rfl rfl rfl rfl (Zc rfl rfl) ?_
 refine Za rfl rfl rfl rfl (Zb (fo := 11) rfl Try.underlying32 rfl i_27 rfl rfl rfl) ?_
 refine Za rfl rfl rfl rfl (Zj rfl rfl (List.mem_append_right _ (Zf 1 rfl)) rfl Try.underlying27 rfl) ?_
 refine Za rfl rfl rfl rfl (Zb (fo := 11) rfl Try.underlying32 rfl i_27 rfl rfl rfl) ?_
 refine Za rfl rfl rfl rfl (Zj rfl rfl (List.mem_append_right _ (Zf 0 rfl)) rfl Try.underlying27 rfl) ?_
 refine Yn (L2 := [_, _]) rfl rfl rfl rfl rfl rfl Try.call71 (ef_Po x.po y.po hx.po hy.po hx.po2 hy.po2 e_po g_po) [] rfl (sub_2 (fun z hz => List.mem_append_left _ (List.mem_append_left _ (po_in3 hz))) (fun z hz => List.mem_append_left _ (List.mem_append_right _ (po_in3 hz)))) ?_
 rintro v post ⟨rfl, rfl⟩
 show G _ _ _ [_, _] _
 refine Za rfl rfl rfl rfl (Yk rfl rfl rfl) ?_
 refine Za rfl rfl rfl rfl (Zk rfl rfl) ?_
 refine Zg ?_
 refine Xa (post := []) Try.func18 rfl (Zy (Yy rfl) Zo) [] rfl ?_
 dsimp only [packed]
 exact ⟨rfl, rfl⟩

end
end Go.Proofs.Ytjnaeoelnmhjfaa

set_option linter.unusedSimpArgs false
set_option linter.unusedVariables false
namespace Go.Proofs.Ytjnaeoelnmhjfaa
open Go Go.ChangeShapes Go.WideShapes Go.ChangeAt Go.RowKit

section
theorem kDst_perm {x : Dst} {z : HBk} (hz : z ∈ insK x.li :: insK x.en :: insK x.wo :: insK x.iv :: insK x.hi :: insK x.le :: insK x.wa :: insK x.po :: x.po.l.flatMap kDp) : z ∈ kDst x := by
  unfold kDst
  simp only [List.mem_cons] at hz ⊢
  grind

set_option maxRecDepth 100000 in
set_option maxHeartbeats 4000000 in
theorem dumpEncodes_all (x : Dst) (hx : MkDst x) (hok : OkPS (vDst x)) (htx : TxDst x) :
    Ct Try.prog 4 [.agg (cDst x).toArray] (kDst x) [] fun v post => v = .bool true ∧ post = [] := by
 refine Yv Try.func4 rfl rfl (fun w0 => ?_)
 show G _ _ [(0, _)] _ _
 refine Zi ?_
 refine Zd (l := [0, 1]) rfl ?_
 refine Yr rfl rfl rfl rfl (N_boxA rfl rfl) (fun b1 => ?_)
 refine Za rfl rfl rfl rfl (Zk rfl rfl) ?_
 refine Zg ?_
 refine Zi ?_
 refine Zi ?_
 refine Zd (l := [0, 1]) rfl ?_
 refine Za rfl rfl rfl rfl (V_loadW (s := 15) rfl rfl (List.mem_append_right _ (Zf 0 rfl)) Try.underlying38 rfl i_38 rfl (by rfl)) ?_
 refine Yn (L2 := [_]) rfl rfl rfl rfl rfl rfl Try.call15 (lg_large x hx) [] rfl (fun z hz => List.mem_append_left _ hz) ?_
 rintro v post ⟨bl, hbl, rfl, rfl⟩
 show G _ _ _ [_] _
 refine Zg ?_
 refine G_if rfl (fun hc1 => ?_) (fun hc1 => ?_)
 ·
  refine Zi ?_
  refine Zd (l := [0, 1]) rfl ?_
  refine Yn (L2 := [_]) rfl rfl rfl rfl rfl rfl Try.call8 dl_live [] rfl Yd ?_
  rintro v post ⟨rfl, rfl⟩
  show G _ _ _ [_] _
  refine Za rfl rfl rfl rfl (Zk rfl rfl) ?_
  refine Zg ?_
  refine Xa (post := []) Try.func4 rfl (Zy (Yy rfl) Zo) [] rfl ?_
  dsimp only [packed]
  exact ⟨rfl, rfl⟩
 refine Zu ?_
 refine Zi ?_
 have hlen := encPS_len hok htx (hbl (by assumption))
 rcases hbd : badPS (vDst x) with _ | _
 ·
  refine Zd (l := [0, 1, 2, 3, 4, 5, 6, 7]) rfl ?_
  refine Za rfl rfl rfl rfl (V_loadW (s := 15) rfl rfl (List.mem_append_right _ (Zf 0 rfl)) Try.underlying38 rfl i_38 rfl (by rfl)) ?_
  refine Yn (L2 := [_]) rfl rfl rfl rfl rfl rfl Try.call16 (to_state x hx) [] rfl (fun z hz => List.mem_append_left _ hz) ?_
  rintro v M1 ⟨y, _, hy, hM1, hv1, rfl, rfl⟩
  refine G_perm (perm_in0 [] [_] _) ?_
  show G _ _ _ (_ :: _) _
  refine Yn (L2 := (_ :: _)) rfl rfl rfl rfl rfl rfl Try.call14 ((du_encode y (okSt_of2 hy (by rw [hv1]; exact hok)) (by rw [encSt_v, hv1]; omega)).weaken (fun v post h => by rewrite [dumpE_v, hv1, dumpP_ok hbd] at h; exact h)) [] rfl (fun z hz => (hM1 z hz).elim (fun h => List.mem_append_right _ (by simp [h])) (fun h => List.mem_append_left _ h)) ?_
  rintro v post ⟨rfl, rfl⟩
  show G _ _ _ (_ :: _) _
  refine Za rfl rfl rfl rfl (Zc rfl rfl) ?_
  refine Za rfl rfl rfl rfl (Xe rfl rfl rfl) ?_
  refine Za rfl rfl rfl rfl (Xe rfl rfl rfl) ?_
  refine Za rfl rfl rfl rfl (Zk rfl rfl) ?_
  refine Za rfl rfl rfl rfl (Zk rfl rfl) ?_
  refine Zg ?_
  refine Zi ?_
  refine Zd (l := [0, 1, 2, 3, 4, 5, 6]) rfl ?_
  refine Za rfl rfl rfl rfl (V_loadW (s := 15) rfl rfl (List.mem_append_right _ (Zf 0 rfl)) Try.underlying38 rfl i_38 rfl (by rfl)) ?_
  refine Yn (L2 := (_ :: _)) rfl rfl rfl rfl rfl rfl Try.call17 ((rw_encode x hx hok (by omega)).weaken (fun v post h => by rewrite [dumpP_ok hbd] at h; exact h)) [] rfl (fun z hz => List.mem_append_left _ (kDst_perm hz)) ?_
  rintro v post ⟨rfl, rfl⟩
  show G _ _ _ (_ :: _) _
  refine Za rfl rfl rfl rfl (Zc rfl rfl) ?_
  refine Za rfl rfl rfl rfl (Xe rfl rfl rfl) ?_
  refine Za rfl rfl rfl rfl (Xe rfl rfl rfl) ?_
  refine Za rfl rfl rfl rfl (Zk rfl rfl) ?_
  refine Za rfl rfl rfl rfl (Zk rfl rfl) ?_
  refine Zg ?_
  refine Zi ?_
  refine Zi ?_
  refine Zd (l := [0, 1, 2, 3, 4, 5, 6, 7, 8]) rfl ?_
  refine Za rfl rfl rfl rfl (Zc rfl rfl) ?_
  refine Za rfl rfl rfl rfl (Zc rfl rfl) ?_
  refine Za rfl rfl rfl rfl (V_sneq rfl rfl rfl) ?_
  refine Za rfl rfl rfl rfl (Zc rfl rfl) ?_
  refine Xr 26 rfl (fun hc2 => ?_) (fun hc2 => ?_)
  · (first | contradiction | (exact absurd rfl hc2) | (exfalso; omega) | (simp at hc2; done) | (exact absurd hc2 (by decide)) | (exact absurd (by decide) hc2))
  refine Za rfl rfl rfl rfl (Zc rfl rfl) ?_
  refine Yn (L2 := (_ :: _)) rfl rfl rfl rfl rfl rfl Try.call12 (dl_num 0) [] rfl Yd ?_
  rintro v post ⟨rfl, rfl⟩
  show G _ _ _ (_ :: _) _
  refine Za rfl rfl rfl rfl (Zc rfl rfl) ?_
  refine Za rfl rfl rfl rfl (V_neq rfl rfl rfl) ?_
  refine Za rfl rfl rfl rfl (Xu rfl rfl rfl) ?_
  refine Zg ?_
  refine Yl rfl (fun hc3 => ?_) (fun hc3 => ?_)
  · (first | contradiction | (exact absurd rfl hc3) | (exfalso; omega) | (simp at hc3; done) | (exact absurd hc3 (by decide)) | (exact absurd (by decide) hc3))
  refine Zu ?_
  refine Zi ?_
  refine Zd (l := [0, 1, 2, 3, 4, 5, 6, 7]) rfl ?_
  refine Za rfl rfl rfl rfl (Zc rfl rfl) ?_
  refine Yn (L2 := (_ :: _)) rfl rfl rfl rfl rfl rfl Try.call9 (du_decode (encPS (vDst x)) (by omega)) [] rfl Yd ?_
  rintro v M2 ⟨z, c, _, hz, hM2, hd, rfl, rfl⟩
  refine G_perm (perm_in [] [_] _ _) ?_
  show G _ _ _ (_ :: _) _
  obtain ⟨rfl, hzv⟩ := dec_of ⟨hbd, hok⟩ hd
  refine Za rfl rfl rfl rfl (Zc rfl rfl) ?_
  refine Za rfl rfl rfl rfl (Xe rfl rfl rfl) ?_
  refine Za rfl rfl rfl rfl (Xe rfl rfl rfl) ?_
  refine Yr rfl rfl rfl rfl (Xb rfl i_32 rfl) (fun b7 => ?_)
  refine Xl (l1 := []) (L' := (_ :: _ :: _)) rfl rfl rfl rfl (Xk (s := 15) rfl rfl rfl (Zf 0 rfl) (by rfl) i_32 rfl (by rfl) (by simp [Value.oneCell', cOp, cWk, cIv, cHr, cLt, cWt, cIt, cFl, cTn, cCl, cPo, cSt, cDt, cDs, Sl.v, zIns, insV, cDp, cDst])) rfl ?_
  refine Za rfl rfl rfl rfl (Zk rfl rfl) ?_
  refine Zg ?_
  refine Zi ?_
  refine Ya (Lq := [_, _]) (isq := [0, 0]) (m := 17) Ym rfl rfl ?_
  refine Zh 0 rfl rfl rfl rfl (by kernel_rfl) (fun _ _ => Zc rfl rfl) ?_
  refine Zh 1 rfl rfl rfl rfl (by kernel_rfl) (fun _ _ => V_neq rfl rfl rfl) ?_
  refine Zh 2 rfl rfl rfl rfl (by kernel_rfl) (fun _ _ => Zc rfl rfl) ?_
  refine GH_splitD 39 rfl (fun hc4 => ?_) (fun hc4 => ?_)
  · (first | contradiction | (exact absurd rfl hc4) | (exfalso; omega) | (simp at hc4; done) | (exact absurd hc4 (by decide)) | (exact absurd (by decide) hc4))
  refine Zh 3 rfl rfl rfl rfl (by kernel_rfl) (fun _ _ => V_loadW (s := 15) rfl rfl (List.mem_append_right _ (Zf 0 rfl)) Try.underlying32 rfl i_32 rfl (by rfl)) ?_
  refine Zh 4 rfl rfl rfl rfl (by kernel_rfl) (fun _ _ => V_loadW (s := 15) rfl rfl (List.mem_append_right _ (Zf 1 rfl)) Try.underlying38 rfl i_38 rfl (by rfl)) ?_
  refine GH_all [5] (by kernel_rfl) (by decide) ?_
  refine (And.intro ?_ trivial)
  ·
   refine GHop_callMT (L2 := (_ :: _ :: _)) rfl rfl rfl rfl rfl rfl Try.call16 (to_state x hx) [] rfl (fun z hz => List.mem_append_left _ hz) [0, 0] rfl ?_
   rintro v M3 ⟨y2, _, hy2, hM3, hv2, rfl, rfl⟩
   refine GH_perm (perm_in [] [_, _] _ _) ?_
   show GH _ _ _ _ _ _ _ (_ :: _ :: _) _
   refine GH_all [6] (by kernel_rfl) (by decide) ?_
   refine (And.intro ?_ trivial)
   ·
    refine Xq (L2 := (_ :: _ :: _)) rfl rfl rfl rfl rfl rfl Try.call18 (sm_state z y2 hz hy2 (hzv.trans hv2.symm) (by rw [hzv]; exact ⟨hbd, hok⟩)) [] rfl (fun w hw => (List.mem_append.1 hw).elim (fun h => List.mem_append_right _ (by simp [hM2 w h])) (fun h => (hM3 w h).elim (fun h => List.mem_append_right _ (by simp [h])) (fun h => List.mem_append_left _ h))) [0, 0] (by rintro v post ⟨rfl, rfl⟩; exact ⟨_, rfl⟩) ?_
    rintro v post ⟨rfl, rfl⟩
    show GH _ _ _ _ _ _ _ (_ :: _ :: _) _
    refine Zh 7 rfl rfl rfl rfl (by kernel_rfl) (fun _ _ => Zc rfl rfl) ?_
    refine Zh 8 rfl rfl rfl rfl (by kernel_rfl) (fun _ _ => Zc rfl rfl) ?_
    refine GH_all [9] (by kernel_rfl) (by decide) ?_
    refine (And.intro ?_ trivial)
    ·
     refine Xq (L2 := (_ :: _ :: _)) rfl rfl rfl rfl rfl rfl Try.call12 (dl_num 0) [] rfl Yd [0, 0] (by rintro v post ⟨rfl, rfl⟩; exact ⟨_, rfl⟩) ?_
     rintro v post ⟨rfl, rfl⟩
     show GH _ _ _ _ _ _ _ (_ :: _ :: _) _
     refine Zh 10 rfl rfl rfl rfl (by kernel_rfl) (fun _ _ => V_eql rfl rfl rfl) ?_
     refine Zh 11 rfl rfl rfl rfl (by kernel_rfl) (fun _ _ => Yk rfl rfl rfl) ?_
     refine Zh 12 rfl rfl rfl rfl (by kernel_rfl) (fun _ _ => Xu rfl rfl rfl) ?_
     refine Zh 13 rfl rfl rfl rfl (by kernel_rfl) (fun _ _ => Zc rfl rfl) ?_
     refine GH_splitD 50 rfl (fun hc5 => ?_) (fun hc5 => ?_)
     rotate_left
     · (first | contradiction | (exact absurd rfl hc5) | (exfalso; omega) | (simp at hc5; done) | (exact absurd hc5 (by decide)) | (exact absurd (by decide) hc5))
     refine GH_all [14] (by kernel_rfl) (by decide) ?_
     refine (And.intro ?_ trivial)
     ·
      refine Xq (L2 := (_ :: _ :: _)) rfl rfl rfl rfl rfl rfl Try.call8 dl_live [] rfl Yd [0, 0] (by rintro v post ⟨rfl, rfl⟩; exact ⟨_, rfl⟩) ?_
      rintro v post ⟨rfl, rfl⟩
      show GH _ _ _ _ _ _ _ (_ :: _ :: _) _
      refine Zh 15 rfl rfl rfl rfl (by kernel_rfl) (fun _ _ => Yk rfl rfl rfl) ?_
      refine Zh 16 rfl rfl rfl rfl (by kernel_rfl) (fun _ _ => Zk rfl rfl) ?_
      refine Zw (by kernel_rfl) ?_
      refine Xa (post := []) Try.func4 rfl (Zy (Yy rfl) Zo) [] rfl ?_
      dsimp only [packed]
      exact ⟨rfl, rfl⟩
 ·
  refine Zd (l := [0, 1, 2, 3, 4, 5, 6, 7]) rfl ?_
  refine Za rfl rfl rfl rfl (V_loadW (s := 15) rfl rfl (List.mem_append_right _ (Zf 0 rfl)) Try.underlying38 rfl i_38 rfl (by rfl)) ?_
  refine Yn (L2 := [_]) rfl rfl rfl rfl rfl rfl Try.call16 (to_state x hx) [] rfl (fun z hz => List.mem_append_left _ hz) ?_
  rintro v M1 ⟨y, _, hy, hM1, hv1, rfl, rfl⟩
  refine G_perm (perm_in0 [] [_] _) ?_
  show G _ _ _ (_ :: _) _
  refine Yn (L2 := (_ :: _)) rfl rfl rfl rfl rfl rfl Try.call14 ((du_encode y (okSt_of2 hy (by rw [hv1]; exact hok)) (by rw [encSt_v, hv1]; omega)).weaken (fun v post h => by rewrite [dumpE_v, hv1, dumpP_bad hbd] at h; exact h)) [] rfl (fun z hz => (hM1 z hz).elim (fun h => List.mem_append_right _ (by simp [h])) (fun h => List.mem_append_left _ h)) ?_
  rintro v post ⟨rfl, rfl⟩
  show G _ _ _ (_ :: _) _
  refine Za rfl rfl rfl rfl (Zc rfl rfl) ?_
  refine Za rfl rfl rfl rfl (Xe rfl rfl rfl) ?_
  refine Za rfl rfl rfl rfl (Xe rfl rfl rfl) ?_
  refine Za rfl rfl rfl rfl (Zk rfl rfl) ?_
  refine Za rfl rfl rfl rfl (Zk rfl rfl) ?_
  refine Zg ?_
  refine Zi ?_
  refine Zd (l := [0, 1, 2, 3, 4, 5, 6]) rfl ?_
  refine Za rfl rfl rfl rfl (V_loadW (s := 15) rfl rfl (List.mem_append_right _ (Zf 0 rfl)) Try.underlying38 rfl i_38 rfl (by rfl)) ?_
  refine Yn (L2 := (_ :: _)) rfl rfl rfl rfl rfl rfl Try.call17 ((rw_encode x hx hok (by omega)).weaken (fun v post h => by rewrite [dumpP_bad hbd] at h; exact h)) [] rfl (fun z hz => List.mem_append_left _ (kDst_perm hz)) ?_
  rintro v post ⟨rfl, rfl⟩
  show G _ _ _ (_ :: _) _
  refine Za rfl rfl rfl rfl (Zc rfl rfl) ?_
  refine Za rfl rfl rfl rfl (Xe rfl rfl rfl) ?_
  refine Za rfl rfl rfl rfl (Xe rfl rfl rfl) ?_
  refine Za rfl rfl rfl rfl (Zk rfl rfl) ?_
  refine Za rfl rfl rfl rfl (Zk rfl rfl) ?_
  refine Zg ?_
  refine Zi ?_
  refine Zi ?_
  refine Zd (l := [0, 1, 2, 3, 4, 5, 6, 7, 8]) rfl ?_
  refine Za rfl rfl rfl rfl (Zc rfl rfl) ?_
  refine Za rfl rfl rfl rfl (Zc rfl rfl) ?_
  refine Za rfl rfl rfl rfl (V_sneq rfl rfl rfl) ?_
  refine Za rfl rfl rfl rfl (Zc rfl rfl) ?_
  refine Xr 26 rfl (fun hc2 => ?_) (fun hc2 => ?_)
  · (first | contradiction | (exact absurd rfl hc2) | (exfalso; omega) | (simp at hc2; done) | (exact absurd hc2 (by decide)) | (exact absurd (by decide) hc2))
  refine Za rfl rfl rfl rfl (Zc rfl rfl) ?_
  refine Yn (L2 := (_ :: _)) rfl rfl rfl rfl rfl rfl Try.call12 (dl_num 1) [] rfl Yd ?_
  rintro v post ⟨rfl, rfl⟩
  show G _ _ _ (_ :: _) _
  refine Za rfl rfl rfl rfl (Zc rfl rfl) ?_
  refine Za rfl rfl rfl rfl (V_neq rfl rfl rfl) ?_
  refine Za rfl rfl rfl rfl (Xu rfl rfl rfl) ?_
  refine Zg ?_
  refine Yl rfl (fun hc3 => ?_) (fun hc3 => ?_)
  · (first | contradiction | (exact absurd rfl hc3) | (exfalso; omega) | (simp at hc3; done) | (exact absurd hc3 (by decide)) | (exact absurd (by decide) hc3))
  refine Zu ?_
  refine Zi ?_
  refine Zd (l := [0, 1, 2, 3, 4, 5, 6, 7]) rfl ?_
  refine Za rfl rfl rfl rfl (Zc rfl rfl) ?_
  refine Yn (L2 := (_ :: _)) rfl rfl rfl rfl rfl rfl Try.call9 (du_decode [] (by simp)) [] rfl Yd ?_
  rintro v M2 ⟨z, c, _, hz, hM2, hd, rfl, rfl⟩
  refine G_perm (perm_in [] [_] _ _) ?_
  show G _ _ _ (_ :: _) _
  refine Za rfl rfl rfl rfl (Zc rfl rfl) ?_
  refine Za rfl rfl rfl rfl (Xe rfl rfl rfl) ?_
  refine Za rfl rfl rfl rfl (Xe rfl rfl rfl) ?_
  refine Yr rfl rfl rfl rfl (Xb rfl i_32 rfl) (fun b7 => ?_)
  refine Xl (l1 := []) (L' := (_ :: _ :: _)) rfl rfl rfl rfl (Xk (s := 15) rfl rfl rfl (Zf 0 rfl) (by rfl) i_32 rfl (by rfl) (by simp [Value.oneCell', cOp, cWk, cIv, cHr, cLt, cWt, cIt, cFl, cTn, cCl, cPo, cSt, cDt, cDs, Sl.v, zIns, insV, cDp, cDst])) rfl ?_
  refine Za rfl rfl rfl rfl (Zk rfl rfl) ?_
  refine Zg ?_
  refine Zi ?_
  refine Ya (Lq := [_, _]) (isq := [0, 0]) (m := 17) Ym rfl rfl ?_
  refine Zh 0 rfl rfl rfl rfl (by kernel_rfl) (fun _ _ => Zc rfl rfl) ?_
  refine Zh 1 rfl rfl rfl rfl (by kernel_rfl) (fun _ _ => V_neq rfl rfl rfl) ?_
  refine Zh 2 rfl rfl rfl rfl (by kernel_rfl) (fun _ _ => Zc rfl rfl) ?_
  refine GH_splitD 39 rfl (fun hc4 => ?_) (fun hc4 => ?_)
  rotate_left
  · (first | contradiction | (exact absurd rfl hc4) | (exfalso; omega) | (simp at hc4; done) | (exact absurd hc4 (by decide)) | (exact absurd (by decide) hc4))
  refine GH_takeOff 3 rfl rfl rfl rfl (by kernel_rfl) (by kernel_rfl) (by kernel_rfl) ?_
  refine GH_takeOff 4 rfl rfl rfl rfl (by kernel_rfl) (by kernel_rfl) (by kernel_rfl) ?_
  refine GH_takeOff 5 rfl rfl rfl rfl (by kernel_rfl) (by kernel_rfl) (by kernel_rfl) ?_
  refine GH_takeOff 6 rfl rfl rfl rfl (by kernel_rfl) (by kernel_rfl) (by kernel_rfl) ?_
  refine GH_takeOff 7 rfl rfl rfl rfl (by kernel_rfl) (by kernel_rfl) (by kernel_rfl) ?_
  refine GH_takeOff 8 rfl rfl rfl rfl (by kernel_rfl) (by kernel_rfl) (by kernel_rfl) ?_
  refine GH_takeOff 9 rfl rfl rfl rfl (by kernel_rfl) (by kernel_rfl) (by kernel_rfl) ?_
  refine GH_takeOff 10 rfl rfl rfl rfl (by kernel_rfl) (by kernel_rfl) (by kernel_rfl) ?_
  refine GH_takeOff 11 rfl rfl rfl rfl (by kernel_rfl) (by kernel_rfl) (by kernel_rfl) ?_
  refine Zh 12 rfl rfl rfl rfl (by kernel_rfl) (fun _ _ => Yk rfl rfl rfl) ?_
  refine Zh 13 rfl rfl rfl rfl (by kernel_rfl) (fun _ _ => Zc rfl rfl) ?_
  refine GH_all [14] (by kernel_rfl) (by decide) ?_
  refine (And.intro ?_ trivial)
  ·
   refine Xq (L2 := (_ :: _ :: _)) rfl rfl rfl rfl rfl rfl Try.call8 dl_live [] rfl Yd [0, 0] (by rintro v post ⟨rfl, rfl⟩; exact ⟨_, rfl⟩) ?_
   rintro v post ⟨rfl, rfl⟩
   show GH _ _ _ _ _ _ _ (_ :: _ :: _) _
   refine Zh 15 rfl rfl rfl rfl (by kernel_rfl) (fun _ _ => Yk rfl rfl rfl) ?_
   refine Zh 16 rfl rfl rfl rfl (by kernel_rfl) (fun _ _ => Zk rfl rfl) ?_
   refine Zw (by kernel_rfl) ?_
   refine Xa (post := []) Try.func4 rfl (Zy (Yy rfl) Zo) [] rfl ?_
   dsimp only [packed]
   exact ⟨rfl, rfl⟩


set_option maxRecDepth 100000 in
theorem dumpEncodes_walk : LawWalkU (fun _ => True) 1048576 4 Try.f4 := lawwalk_readsU (fun W base args hX hs hval => by
  rw [Try.params4] at hs hval
  obtain ⟨l⟩ := args
  match l, hs with
  | [a], _ =>
    obtain ⟨h0, hr⟩ := hval 0 38 a rfl rfl
    obtain ⟨cs, rfl, hcl, hcell⟩ := okv_agg (ts := [23, 4, 3, 3, 3, 3, 3, 24, 24, 25, 26, 36, 28, 29, 30]) (s := 15) h0 Try.underlying38 rfl (by kernel_rfl) (by kernel_rfl) rfl
    have hr : ReadsB Try.prog W 38 cs 1048576 := hr
    obtain ⟨x, rfl, ⟨hm, hk, ht⟩, hb⟩ := dst_of hcl hr
    exact ⟨_, has_all _ hb, dumpEncodes_all x hm hk ht⟩)


set_option maxRecDepth 100000 in
theorem dumpEncodes_lifted (os : Os) (started : os.Started) (H : Type) (enc : TypeId × Value → H) (F : Stop.Interp) :
    ReturnsInHanded {} Try.checked os 4 .any ((Rows.OpenSpec.upto Rows.dumpEncodesSpec).pre6 enc Try.prog Try.f4 Rows.dumpEncodesUptoRow.domain false) (((Rows.OpenSpec.upto Rows.dumpEncodesSpec).at F).post enc Try.prog Try.f4 false true false false) := by
  refine returnsInHanded_of_cond (C := Try.checked) (s := Rows.OpenSpec.upto Rows.dumpEncodesSpec) (k := Rows.uptoSmall) rfl Try.ownK started (by kernel_rfl) Try.func4
    (OpenSpec.witness (enc := enc) (C := Try.checked) (s := Rows.OpenSpec.upto Rows.dumpEncodesSpec) (k := Rows.uptoSmall) rfl false ⟨#[], #[.agg #[.int .u64 0, .bool false, .int .i64 0, .int .i64 0, .int .i64 0, .int .i64 0, .int .i64 0, .slice none 0 0, .slice none 0 0, .slice none 0 0, .slice none 0 0, .slice none 0 0, .slice none 0 0, .slice none 0 0, .slice none 0 0]], []⟩ 8 (by kernel_rfl) (by kernel_rfl) (by kernel_rfl)
      (x := ([.agg [.lit (.int .u64 0), .lit (.bool false), .lit (.int .i64 0), .lit (.int .i64 0), .lit (.int .i64 0), .lit (.int .i64 0), .lit (.int .i64 0), .nil, .nil, .nil, .nil, .nil, .nil, .nil, .nil]], [], [])) (by kernel_rfl) rfl (by kernel_rfl)) ?_
  intro W base args ds gs before hval hW _ hk _
  exact law_endU (s := Rows.dumpEncodesSpec) rfl (by kernel_rfl) (by kernel_rfl) (by decide +kernel) (fun ds h => by match ds, h with | [_], _ => rfl) dumpEncodes_walk W base args ds gs before hval hW trivial (of_decide_eq_true hk)
theorem dumpEncodes_holds : Rows.DumpEncodesUptoSaid :=
  OpenClaim.holds_of_cond 4 Try.f4 rfl rfl rfl rfl rfl rfl rfl ⟨rfl, rfl, rfl, rfl, rfl⟩ rfl rfl rfl rfl rfl (by kernel_rfl) Try.func4 (by kernel_rfl)
    (of_decide_eq_true (by kernel_rfl)) (by unfold Func.isWrapper; first | (rw [if_pos (by decide +kernel)]; kernel_rfl) | (rw [if_neg (by decide +kernel)]; exact ⟨rfl, rfl⟩))
    (fun os started H enc _ F => dumpEncodes_lifted os started H enc F)
#print axioms dumpEncodes_holds

end
end Go.Proofs.Ytjnaeoelnmhjfaa
