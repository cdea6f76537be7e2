/- Requests as arguments: what can be read of them, and their literals. -/
import Derived.Test.YtkekkalgebgokaaDoorRMsgW
import Derived.Test.YtkekkalgebgokaaDoorLaw3
set_option linter.unusedSimpArgs false
set_option linter.unusedVariables false
namespace Go.Proofs.YtkekkalgebgokaaDoor
open Go Go.RowKit

section



set_option maxRecDepth 100000 in
theorem key_rq (q : Rq) (h : RqOk q) : Tryd.prog.keyLits 2 27 (rqCells q).toArray.toList = some (rqLits q) := by
  obtain ⟨hk, ht, hn⟩ := h
  refine fits_keys Tryd.underlying27 (by kernel_rfl) (by kernel_rfl) ?_
  refine ⟨rfl, (by kernel_rfl), key_int Tryd.underlying3 hk.1 hk.2, ?_⟩
  iterate 6 refine ⟨rfl, (by kernel_rfl), key_str Tryd.underlying9 (ht _), ?_⟩
  iterate 9 refine ⟨rfl, (by kernel_rfl), key_int Tryd.underlying3 (hn _).1 (hn _).2, ?_⟩
  exact ⟨rfl, (by kernel_rfl), key_bool Tryd.underlying4, trivial⟩
set_option maxRecDepth 100000 in
theorem rq_types : Tryd.prog.cellTypes Tryd.prog.depth 27 = some [3, 9, 9, 9, 9, 9, 9, 3, 3, 3, 3, 3, 3, 3, 3, 3, 4] := by kernel_rfl
set_option maxRecDepth 100000 in
theorem rq_of {W : World} {b : Nat} {v : Value} (h : Value.okWide Tryd.prog W .any b 27 v) : ∃ q : Rq, v = .agg (rqCells q).toArray ∧ RqOk q := by
  obtain ⟨cs, rfl, hl, hc⟩ := okv_agg (s := 17) h Tryd.underlying27 rfl rq_types (by kernel_rfl) rfl
  match cs, hl, hc with
  | [v0, v1, v2, v3, v4, v5, v6, v7, v8, v9, v10, v11, v12, v13, v14, v15, v16], _, hc =>
    obtain ⟨k, rfl, k1, k2⟩ := okc_int (hc 0 v0 3 rfl rfl) Tryd.underlying3
    obtain ⟨s1, rfl, p1⟩ := okc_str (hc 1 v1 9 rfl rfl) Tryd.underlying9
    obtain ⟨s2, rfl, p2⟩ := okc_str (hc 2 v2 9 rfl rfl) Tryd.underlying9
    obtain ⟨s3, rfl, p3⟩ := okc_str (hc 3 v3 9 rfl rfl) Tryd.underlying9
    obtain ⟨s4, rfl, p4⟩ := okc_str (hc 4 v4 9 rfl rfl) Tryd.underlying9
    obtain ⟨s5, rfl, p5⟩ := okc_str (hc 5 v5 9 rfl rfl) Tryd.underlying9
    obtain ⟨s6, rfl, p6⟩ := okc_str (hc 6 v6 9 rfl rfl) Tryd.underlying9
    obtain ⟨n7, rfl, a7, b7⟩ := okc_int (hc 7 v7 3 rfl rfl) Tryd.underlying3
    obtain ⟨n8, rfl, a8, b8⟩ := okc_int (hc 8 v8 3 rfl rfl) Tryd.underlying3
    obtain ⟨n9, rfl, a9, b9⟩ := okc_int (hc 9 v9 3 rfl rfl) Tryd.underlying3
    obtain ⟨n10, rfl, a10, b10⟩ := okc_int (hc 10 v10 3 rfl rfl) Tryd.underlying3
    obtain ⟨n11, rfl, a11, b11⟩ := okc_int (hc 11 v11 3 rfl rfl) Tryd.underlying3
    obtain ⟨n12, rfl, a12, b12⟩ := okc_int (hc 12 v12 3 rfl rfl) Tryd.underlying3
    obtain ⟨n13, rfl, a13, b13⟩ := okc_int (hc 13 v13 3 rfl rfl) Tryd.underlying3
    obtain ⟨n14, rfl, a14, b14⟩ := okc_int (hc 14 v14 3 rfl rfl) Tryd.underlying3
    obtain ⟨n15, rfl, a15, b15⟩ := okc_int (hc 15 v15 3 rfl rfl) Tryd.underlying3
    obtain ⟨fl, rfl⟩ := okc_bool (hc 16 v16 4 rfl rfl) Tryd.underlying4
    refine ⟨⟨k, fun i => if i = 1 then s1 else if i = 2 then s2 else if i = 3 then s3 else if i = 4 then s4 else if i = 5 then s5 else s6,
      fun i => if i = 7 then n7 else if i = 8 then n8 else if i = 9 then n9 else if i = 10 then n10 else if i = 11 then n11 else if i = 12 then n12 else if i = 13 then n13 else if i = 14 then n14 else n15, fl⟩, rfl, ⟨k1, k2⟩, fun i => ?_, fun i => ?_⟩
    · show (if i = 1 then s1 else if i = 2 then s2 else if i = 3 then s3 else if i = 4 then s4 else if i = 5 then s5 else s6).length ≤ _
      repeat' split
      all_goals assumption
    · show _ ≤ (if i = 7 then n7 else if i = 8 then n8 else if i = 9 then n9 else if i = 10 then n10 else if i = 11 then n11 else if i = 12 then n12 else if i = 13 then n13 else if i = 14 then n14 else n15) ∧ (if i = 7 then n7 else if i = 8 then n8 else if i = 9 then n9 else if i = 10 then n10 else if i = 11 then n11 else if i = 12 then n12 else if i = 13 then n13 else if i = 14 then n14 else n15) ≤ _
      repeat' split
      all_goals exact ⟨by assumption, by assumption⟩

end
end Go.Proofs.YtkekkalgebgokaaDoor
