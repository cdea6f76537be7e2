/- The walk of the octet laws' 'same': two readers at the same place read the same. -/
import Derived.Test.YtgnbgjllogjecaaRReader
import Derived.Test.YtgnbgjllogjecaaReaderNil
import Derived.Test.YtgnbgjllogjecaaKit2
import Derived.Test.YtgnbgjllogjecaaOctetLive
import Derived.Deep.RegionHeld3
namespace Go.Proofs.Ytgnbgjllogjecaa
open Go.RowKit

/-- What a read of a kind leaves. -/
def rdAny (kind most : Int) (l : List UInt8) (e : Nat) : List UInt8 × Nat :=
  if kind = 0 then (rdNum l e).2 else if kind = 1 then (rdInt most l e).2 else if kind = 2 then (rdStr most l e).2 else (rdFlag l e).2

theorem RdAt.grown {w w' : World} {b : Nat} {l : List UInt8} {e : Nat} {row : Option Nat} (h : RdAt w b l e) (hg : w.grownBy w' row) (hne : some b ≠ row) : RdAt w' b l e := Blk.grown h hg hne
theorem RRdAt.grown {w w' : World} {b : Nat} {l : List UInt8} {e : Nat} {row : Option Nat} (h : RRdAt w b l e) (hg : w.grownBy w' row) (hne : some b ≠ row) : RRdAt w' b l e := Blk.grown h hg hne
theorem RdAt.drew {w : World} {b : Nat} {l : List UInt8} {e : Nat} (h : RdAt w b l e) : RdAt w.drew b l e := h
theorem RRdAt.drew {w : World} {b : Nat} {l : List UInt8} {e : Nat} (h : RRdAt w b l e) : RRdAt w.drew b l e := h

set_option maxRecDepth 100000 in
set_option maxHeartbeats 1000000 in
theorem same_any (w : World) (b c : Nat) (kind most : Int) (l : List UInt8) (e : Nat) (h : RdAt w b l e) (hr : RRdAt w c l e) (hbc : b ≠ c) (hl : l.length ≤ 140737488351232) (hm0 : -9223372036854775808 ≤ most) (hm1 : most ≤ 9223372036854775807) :
    Calls Try.prog 33 #[.pointer (some ⟨b, 0, none⟩), .pointer (some ⟨c, 0, none⟩), .agg #[.int .i64 kind, .int .i64 most]] w fun r w' => r = .returned (.bool true) ∧ RdAt w' b (rdAny kind most l e).1 (rdAny kind most l e).2 ∧ RRdAt w' c (rdAny kind most l e).1 (rdAny kind most l e).2 ∧ Touch (fun k => k = b ∨ k = c) w w' := by
  have hbl := Blk.lt h
  have hcl := Blk.lt hr
  have hx : Blk (w.alloc (.cells #[.int .i64 kind, .int .i64 most] 63)) w.heap.size #[.int .i64 kind, .int .i64 most] 63 := Blk.new _ _ _
  have h1 : RdAt (w.alloc (.cells #[.int .i64 kind, .int .i64 most] 63)) b l e := Blk.alloc h _
  have h2 : RRdAt (w.alloc (.cells #[.int .i64 kind, .int .i64 most] 63)) c l e := Blk.alloc hr _
  have h1d := RdAt.drew h1
  have h2d := RRdAt.drew h2
  have hxd := Blk.drew hx
  by_cases k0 : kind = 0
  · subst k0
    go_enter Try.func33, Try.ntmps33
    go_wp2_with (first
      | (go_at_call 38; refine (rd_num_any _ b l e h1 hl).mono ?_; rintro r w1 ⟨rfl, h3, hg3⟩)
      | (go_at_call 63; refine (rrd_num_any _ c l e (RRdAt.grown h2 hg3 (by simpa using hbc.symm)) hl).mono ?_; rintro r w2 ⟨rfl, h4, hg4⟩))
    go_ret
    exact ⟨rfl, by simpa [rdAny] using RdAt.grown h3 hg4 (by simpa using hbc), by simpa [rdAny] using h4, ((((Touch.refl _ _).alloc _).step (.of_grown hg3) (fun _ _ h => .inl h)).step (.of_grown hg4) (fun _ _ h => .inr h))⟩
  have hk0 : (kind == 0) = false := by simpa using k0
  have hx0 := hx.cell 0
  have hx1 := hx.cell 1
  simp only [List.getElem?_toArray, List.getElem?_cons_zero, List.getElem?_cons_succ] at hx0 hx1
  have hxb : w.heap.size ≠ b := by omega
  have hxc : w.heap.size ≠ c := by omega
  by_cases k1 : kind = 1
  · subst k1
    go_enter Try.func33, Try.ntmps33
    go_wp2_with fail
    go_region_held3 (fun w' => w'.cell? ⟨w.heap.size, 1, none⟩ = some (.int .i64 most)) (first | assumption | exact hx1)
      (first
        | (go_at_call 39; refine (rd_int_any _ b most l e h1d hl hm0 hm1).mono ?_; rintro r w1 ⟨rfl, h3, hg3⟩; have hx1' := (Blk.grown hxd hg3 (by simpa using hxb)).cell 1)
        | (go_at_call 64; refine (rrd_int_any _ c most l e (RRdAt.grown h2d hg3 (by simpa using hbc.symm)) hl hm0 hm1).mono ?_; rintro r w2 ⟨rfl, h4, hg4⟩; have hx2' := (Blk.grown (Blk.grown hxd hg3 (by simpa using hxb)) hg4 (by simpa using hxc)).cell 1))
    go_wp2
    go_ret
    exact ⟨rfl, by simpa [rdAny] using RdAt.grown h3 hg4 (by simpa using hbc), by simpa [rdAny] using h4, ((((Touch.refl _ _).alloc _).drew.step (.of_grown hg3) (fun _ _ h => .inl h)).step (.of_grown hg4) (fun _ _ h => .inr h))⟩
  have hk1 : (kind == 1) = false := by simpa using k1
  by_cases k2 : kind = 2
  · subst k2
    go_enter Try.func33, Try.ntmps33
    go_wp2_with fail
    go_region_held3 (fun w' => w'.cell? ⟨w.heap.size, 1, none⟩ = some (.int .i64 most)) (first | assumption | exact hx1)
      (first
        | (go_at_call 40; refine (rd_str_any _ b most l e h1d hl hm0 hm1).mono ?_; rintro r w1 ⟨rfl, h3, hg3⟩; have hx1' := (Blk.grown hxd hg3 (by simpa using hxb)).cell 1)
        | (go_at_call 65; refine (rrd_str_any _ c most l e (RRdAt.grown h2d hg3 (by simpa using hbc.symm)) hl hm0 hm1).mono ?_; rintro r w2 ⟨rfl, h4, hg4⟩; have hx2' := (Blk.grown (Blk.grown hxd hg3 (by simpa using hxb)) hg4 (by simpa using hxc)).cell 1))
    go_wp2
    go_ret
    exact ⟨rfl, by simpa [rdAny] using RdAt.grown h3 hg4 (by simpa using hbc), by simpa [rdAny] using h4, ((((Touch.refl _ _).alloc _).drew.step (.of_grown hg3) (fun _ _ h => .inl h)).step (.of_grown hg4) (fun _ _ h => .inr h))⟩
  have hk2 : (kind == 2) = false := by simpa using k2
  have K0 := Lib.hid k0
  have K1 := Lib.hid k1
  have K2 := Lib.hid k2
  clear k0 k1 k2
  go_enter Try.func33, Try.ntmps33
  go_wp2_with (first
    | (go_at_call 41; refine (rd_flag_any _ b l e h1 hl).mono ?_; rintro r w1 ⟨rfl, h3, hg3⟩)
    | (go_at_call 66; refine (rrd_flag_any _ c l e (RRdAt.grown h2 hg3 (by simpa using hbc.symm)) hl).mono ?_; rintro r w2 ⟨rfl, h4, hg4⟩))
  go_ret
  exact ⟨rfl, by simpa [rdAny, K0.out, K1.out, K2.out] using RdAt.grown h3 hg4 (by simpa using hbc), by simpa [rdAny, K0.out, K1.out, K2.out] using h4, ((((Touch.refl _ _).alloc _).step (.of_grown hg3) (fun _ _ h => .inl h)).step (.of_grown hg4) (fun _ _ h => .inr h))⟩

end Go.Proofs.Ytgnbgjllogjecaa
