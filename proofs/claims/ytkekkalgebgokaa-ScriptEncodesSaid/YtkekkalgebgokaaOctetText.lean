/- The walks of Text and Untext, the program's and the reference's. -/
import Derived.Test.YtkekkalgebgokaaOctetRUnchain
import Derived.Test.YtkekkalgebgokaaOctetChainPlain
namespace Go.Proofs.Ytkekkalgebgokaa
open Go.RowKit

def triS (r : List UInt8 × Nat × Nat) : Value := .tuple #[str r.1, .int .i64 (r.2.1 : Int), .int .i64 (r.2.2 : Int)]

theorem ret_triS {s : ByteArray} {l : List UInt8} {n e : Nat} {x y : Int} (h : s.data.toList = l) (hx : Value.int .i64 x = .int .i64 (n : Int)) (hy : y = (e : Int)) :
    Ending.returned (.tuple #[.string s, .int .i64 x, .int .i64 y]) = .returned (triS (l, n, e)) := by
  subst h; rw [hx, hy]; rfl
theorem data_append (a b : ByteArray) : (a ++ b).data.toList = a.data.toList ++ b.data.toList := by simp
theorem data_length (a : ByteArray) : a.data.toList.length = a.size := by simp
theorem extract_list (s : ByteArray) (a b : Nat) : (s.extract a b).data.toList = (s.data.toList.drop a).take (b - a) := by
  rw [ByteArray.data_extract, Array.toList_extract, List.extract_eq_take_drop]

theorem chain_str (V : Nat) (w : World) (hV : U64 V) :
    Calls Try.prog 80 #[.int .u64 V] w fun e w' => ∃ s : ByteArray, s.data.toList = chain V ∧ e = .returned (.string s) ∧ Below w.heap.size w w' :=
  (chain_any V w hV).mono fun _ _ ⟨he, hb⟩ => ⟨⟨(chain V).toArray⟩, rfl, he, hb⟩
theorem rchain_str (V : Nat) (w : World) (hV : U64 V) :
    Calls Try.prog 118 #[.int .u64 V] w fun e w' => ∃ s : ByteArray, s.data.toList = chain V ∧ e = .returned (.string s) ∧ Below w.heap.size w w' :=
  (rchain_any V w hV).mono fun _ _ ⟨he, hb⟩ => ⟨⟨(chain V).toArray⟩, rfl, he, hb⟩

theorem text_any (s : ByteArray) (w : World) (hs : s.size ≤ 140737488351232) :
    Calls Try.prog 81 #[.string s] w fun e w' => e = .returned (str (text s.data.toList)) ∧ Below w.heap.size w w' := by
  have hl := chain_len64 s.size (by unfold U64; omega)
  go_enter Try.func81, Try.ntmps81
  go_wp2_with fail
  refine (chain_str s.size _ (by unfold U64; omega)).mono ?_
  rintro e w' ⟨c, hc, rfl, hb⟩
  have hcl : c.size ≤ 10 := by rw [← data_length, hc]; exact hl
  have Hc := Lib.hid hc
  clear hc hl
  go_wp2
  go_ret
  exact ⟨ret_str (by rw [data_append, Hc.out, text, data_length]), hb⟩

theorem rtext_any (s : ByteArray) (w : World) (hs : s.size ≤ 140737488351232) :
    Calls Try.prog 119 #[.string s] w fun e w' => e = .returned (str (text s.data.toList)) ∧ Below w.heap.size w w' := by
  have hl := chain_len64 s.size (by unfold U64; omega)
  go_enter Try.func119, Try.ntmps119
  go_wp2_with fail
  refine (rchain_str s.size _ (by unfold U64; omega)).mono ?_
  rintro e w' ⟨c, hc, rfl, hb⟩
  have hcl : c.size ≤ 10 := by rw [← data_length, hc]; exact hl
  have Hc := Lib.hid hc
  clear hc hl
  go_wp2
  go_ret
  exact ⟨ret_str (by rw [data_append, Hc.out, text, data_length]), hb⟩

set_option maxRecDepth 100000 in
set_option maxHeartbeats 400000 in
theorem untext_any (s : ByteArray) (most : Int) (w : World) (hs : s.size ≤ 140737488351232) (hm0 : -9223372036854775808 ≤ most) (hm1 : most ≤ 9223372036854775807) :
    Calls Try.prog 152 #[.string s, .int .i64 most] w fun e w' => e = .returned (triS (untext s.data.toList most)) ∧ w = w' := by
  obtain ⟨v, n, e, h⟩ : ∃ v n e, unchain s.data.toList = (v, n, e) := ⟨_, _, _, rfl⟩
  have hok := unchain_ok s.data.toList
  rw [h] at hok
  obtain ⟨hv, hok⟩ := hok
  have hcall : ∀ w, Calls Try.prog 131 #[.string s] w fun e' w' => e' = .returned (.tuple #[.int .u64 (v : Int), .int .i64 (n : Int), .int .i64 (e : Int)]) ∧ w = w' := fun w => by
    have := unchain_any s w (by omega)
    rw [h] at this
    exact this
  have Hcall := Lib.hid hcall
  simp only [data_length] at hok
  have hn : n ≤ 10 := by omega
  clear hcall
  by_cases he : e = 0
  · subst he
    have hns : n ≤ s.size := by omega
    clear hok
    by_cases hlong : most < 0 ∨ most < (v : Int)
    · have Hf := Lib.hid (untext_long _ most _ _ h hlong)
      clear h
      by_cases h1 : most < 0
      · clear hlong
        go_enter Try.func152, Try.ntmps152
        go_wp2_with (go_at_call 131; refine (Hcall.out _).mono ?_; rintro e w' ⟨rfl, rfl⟩)
        go_ret3
        exact ⟨by rw [Hf.out]; rfl, rfl⟩
      · have h2 : most < (v : Int) := by omega
        have hw : IntKind.u64.wrap most = most := by rw [IntKind.wrap_u64]; omega
        clear hlong
        go_enter Try.func152, Try.ntmps152
        go_wp2_with (go_at_call 131; refine (Hcall.out _).mono ?_; rintro e w' ⟨rfl, rfl⟩)
        go_ret3
        exact ⟨by rw [Hf.out]; rfl, rfl⟩
    · have h1 : ¬ most < 0 := by omega
      have h2 : ¬ most < (v : Int) := by omega
      have hw : IntKind.u64.wrap most = most := by rw [IntKind.wrap_u64]; omega
      have hw2 : IntKind.u64.wrap ((s.size : Int) - (n : Int)) = (s.size : Int) - (n : Int) := by rw [IntKind.wrap_u64]; omega
      by_cases hshort : s.size - n < v
      · have Hf := Lib.hid (untext_short _ most _ _ h hlong (by simpa using hshort))
        have hsh : (s.size : Int) - (n : Int) < (v : Int) := by omega
        clear hlong h hshort
        go_enter Try.func152, Try.ntmps152
        go_wp2_with (go_at_call 131; refine (Hcall.out _).mono ?_; rintro e w' ⟨rfl, rfl⟩)
        go_ret3
        exact ⟨by rw [Hf.out]; rfl, rfl⟩
      · have Hf := Lib.hid (untext_yes _ most _ _ h hlong (by simpa using hshort))
        have hsh : ¬ (s.size : Int) - (n : Int) < (v : Int) := by omega
        have hall : n + v ≤ s.size := by omega
        clear hlong h hshort
        go_enter Try.func152, Try.ntmps152
        go_wp2_with (go_at_call 131; refine (Hcall.out _).mono ?_; rintro e w' ⟨rfl, rfl⟩)
        go_ret3
        exact ⟨by rw [Hf.out]; exact ret_triS (by rw [extract_list, show n + v - n = v by omega]) (by go_num) rfl, rfl⟩
  · have hef : ((e : Int) != 0) = true := by rw [bne_iff_ne]; omega
    have Hf := Lib.hid (untext_err _ most _ _ _ h he)
    clear h he hok
    go_enter Try.func152, Try.ntmps152
    go_wp2_with (go_at_call 131; refine (Hcall.out _).mono ?_; rintro e w' ⟨rfl, rfl⟩)
    go_ret3
    exact ⟨by rw [Hf.out]; rfl, rfl⟩
set_option maxRecDepth 100000 in
set_option maxHeartbeats 400000 in
theorem runtext_any (s : ByteArray) (most : Int) (w : World) (hs : s.size ≤ 140737488351232) (hm0 : -9223372036854775808 ≤ most) (hm1 : most ≤ 9223372036854775807) :
    Calls Try.prog 113 #[.string s, .int .i64 most] w fun e w' => e = .returned (triS (untext s.data.toList most)) ∧ w = w' := by
  obtain ⟨v, n, e, h⟩ : ∃ v n e, unchain s.data.toList = (v, n, e) := ⟨_, _, _, rfl⟩
  have hok := unchain_ok s.data.toList
  rw [h] at hok
  obtain ⟨hv, hok⟩ := hok
  have hcall : ∀ w, Calls Try.prog 111 #[.string s] w fun e' w' => e' = .returned (.tuple #[.int .u64 (v : Int), .int .i64 (n : Int), .int .i64 (e : Int)]) ∧ w = w' := fun w => by
    have := runchain_any s w (by omega)
    rw [h] at this
    exact this
  have Hcall := Lib.hid hcall
  simp only [data_length] at hok
  have hn : n ≤ 10 := by omega
  clear hcall
  by_cases he : e = 0
  · subst he
    have hns : n ≤ s.size := by omega
    clear hok
    by_cases hlong : most < 0 ∨ most < (v : Int)
    · have Hf := Lib.hid (untext_long _ most _ _ h hlong)
      clear h
      by_cases h1 : most < 0
      · clear hlong
        go_enter Try.func113, Try.ntmps113
        go_wp2_with (go_at_call 111; refine (Hcall.out _).mono ?_; rintro e w' ⟨rfl, rfl⟩)
        go_ret3
        exact ⟨by rw [Hf.out]; rfl, rfl⟩
      · have h2 : most < (v : Int) := by omega
        have hw : IntKind.u64.wrap most = most := by rw [IntKind.wrap_u64]; omega
        clear hlong
        go_enter Try.func113, Try.ntmps113
        go_wp2_with (go_at_call 111; refine (Hcall.out _).mono ?_; rintro e w' ⟨rfl, rfl⟩)
        go_ret3
        exact ⟨by rw [Hf.out]; rfl, rfl⟩
    · have h1 : ¬ most < 0 := by omega
      have h2 : ¬ most < (v : Int) := by omega
      have hw : IntKind.u64.wrap most = most := by rw [IntKind.wrap_u64]; omega
      have hw2 : IntKind.u64.wrap ((s.size : Int) - (n : Int)) = (s.size : Int) - (n : Int) := by rw [IntKind.wrap_u64]; omega
      by_cases hshort : s.size - n < v
      · have Hf := Lib.hid (untext_short _ most _ _ h hlong (by simpa using hshort))
        have hsh : (s.size : Int) - (n : Int) < (v : Int) := by omega
        clear hlong h hshort
        go_enter Try.func113, Try.ntmps113
        go_wp2_with (go_at_call 111; refine (Hcall.out _).mono ?_; rintro e w' ⟨rfl, rfl⟩)
        go_ret3
        exact ⟨by rw [Hf.out]; rfl, rfl⟩
      · have Hf := Lib.hid (untext_yes _ most _ _ h hlong (by simpa using hshort))
        have hsh : ¬ (s.size : Int) - (n : Int) < (v : Int) := by omega
        have hall : n + v ≤ s.size := by omega
        clear hlong h hshort
        go_enter Try.func113, Try.ntmps113
        go_wp2_with (go_at_call 111; refine (Hcall.out _).mono ?_; rintro e w' ⟨rfl, rfl⟩)
        go_ret3
        exact ⟨by rw [Hf.out]; exact ret_triS (by rw [extract_list, show n + v - n = v by omega]) (by go_num) rfl, rfl⟩
  · have hef : ((e : Int) != 0) = true := by rw [bne_iff_ne]; omega
    have Hf := Lib.hid (untext_err _ most _ _ _ h he)
    clear h he hok
    go_enter Try.func113, Try.ntmps113
    go_wp2_with (go_at_call 111; refine (Hcall.out _).mono ?_; rintro e w' ⟨rfl, rfl⟩)
    go_ret3
    exact ⟨by rw [Hf.out]; rfl, rfl⟩

end Go.Proofs.Ytkekkalgebgokaa
