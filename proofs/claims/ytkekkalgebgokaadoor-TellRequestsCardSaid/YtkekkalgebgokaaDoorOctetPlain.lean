/- Numbers and texts as bytes (layer 1), as plain functions on lists of bytes. No program in sight. -/
import Derived.Test.YtkekkalgebgokaaDoorKit
namespace Go.Proofs.YtkekkalgebgokaaDoor
open Go Go.RowKit

/-- A byte as a value of the model's. -/
def byteV (c : UInt8) : Value := .int .u8 (c.toNat : Int)
/-- A text as a value of the model's. -/
def str (l : List UInt8) : Value := .string ⟨l.toArray⟩
/-- A list of bytes as a text. -/
def bs (l : List UInt8) : ByteArray := ⟨l.toArray⟩
theorem bs_data (l : List UInt8) : (bs l).data.toList = l := rfl
theorem bs_size (l : List UInt8) : (bs l).size = l.length := by unfold bs; simp [ByteArray.size]
theorem bs_of (s : ByteArray) : bs s.data.toList = s := rfl
theorem bs_eq {s : ByteArray} {l : List UInt8} (h : s.data.toList = l) : s = bs l := by subst h; rfl
theorem str_of (s : ByteArray) : str s.data.toList = .string s := rfl
theorem ret_str {s : ByteArray} {l : List UInt8} (h : s.data.toList = l) : Ending.returned (.string s) = .returned (str l) := by subst h; rfl
theorem val_str {s : ByteArray} {l : List UInt8} (h : s.data.toList = l) : Value.string s = str l := by subst h; rfl

/-- A number that fits 64 bits (behind a name: the walk does not like the great numeral). -/
def U64 (n : Nat) : Prop := n < 18446744073709551616
/-- 'string(b)' of a row that the call owns. -/
theorem own_string {P : Program} {w : World} {base e : Nat} {v : Value} {l : List UInt8} (src dst : TypeId) (hs : P.underlying src = some (.slice e)) (he : P.underlying e = some (.int .u8)) (hd : P.underlying dst = some .string)
    (hown : w.ownsRow base e 1 v l.length (l.map byteV)) : (convert src dst v).run P w = .ok (str l) w := by
  rcases hown with ⟨_, ⟨rfl, h0⟩ | ⟨g, cap, cur, rfl, _, hh, _, _, _, htake⟩⟩
  · have : l = [] := List.length_eq_zero_iff.1 h0
    subst this
    rw [run_convert_bytes_string w src dst e none 0 0 hs he hd]
    simp [Conv.bytesToString, str]
    rfl
  · refine run_convert_bytes_back w src dst e ⟨g, 0, none⟩ cap l hs he hd (fun j hj => ?_)
    have h1 : w.cell? ((⟨g, 0, none⟩ : Addr).add j) = cur[j]? := by
      rw [addr_add0]; simp [World.cell?, hh]
    rw [h1]
    have h2 : (cur.toList.take (l.length * 1))[j]? = (l.map byteV)[j]? := by rw [htake]
    rw [List.getElem?_take_of_lt (by omega)] at h2
    simpa [List.getElem?_eq_getElem hj, byteV] using h2

def chain (v : Nat) : List UInt8 :=
  if _h : v < 128 then [UInt8.ofNat v] else UInt8.ofNat (v % 128 + 128) :: chain (v / 128)
  termination_by v
  decreasing_by omega

theorem chain_small (v : Nat) (h : v < 128) : chain v = [UInt8.ofNat v] := by rw [chain, dif_pos h]
theorem chain_big (v : Nat) (h : 128 ≤ v) : chain v = UInt8.ofNat (v % 128 + 128) :: chain (v / 128) := by rw [chain, dif_neg (by omega)]
theorem chain_pos (v : Nat) : 1 ≤ (chain v).length := by
  rw [chain]; split <;> simp
theorem chain_len (n v : Nat) (h : v < 128 ^ n) (hn : 1 ≤ n) : (chain v).length ≤ n := by
  induction n generalizing v with
  | zero => omega
  | succ n ih =>
    by_cases hv : v < 128
    · rw [chain_small v hv]; simp
    · rw [chain_big v (by omega), List.length_cons]
      have h1 : v / 128 < 128 ^ n := by
        rw [Nat.div_lt_iff_lt_mul (by omega)]; rw [Nat.pow_succ] at h; exact h
      have h2 : 1 ≤ n := by
        by_cases e : n = 0
        · subst e; simp at h; omega
        · omega
      have := ih _ h1 h2
      omega
theorem U64.div {n : Nat} (h : U64 n) (k : Nat) : U64 (n / k) := Nat.lt_of_le_of_lt (Nat.div_le_self _ _) h
theorem U64.wrap {n : Nat} (h : U64 n) : IntKind.u64.wrap (n : Int) = (n : Int) := by
  unfold U64 at h
  rw [IntKind.wrap_u64]; omega
theorem U64.wrap_div {n : Nat} (h : U64 n) (k : Nat) : IntKind.u64.wrap ((n : Int) / (k : Int)) = (n : Int) / (k : Int) := by
  have := (h.div k).wrap
  rw [Int.natCast_ediv] at this
  exact this
theorem chain_len64 (v : Nat) (h : U64 v) : (chain v).length ≤ 10 :=
  chain_len 10 v (by unfold U64 at h; omega) (by omega)

theorem byte_or (u : Nat) : bits BinOp.or IntKind.u8 ((u : Int) % (256 : Int)) (128 : Int) = ((UInt8.ofNat (u % 128 + 128)).toNat : Int) := by
  have h1 : ((u : Int) % (256 : Int)) = ((u % 256 : Nat) : Int) := by omega
  have h2 : ∀ m : Nat, m < 256 → m ||| 128 = m % 128 + 128 := by decide +kernel
  rw [h1]
  refine (u8_or_nat (u % 256) 128 (Nat.mod_lt _ (by omega)) (by omega)).trans ?_
  rw [h2 _ (Nat.mod_lt _ (by omega))]
  rw [UInt8.toNat_ofNat']
  omega
theorem byte_mod (u : Nat) (h : u < 256) : ((UInt8.ofNat u).toNat : Int) = (u : Int) := by
  rw [UInt8.toNat_ofNat']; omega

/-- The number of the chain with which some bytes begin: the number, its bytes, the error's number. -/
def unch : Nat → Nat → List UInt8 → Nat × Nat × Nat
  | i, _, [] => if 10 ≤ i then (0, 0, 3) else (0, 0, 2)
  | i, v, c :: r =>
    if 10 ≤ i then (0, 0, 3)
    else if 128 ≤ c.toNat then unch (i + 1) (v + (c.toNat - 128) * 128 ^ i) r
    else if (0 < i ∧ c.toNat = 0) ∨ (i = 9 ∧ 1 < c.toNat) then (0, 0, 3)
    else (v + c.toNat * 128 ^ i, i + 1, 0)
def unchain (l : List UInt8) : Nat × Nat × Nat := unch 0 0 l

theorem unch_ten (v : Nat) (l : List UInt8) : unch 10 v l = (0, 0, 3) := by
  cases l <;> simp [unch]
theorem unch_more (i v : Nat) (c : UInt8) (r : List UInt8) (hi : i < 10) (hc : 128 ≤ c.toNat) : unch i v (c :: r) = unch (i + 1) (v + (c.toNat - 128) * 128 ^ i) r := by
  rw [unch, if_neg (by omega), if_pos hc]
theorem unch_bad (i v : Nat) (c : UInt8) (r : List UInt8) (hi : i < 10) (hc : c.toNat < 128) (h : (0 < i ∧ c.toNat = 0) ∨ (i = 9 ∧ 1 < c.toNat)) : unch i v (c :: r) = (0, 0, 3) := by
  rw [unch, if_neg (by omega), if_neg (by omega), if_pos h]
theorem unch_last (i v : Nat) (c : UInt8) (r : List UInt8) (hi : i < 10) (hc : c.toNat < 128) (h : ¬ ((0 < i ∧ c.toNat = 0) ∨ (i = 9 ∧ 1 < c.toNat))) : unch i v (c :: r) = (v + c.toNat * 128 ^ i, i + 1, 0) := by
  rw [unch, if_neg (by omega), if_neg (by omega), if_neg h]

theorem or_place (v c k : Nat) (hv : v < 128 ^ k) : v ||| (c * 128 ^ k) = v + c * 128 ^ k := by
  have h : (128 : Nat) ^ k = 2 ^ (7 * k) := by rw [Nat.pow_mul]
  rw [h] at hv ⊢
  rw [Nat.or_comm, Nat.mul_comm, ← Nat.two_pow_add_eq_or_of_lt hv]; omega
theorem and_not_128 (c : UInt8) : bits BinOp.andNot IntKind.u8 (c.toNat : Int) (128 : Int) = ((c.toNat % 128 : Nat) : Int) := by
  have hc := c.toNat_lt
  refine (u8_andNot_nat c.toNat 128 hc (by omega)).trans ?_
  have h2 : ∀ m : Nat, m < 256 → m &&& (255 - 128) = m % 128 := by decide +kernel
  rw [h2 _ hc]
theorem and_128 (c : UInt8) : bits BinOp.and IntKind.u8 (c.toNat : Int) (128 : Int) = ((c.toNat / 128 * 128 : Nat) : Int) := by
  have hc := c.toNat_lt
  refine (u8_and_nat c.toNat 128 hc (by omega)).trans ?_
  have h2 : ∀ m : Nat, m < 256 → m &&& 128 = m / 128 * 128 := by decide +kernel
  rw [h2 _ hc]

/-- What a byte of a chain adds to the number so far. -/
theorem or_link (v : Nat) (c : UInt8) (k : Nat) (hk : k ≤ 9) (hv : v < 128 ^ k) :
    ∃ n : Nat, bits BinOp.or IntKind.u64 (v : Int) (IntKind.u64.wrap (IntKind.u64.wrap (bits BinOp.andNot IntKind.u8 (c.toNat : Int) (128 : Int)) * (2 : Int) ^ (7 * k))) = (n : Int) ∧ U64 n ∧
      (k ≤ 8 ∨ c.toNat % 128 ≤ 1 → n = v + c.toNat % 128 * 128 ^ k) := by
  have hc := c.toNat_lt
  have h : (128 : Nat) ^ k = 2 ^ (7 * k) := by rw [Nat.pow_mul]
  have hp : (128 : Nat) ^ k ≤ 128 ^ 9 := Nat.pow_le_pow_right (by omega) hk
  have hv64 : v < 18446744073709551616 := Nat.lt_of_lt_of_le hv (Nat.le_trans hp (by decide))
  have e1 : IntKind.u64.wrap (IntKind.u64.wrap (bits BinOp.andNot IntKind.u8 (c.toNat : Int) (128 : Int)) * (2 : Int) ^ (7 * k)) = ((c.toNat % 128 * 128 ^ k % 18446744073709551616 : Nat) : Int) := by
    rw [and_not_128, IntKind.wrap_u64, IntKind.wrap_u64, h]
    have : ((c.toNat % 128 : Nat) : Int) % 18446744073709551616 = ((c.toNat % 128 : Nat) : Int) := by omega
    rw [this]
    simp
  rw [e1]
  refine ⟨_, u64_or_nat _ _ hv64 (Nat.mod_lt _ (by omega)), ?_, ?_⟩
  · exact Nat.or_lt_two_pow (n := 64) hv64 (Nat.mod_lt _ (by omega))
  · intro hh
    have : c.toNat % 128 * 128 ^ k < 18446744073709551616 := by
      rcases hh with hh | hh
      · have h1 : (128 : Nat) ^ k ≤ 128 ^ 8 := Nat.pow_le_pow_right (by omega) hh
        have h2 : c.toNat % 128 * 128 ^ k ≤ 127 * 128 ^ 8 := Nat.mul_le_mul (by omega) h1
        exact Nat.lt_of_le_of_lt h2 (by decide)
      · have h2 : c.toNat % 128 * 128 ^ k ≤ 1 * 128 ^ 9 := Nat.mul_le_mul hh hp
        exact Nat.lt_of_le_of_lt h2 (by decide)
    rw [Nat.mod_eq_of_lt this]
    exact or_place v _ k hv

/-- The number that the first n bytes of a chain tell, the lowest first. -/
def lowF : List UInt8 → Nat → Nat
  | _, 0 => 0
  | [], _ + 1 => 0
  | c :: r, n + 1 => c.toNat % 128 + 128 * lowF r n
theorem lowF_lt (l : List UInt8) (n : Nat) : lowF l n < 128 ^ n := by
  induction n generalizing l with
  | zero => simp [lowF]
  | succ n ih =>
    cases l with
    | nil => simp only [lowF]; exact Nat.pow_pos (by omega)
    | cons c r =>
      simp only [lowF]
      have := ih r
      have h1 : c.toNat % 128 < 128 := Nat.mod_lt _ (by omega)
      rw [Nat.pow_succ]
      omega
theorem lowF_top (l : List UInt8) (n : Nat) (c : UInt8) (h : l[n]? = some c) (hc : c.toNat ≤ 1) : lowF l (n + 1) < 2 * 128 ^ n := by
  induction n generalizing l with
  | zero =>
    match l, h with
    | x :: r, h =>
      obtain rfl : x = c := by simpa using h
      simp only [lowF]
      omega
  | succ n ih =>
    match l, h with
    | x :: r, h =>
      have := ih r (by simpa using h)
      rw [lowF]
      have h1 : x.toNat % 128 < 128 := Nat.mod_lt _ (by omega)
      rw [Nat.pow_succ]
      omega
theorem unch_run (n i v : Nat) (l : List UInt8) (hn : n ≤ l.length) (hi : i + n ≤ 10) (h : ∀ j c, j < n → l[j]? = some c → 128 ≤ c.toNat) : unch i v l = unch (i + n) (v + 128 ^ i * lowF l n) (l.drop n) := by
  induction n generalizing i v l with
  | zero => simp [lowF]
  | succ n ih =>
    match l, hn with
    | c :: r, hn =>
      have hc := h 0 c (by omega) (by simp)
      have h256 := c.toNat_lt
      rw [unch_more i v c r (by omega) hc, ih (i + 1) _ r (by simpa using hn) (by omega) (fun j d hj hd => h (j + 1) d (by omega) (by simpa using hd))]
      rw [List.drop_succ_cons, show i + 1 + n = i + (n + 1) by omega]
      congr 1
      rw [lowF, show c.toNat % 128 = c.toNat - 128 by omega, Nat.pow_succ, Nat.mul_add, Nat.mul_comm (c.toNat - 128)]
      rw [Nat.mul_assoc, Nat.add_assoc]

theorem lowF_snoc (l : List UInt8) (n : Nat) (c : UInt8) (h : l[n]? = some c) (hc : c.toNat < 128) : lowF l (n + 1) = lowF l n + c.toNat * 128 ^ n := by
  induction n generalizing l with
  | zero =>
    match l, h with
    | x :: r, h =>
      obtain rfl : x = c := by simpa using h
      simp only [lowF]
      omega
  | succ n ih =>
    match l, h with
    | x :: r, h =>
      have := ih r (by simpa using h)
      rw [lowF, this, lowF, Nat.pow_succ, Nat.mul_add, Nat.mul_left_comm, Nat.mul_comm (128 ^ n)]
      rw [Nat.add_assoc]
/-- One step of the reckoning from the highest byte down: no number outgrows 64 bits. -/
theorem lowF_step (l : List UInt8) (k q : Nat) (c : UInt8) (hc : l[k]? = some c) (hk : k ≤ 9) (htop : k = 9 → c.toNat ≤ 1) (d : UInt8) (hd : l[q]? = some d) (hq : q ≤ k) :
    lowF (l.drop q) (k + 1 - q) = lowF (l.drop (q + 1)) (k - q) * 128 + d.toNat % 128 ∧ U64 (lowF (l.drop q) (k + 1 - q)) := by
  have hlt : q < l.length := (List.getElem?_eq_some_iff.1 hd).1
  have e : l.drop q = d :: l.drop (q + 1) := by
    rw [List.drop_eq_getElem_cons hlt]
    rw [List.getElem?_eq_getElem hlt] at hd
    rw [Option.some.inj hd]
  constructor
  · rw [e, show k + 1 - q = (k - q) + 1 by omega, lowF]; omega
  · unfold U64
    by_cases h9 : k = 9 ∧ q = 0
    · obtain ⟨rfl, rfl⟩ := h9
      have := lowF_top l 9 c hc (htop rfl)
      simpa using this
    · have h1 := lowF_lt (l.drop q) (k + 1 - q)
      have h2 : (128 : Nat) ^ (k + 1 - q) ≤ 128 ^ 9 := Nat.pow_le_pow_right (by omega) (by omega)
      exact Nat.lt_of_lt_of_le h1 (Nat.le_trans h2 (by decide))

end Go.Proofs.YtkekkalgebgokaaDoor
