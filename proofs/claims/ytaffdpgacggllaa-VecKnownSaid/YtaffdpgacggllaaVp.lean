/- Pure facts on lists of bits and their numbers; no program here. -/
import Derived.Test.YtaffdpgacggllaaVw
import Derived.Laws.BitsLemmas
namespace Go.Proofs.Ytaffdpgacggllaa.V

def isBit (b : Int) : Bool := decide (b ≤ 3)
def isV (xs : List Int) : Bool := (decide (1 ≤ xs.length) && decide (xs.length ≤ 64)) && xs.all isBit
def le1 (b : Int) : Bool := decide (b ≤ 1)
def knownB (xs : List Int) : Bool := xs.all le1
/-- The number of a known vector. -/
def num : List Int → Int
  | [] => 0
  | x :: xs => x + 2 * num xs
/-- The lowest n bits of a number. -/
def bitsOf (k : Int) (n : Nat) : List Int := (List.range n).map fun i => k / 2 ^ i % 2

theorem take_succ_all {p : Int → Bool} (xs : List Int) (k : Nat) (hk : k < xs.length) : (xs.take (k + 1)).all p = ((xs.take k).all p && p (nth xs k)) := by
  rw [List.take_succ_eq_append_getElem hk, List.all_append, nth_eq _ _ hk]
  simp
theorem not_all {p : Int → Bool} (xs : List Int) (k : Nat) (hk : k < xs.length) (h : p (nth xs k) = false) : xs.all p = false := by
  rw [List.all_eq_false]
  rw [nth_eq _ _ hk] at h
  exact ⟨xs[k], List.getElem_mem hk, by simp [h]⟩
theorem isV_pos {xs : List Int} (h : isV xs = true) : 1 ≤ xs.length ∧ xs.length ≤ 64 ∧ xs.all isBit = true := by
  simp only [isV, Bool.and_eq_true, decide_eq_true_eq] at h
  exact ⟨h.1.1, h.1.2, h.2⟩
theorem isV_bit {xs : List Int} (h : isV xs = true) (k : Nat) : nth xs k ≤ 3 := by
  rcases Nat.lt_or_ge k xs.length with hk | hk
  · have := List.all_eq_true.1 (isV_pos h).2.2 _ (List.getElem_mem hk)
    rw [nth_eq _ _ hk]
    simpa [isBit] using this
  · have : nth xs k = 0 := by simp [nth, List.getD_eq_getElem?_getD, List.getElem?_eq_none hk]
    omega
theorem known_le {xs : List Int} (h : knownB xs = true) (k : Nat) : nth xs k ≤ 1 := by
  rcases Nat.lt_or_ge k xs.length with hk | hk
  · have := List.all_eq_true.1 h _ (List.getElem_mem hk)
    rw [nth_eq _ _ hk]
    simpa [le1] using this
  · have : nth xs k = 0 := by simp [nth, List.getD_eq_getElem?_getD, List.getElem?_eq_none hk]
    omega

theorem num_append (xs ys : List Int) : num (xs ++ ys) = num xs + 2 ^ xs.length * num ys := by
  induction xs with
  | nil => simp [num]
  | cons x xs ih =>
    simp only [List.cons_append, num, ih, List.length_cons, Int.pow_succ]
    rw [Int.mul_add, Int.mul_comm (2 ^ xs.length) 2, Int.mul_assoc]
    omega
theorem num_take_succ (xs : List Int) (k : Nat) (hk : k < xs.length) : num (xs.take (k + 1)) = num (xs.take k) + 2 ^ k * nth xs k := by
  rw [List.take_succ_eq_append_getElem hk, num_append, nth_eq _ _ hk]
  simp [num, List.length_take, Nat.min_eq_left (Nat.le_of_lt hk)]
theorem pow_pos' (k : Nat) : (0 : Int) < 2 ^ k := Int.pow_pos (by decide)
theorem num_bounds (xs : List Int) (h0 : Byt xs) (h1 : knownB xs = true) : 0 ≤ num xs ∧ num xs < 2 ^ xs.length := by
  induction xs with
  | nil => simp [num]
  | cons x xs ih =>
    have hx := h0 x (by simp)
    have hb : Byt xs := h0.sub (fun y hy => by simp [hy])
    simp only [knownB, List.all_cons, Bool.and_eq_true] at h1
    have := ih hb h1.2
    have hx1 : x ≤ 1 := by simpa [le1] using h1.1
    simp only [num, List.length_cons, Int.pow_succ]
    omega
theorem known_take {xs : List Int} (h : knownB xs = true) (k : Nat) : knownB (xs.take k) = true :=
  List.all_eq_true.2 fun x hx => List.all_eq_true.1 h x (List.mem_of_mem_take hx)
theorem byt_take {xs : List Int} (h : Byt xs) (k : Nat) : Byt (xs.take k) := h.sub fun _ hx => List.mem_of_mem_take hx

theorem wraps_u64 (n : Int) (h0 : 0 ≤ n) (h1 : n < 2 ^ 64) : IntKind.u64.wrap n = n := by
  simp only [IntKind.wrap, IntKind.bits, IntKind.signed]
  simp
  omega
theorem and1_u8 (x : Int) (h0 : 0 ≤ x) (h1 : x ≤ 255) : Go.bits .and .u8 x 1 = x % 2 := bits_mask .u8 8 (by decide) wraps_u8 1 (by decide) x h0 (by omega)
theorem and1_u64 (x : Int) (h0 : 0 ≤ x) (h1 : x < 18446744073709551616) : Go.bits .and .u64 x 1 = x % 2 := bits_mask .u64 64 (by decide) wraps_u64 1 (by decide) x h0 (by omega)
theorem pow_le_63 (k : Nat) (hk : k < 64) : (2 : Int) ^ k ≤ 9223372036854775808 := by
  have h : 2 ^ k ≤ 2 ^ 63 := Nat.pow_le_pow_right (by decide) (by omega)
  have h2 : ((2 ^ k : Nat) : Int) ≤ ((2 ^ 63 : Nat) : Int) := by exact_mod_cast h
  simpa using h2
theorem or_bit (k : Nat) (hk : k < 64) (a b : Int) (h0 : 0 ≤ a) (h1 : a < 2 ^ k) (b0 : 0 ≤ b) (b1 : b ≤ 1) : Go.bits .or .u64 a (b * 2 ^ k) = a + 2 ^ k * b := by
  obtain ⟨m, rfl⟩ := Int.eq_ofNat_of_zero_le h0
  obtain ⟨n, rfl⟩ := Int.eq_ofNat_of_zero_le b0
  have hm : m < 2 ^ k := by exact_mod_cast h1
  have hn : n ≤ 1 := by omega
  have hp : 2 ^ k ≤ 2 ^ 63 := Nat.pow_le_pow_right (by decide) (by omega)
  have hc : (n : Int) * 2 ^ k = ((2 ^ k * n : Nat) : Int) := by rw [Int.natCast_mul, Int.mul_comm]; simp
  have hl : 2 ^ k * n ≤ 2 ^ 63 := Nat.le_trans (Nat.mul_le_mul_left _ hn) (by omega)
  rw [hc, (bits_nat .u64 64 (by decide) wraps_u64 m (2 ^ k * n) (by omega) (by omega)).2, Nat.or_comm, ← Nat.two_pow_add_eq_or_of_lt hm n]
  simp [Int.add_comm]
theorem shl_bit (k : Nat) (hk : k < 64) (x : Int) (h0 : 0 ≤ x) (h1 : x ≤ 1) : IntKind.u64.wrap (IntKind.u64.wrap (Go.bits .and .u8 x 1) * 2 ^ k) = x * 2 ^ k := by
  rw [and1_u8 x h0 (by omega), show x % 2 = x by omega, wraps_u64 x (by omega) (by omega)]
  have := pow_le_63 k hk
  have hp := pow_pos' k
  rcases (show x = 0 ∨ x = 1 by omega) with rfl | rfl
  · rw [Int.zero_mul]; exact wraps_u64 _ (by omega) (by omega)
  · rw [Int.one_mul]; exact wraps_u64 _ (by omega) (by omega)
theorem beq_nat (m n : Nat) : ((m : Int) == (n : Int)) = decide (m = n) := by
  rw [Bool.eq_iff_iff]; simp; omega
theorem bitsOf_length (x : Int) (n : Nat) : (bitsOf x n).length = n := by simp [bitsOf]
theorem bitsOf_succ (x : Int) (n : Nat) : bitsOf x (n + 1) = bitsOf x n ++ [x / 2 ^ n % 2] := by simp [bitsOf, List.range_succ]
theorem set_mid (xs ys : List Int) (a b : Int) (k : Nat) (h : xs.length = k) : (xs ++ a :: ys).set k b = xs ++ b :: ys := by
  subst h
  induction xs with
  | nil => rfl
  | cons x xs ih => simp
theorem fill_step (xs : List Int) (k n : Nat) (h : xs.length = k) (hk : k < n) (b : Int) : (xs ++ List.replicate (n - k) 0).set k b = (xs ++ [b]) ++ List.replicate (n - (k + 1)) 0 := by
  rw [show n - k = (n - (k + 1)) + 1 by omega, List.replicate_succ, set_mid _ _ _ _ _ h]
  simp
theorem of_bit (x : Int) (k : Nat) (h0 : 0 ≤ x) (h1 : x < 18446744073709551616) : Go.bits .and .u64 (x / 2 ^ k) 1 % 256 = x / 2 ^ k % 2 := by
  have hp := pow_pos' k
  rw [and1_u64 _ (Int.ediv_nonneg h0 (by omega)) (Int.lt_of_le_of_lt (Int.ediv_le_self _ h0) h1)]
  omega
theorem mod2_byte (y : Int) : 0 ≤ y % 2 ∧ y % 2 ≤ 255 ∧ y % 2 % 256 = y % 2 := by omega
end Go.Proofs.Ytaffdpgacggllaa.V
