/- Pure facts on sums and products of vectors; no program here. -/
import Derived.Test.YtaffdpgacggllaaVo
namespace Go.Proofs.Ytaffdpgacggllaa.V
set_option linter.unusedVariables false

theorem emod_two_mul (k m : Int) (hm : 0 < m) : k % (2 * m) = k % 2 + 2 * ((k / 2) % m) := by
  have h1 : k = 2 * (k / 2) + k % 2 := by omega
  have h2 := Int.mul_ediv_add_emod (k / 2) m
  have h3 := Int.emod_nonneg (k / 2) (show m ≠ 0 by omega)
  have h4 := Int.emod_lt_of_pos (k / 2) hm
  have e : k = (k % 2 + 2 * ((k / 2) % m)) + (2 * m) * (k / 2 / m) := by
    rw [Int.mul_assoc]
    omega
  rw [e, Int.add_mul_emod_self_left, Int.emod_eq_of_lt (by omega) (by omega)]
  rw [← e]
theorem bitsOf_cons (k : Int) (n : Nat) : bitsOf k (n + 1) = (k % 2) :: bitsOf (k / 2) n := by
  unfold bitsOf
  rw [List.range_succ_eq_map, List.map_cons, List.map_map]
  congr 1
  · simp
  · apply List.map_congr_left
    intro i _
    simp only [Function.comp]
    rw [Int.pow_succ, Int.mul_comm, ← Int.ediv_ediv_of_nonneg (by decide)]
theorem bits_mod (n : Nat) : ∀ (k : Int) (m : Nat), n ≤ m → bitsOf (k % 2 ^ m) n = bitsOf k n := by
  induction n with
  | zero => intro k m _; rfl
  | succ n ih =>
    intro k m hm
    obtain ⟨m, rfl⟩ : ∃ j, m = j + 1 := ⟨m - 1, by omega⟩
    have h := emod_two_mul k (2 ^ m) (pow_pos' m)
    have e : (2 : Int) ^ (m + 1) = 2 * 2 ^ m := by rw [Int.pow_succ, Int.mul_comm]
    rw [bitsOf_cons, bitsOf_cons, e, h]
    have h2 : (k % 2 + 2 * (k / 2 % 2 ^ m)) % 2 = k % 2 := by omega
    have h3 : (k % 2 + 2 * (k / 2 % 2 ^ m)) / 2 = k / 2 % 2 ^ m := by omega
    rw [h2, h3, ih (k / 2) m (by omega)]
theorem num_bits (n : Nat) : ∀ k : Int, num (bitsOf k n) = k % 2 ^ n := by
  induction n with
  | zero => intro k; simp [bitsOf, num, Int.emod_one]
  | succ n ih =>
    intro k
    rw [bitsOf_cons, num, ih, show (2 : Int) ^ (n + 1) = 2 * 2 ^ n by rw [Int.pow_succ, Int.mul_comm], emod_two_mul k _ (pow_pos' n)]
theorem bits_num (xs : List Int) (h0 : Byt xs) (h1 : knownB xs = true) : bitsOf (num xs) xs.length = xs := by
  induction xs with
  | nil => rfl
  | cons x xs ih =>
    have hx := h0 x (by simp)
    have hb : Byt xs := h0.sub (fun y hy => by simp [hy])
    simp only [knownB, List.all_cons, Bool.and_eq_true] at h1
    have hx1 : x ≤ 1 := by simpa [le1] using h1.1
    rw [List.length_cons, bitsOf_cons, num, show (x + 2 * num xs) % 2 = x by omega, show (x + 2 * num xs) / 2 = num xs by omega, ih hb h1.2]
theorem num_inj (xs ys : List Int) (h0 : Byt xs) (h1 : knownB xs = true) (g0 : Byt ys) (g1 : knownB ys = true) (hl : xs.length = ys.length) (h : num xs = num ys) : xs = ys := by
  rw [← bits_num xs h0 h1, ← bits_num ys g0 g1, h, hl]
theorem bits_mem (k : Int) (n : Nat) (x : Int) (h : x ∈ bitsOf k n) : x = 0 ∨ x = 1 := by
  simp only [bitsOf, List.mem_map] at h
  obtain ⟨i, _, rfl⟩ := h
  omega
theorem bits_byt (k : Int) (n : Nat) : Byt (bitsOf k n) := fun x hx => by rcases bits_mem k n x hx with rfl | rfl <;> omega
theorem bits_known (k : Int) (n : Nat) : knownB (bitsOf k n) = true := List.all_eq_true.2 fun x hx => by rcases bits_mem k n x hx with rfl | rfl <;> decide
theorem bits_isV (k : Int) (n : Nat) (h1 : 1 ≤ n) (h2 : n ≤ 64) : isV (bitsOf k n) = true := by
  simp only [isV, bitsOf_length, h1, h2, decide_true, Bool.true_and]
  exact List.all_eq_true.2 fun x hx => by rcases bits_mem k n x hx with rfl | rfl <;> decide
theorem twos_isV (n : Nat) (h1 : 1 ≤ n) (h2 : n ≤ 64) : isV (List.replicate n 2) = true := by
  simp only [isV, List.length_replicate, h1, h2, decide_true, Bool.true_and]
  exact List.all_eq_true.2 fun x hx => by rw [List.eq_of_mem_replicate hx]; decide
theorem twos_known (n : Nat) (h1 : 1 ≤ n) : knownB (List.replicate n 2) = false := by
  obtain ⟨m, rfl⟩ : ∃ m, n = m + 1 := ⟨n - 1, by omega⟩
  simp [knownB, List.replicate_succ, le1]

theorem wrap_u64 (x : Int) : IntKind.u64.wrap x = x % 2 ^ 64 := by
  simp [IntKind.wrap, IntKind.bits, IntKind.signed]
theorem bits_wrap (x : Int) (n : Nat) (h : n ≤ 64) : bitsOf (IntKind.u64.wrap x) n = bitsOf x n := by
  rw [wrap_u64, bits_mod n x 64 h]

section
variable {xs ys : List Int}
theorem pairB_intro (h1 : isV xs = true) (h2 : isV ys = true) (h3 : xs.length = ys.length) : pairB xs ys = true := by simp [pairB, h1, h2, h3]
theorem compE_ok (h : pairB xs ys = true) : compE xs ys = 0 := by simp [compE, h]
theorem compV_x (g : Int → Int → Int) (h : pairB xs ys = true) (k : bothB xs ys = false) : compV g xs ys = List.replicate xs.length 2 := by simp [compV, h, k]
theorem compV_k (g : Int → Int → Int) (h : pairB xs ys = true) (k : bothB xs ys = true) : compV g xs ys = bitsOf (g (num xs) (num ys)) xs.length := by simp [compV, h, k]
theorem compV_length (g : Int → Int → Int) (h : pairB xs ys = true) : (compV g xs ys).length = xs.length := by
  cases k : bothB xs ys
  · rw [compV_x g h k]; simp
  · rw [compV_k g h k]; exact bitsOf_length _ _
theorem compV_isV (g : Int → Int → Int) (h : pairB xs ys = true) : isV (compV g xs ys) = true := by
  have hp := isV_pos (pairB_pos h).1
  cases k : bothB xs ys
  · rw [compV_x g h k]; exact twos_isV _ hp.1 hp.2.1
  · rw [compV_k g h k]; exact bits_isV _ _ hp.1 hp.2.1
theorem compV_known (g : Int → Int → Int) (h : pairB xs ys = true) : knownB (compV g xs ys) = bothB xs ys := by
  have hp := isV_pos (pairB_pos h).1
  cases k : bothB xs ys
  · rw [compV_x g h k]; exact twos_known _ hp.1
  · rw [compV_k g h k]; exact bits_known _ _
theorem compV_byt (g : Int → Int → Int) (h : pairB xs ys = true) : Byt (compV g xs ys) := by
  cases k : bothB xs ys
  · rw [compV_x g h k]; exact Byt.replicate _ (by omega) (by omega)
  · rw [compV_k g h k]; exact bits_byt _ _
end
theorem eqB_refl (xs : List Int) : eqB xs xs = true := by simp [eqB]
theorem eqB_of {xs ys : List Int} (h : xs = ys) : eqB xs ys = true := by simp [eqB, h]

/-! The ring's laws. -/
theorem ring_add_comm {a b : List Int} (ha : isV a = true) (hb : isV b = true) (h1 : a.length = b.length) : compV addW a b = compV addW b a := by
  have p := pairB_intro ha hb h1
  have q := pairB_intro hb ha h1.symm
  have e : bothB a b = bothB b a := Bool.and_comm _ _
  cases k : bothB a b
  · rw [compV_x _ p k, compV_x _ q (e ▸ k), h1]
  · rw [compV_k _ p k, compV_k _ q (e ▸ k), h1]; unfold addW; rw [Int.add_comm]
theorem ring_mul_comm {a b : List Int} (ha : isV a = true) (hb : isV b = true) (h1 : a.length = b.length) : compV mulW a b = compV mulW b a := by
  have p := pairB_intro ha hb h1
  have q := pairB_intro hb ha h1.symm
  have e : bothB a b = bothB b a := Bool.and_comm _ _
  cases k : bothB a b
  · rw [compV_x _ p k, compV_x _ q (e ▸ k), h1]
  · rw [compV_k _ p k, compV_k _ q (e ▸ k), h1]; unfold mulW; rw [Int.mul_comm]
theorem add_mod_left (n : Nat) (x y : Int) : (x % 2 ^ n + y) % 2 ^ n = (x + y) % 2 ^ n := Int.emod_add_emod x (2 ^ n) y
theorem add_mod_right (n : Nat) (x y : Int) : (x + y % 2 ^ n) % 2 ^ n = (x + y) % 2 ^ n := Int.add_emod_emod x y (2 ^ n)
theorem mul_mod_left (n : Nat) (x y : Int) : (x % 2 ^ n * y) % 2 ^ n = (x * y) % 2 ^ n := by rw [Int.mul_emod, Int.emod_emod_of_dvd _ (Int.dvd_refl _), ← Int.mul_emod]
theorem mul_mod_right (n : Nat) (x y : Int) : (x * (y % 2 ^ n)) % 2 ^ n = (x * y) % 2 ^ n := by rw [Int.mul_emod, Int.emod_emod_of_dvd _ (Int.dvd_refl _), ← Int.mul_emod]
theorem num_comp {a b : List Int} (g f : Int → Int → Int) (hg : ∀ x y, g x y = IntKind.u64.wrap (f x y)) (p : pairB a b = true) (k : bothB a b = true) : num (compV g a b) = f (num a) (num b) % 2 ^ a.length := by
  rw [compV_k _ p k, hg, bits_wrap _ _ (isV_pos (pairB_pos p).1).2.1, num_bits]
theorem num_add {a b : List Int} (p : pairB a b = true) (k : bothB a b = true) : num (compV addW a b) = (num a + num b) % 2 ^ a.length := num_comp addW (fun x y => x + y) (fun _ _ => rfl) p k
theorem num_mul {a b : List Int} (p : pairB a b = true) (k : bothB a b = true) : num (compV mulW a b) = (num a * num b) % 2 ^ a.length := num_comp mulW (fun x y => x * y) (fun _ _ => rfl) p k
theorem num_sub {a b : List Int} (p : pairB a b = true) (k : bothB a b = true) : num (compV subW a b) = (num a - num b) % 2 ^ a.length := num_comp subW (fun x y => x - y) (fun _ _ => rfl) p k
/-- (a o b) o c = a o (b o c), for an operation that is so of numbers. -/
theorem ring_assoc {a b c : List Int} (ha : isV a = true) (hb : isV b = true) (hc : isV c = true) (h1 : a.length = b.length) (h2 : a.length = c.length) (g : Int → Int → Int) (f : Int → Int → Int) (hg : ∀ x y, g x y = IntKind.u64.wrap (f x y)) (hl : ∀ (n : Nat) (x y : Int), f (x % 2 ^ n) y % 2 ^ n = f x y % 2 ^ n) (hr : ∀ (n : Nat) (x y : Int), f x (y % 2 ^ n) % 2 ^ n = f x y % 2 ^ n)
    (hf : ∀ x y z, f (f x y) z = f x (f y z)) : compV g (compV g a b) c = compV g a (compV g b c) := by
  have p1 := pairB_intro ha hb h1
  have p2 := pairB_intro hb hc (h1 ▸ h2)
  have l1 := compV_length g p1
  have l2 := compV_length g p2
  have q1 := pairB_intro (compV_isV g p1) hc (by rw [l1]; exact h2)
  have q2 := pairB_intro ha (compV_isV g p2) (by rw [l2]; exact h1)
  have k1 : bothB (compV g a b) c = (bothB a b && knownB c) := by unfold bothB; rw [compV_known g p1]; rfl
  have k2 : bothB a (compV g b c) = (knownB a && bothB b c) := by unfold bothB; rw [compV_known g p2]; rfl
  have k3 : (bothB a b && knownB c) = (knownB a && bothB b c) := Bool.and_assoc _ _ _
  cases k : bothB a b && knownB c
  · rw [compV_x g q1 (by rw [k1, k]), compV_x g q2 (by rw [k2, ← k3, k]), l1]
  · have ka : bothB a b = true := by simp only [Bool.and_eq_true] at k; exact k.1
    have kb : bothB b c = true := by rw [k3] at k; simp only [Bool.and_eq_true] at k; exact k.2
    refine num_inj _ _ (compV_byt _ q1) (by rw [compV_known _ q1, k1, k]) (compV_byt _ q2) (by rw [compV_known _ q2, k2, ← k3, k]) (by rw [compV_length _ q1, compV_length _ q2, l1]) ?_
    rw [num_comp g f hg q1 (by rw [k1, k]), num_comp g f hg q2 (by rw [k2, ← k3, k]), num_comp g f hg p1 ka, num_comp g f hg p2 kb, l1, ← h1, hl, hr, hf]
theorem ring_add_assoc {a b c : List Int} (ha : isV a = true) (hb : isV b = true) (hc : isV c = true) (h1 : a.length = b.length) (h2 : a.length = c.length) : compV addW (compV addW a b) c = compV addW a (compV addW b c) :=
  ring_assoc ha hb hc h1 h2 addW (fun x y => x + y) (fun _ _ => rfl) add_mod_left add_mod_right Int.add_assoc
theorem ring_mul_assoc {a b c : List Int} (ha : isV a = true) (hb : isV b = true) (hc : isV c = true) (h1 : a.length = b.length) (h2 : a.length = c.length) : compV mulW (compV mulW a b) c = compV mulW a (compV mulW b c) :=
  ring_assoc ha hb hc h1 h2 mulW (fun x y => x * y) (fun _ _ => rfl) mul_mod_left mul_mod_right Int.mul_assoc
theorem ring_distrib {a b c : List Int} (ha : isV a = true) (hb : isV b = true) (hc : isV c = true) (h1 : a.length = b.length) (h2 : a.length = c.length) (ka : knownB a = true) (kb : knownB b = true) (kc : knownB c = true) : compV mulW a (compV addW b c) = compV addW (compV mulW a b) (compV mulW a c) := by
  have p1 := pairB_intro ha hb h1
  have p2 := pairB_intro hb hc (h1 ▸ h2)
  have p3 := pairB_intro ha hc h2
  have k1 : bothB a b = true := by simp [bothB, ka, kb]
  have k2 : bothB b c = true := by simp [bothB, kb, kc]
  have k3 : bothB a c = true := by simp [bothB, ka, kc]
  have l1 := compV_length mulW p1
  have l2 := compV_length addW p2
  have l3 := compV_length mulW p3
  have q1 := pairB_intro ha (compV_isV addW p2) (by rw [l2]; exact h1)
  have q2 := pairB_intro (compV_isV mulW p1) (compV_isV mulW p3) (by rw [l1, l3])
  have r1 : bothB a (compV addW b c) = true := by unfold bothB; rw [compV_known _ p2, ka, k2]; rfl
  have r2 : bothB (compV mulW a b) (compV mulW a c) = true := by unfold bothB; rw [compV_known _ p1, compV_known _ p3, k1, k3]; rfl
  refine num_inj _ _ (compV_byt _ q1) (by rw [compV_known _ q1, r1]) (compV_byt _ q2) (by rw [compV_known _ q2, r2]) (by rw [compV_length _ q1, compV_length _ q2, l1]) ?_
  rw [num_mul q1 r1, num_add q2 r2, num_add p2 k2, num_mul p1 k1, num_mul p3 k3, l1, ← h1, mul_mod_right, add_mod_left, add_mod_right, Int.mul_add]
theorem ring_sub {a b : List Int} (ha : isV a = true) (hb : isV b = true) (h1 : a.length = b.length) (ba : Byt a) (ka : knownB a = true) (kb : knownB b = true) : compV subW (compV addW a b) b = a := by
  have p1 := pairB_intro ha hb h1
  have k1 : bothB a b = true := by simp [bothB, ka, kb]
  have l1 := compV_length addW p1
  have q1 := pairB_intro (compV_isV addW p1) hb (by rw [l1]; exact h1)
  have r1 : bothB (compV addW a b) b = true := by unfold bothB; rw [compV_known _ p1, k1, kb]; rfl
  refine num_inj _ _ (compV_byt _ q1) (by rw [compV_known _ q1, r1]) ba ka (by rw [compV_length _ q1, l1]) ?_
  have hb := num_bounds a ba ka
  rw [num_sub q1 r1, num_add p1 k1, l1, Int.emod_sub_emod, Int.add_sub_cancel, Int.emod_eq_of_lt hb.1 hb.2]
end Go.Proofs.Ytaffdpgacggllaa.V
