/- Pure laws for the statements VecTurns, VecMoves and VecOne. -/
import Derived.Test.YtaffdpgacggllaaUa
namespace Go.Proofs.Ytaffdpgacggllaa.V
open Go.RowKit Go.Proofs.YtaffdpgacggllaaW.PrintWords Go.Proofs.YtaffdpgacggllaaW.PrintLast Go.Proofs.YtaffdpgacggllaaW.PrintMore
set_option linter.unusedVariables false
set_option linter.unusedSimpArgs false

theorem turn_lenB (N : Nat) (h1 : 1 ≤ N) (h2 : N ≤ 64) : lenB (N : Int) = true := by simp [lenB]; omega
theorem turn_lenE (N : Nat) (h1 : 1 ≤ N) (h2 : N ≤ 64) (err : Int) : lenE (N : Int) err = 0 := by simp [lenE, turn_lenB N h1 h2]
theorem turn_ofV (k : Int) (N : Nat) (h1 : 1 ≤ N) (h2 : N ≤ 64) : ofV k (N : Int) = bitsOf k N := by
  simp only [ofV, turn_lenB N h1 h2, if_true, Int.toNat_natCast]; exact bits_wrap k N h2
theorem turn_numberE (k : Int) (N : Nat) (h1 : 1 ≤ N) (h2 : N ≤ 64) : numberE (bitsOf k N) = 0 := by simp [numberE, bits_isV k N h1 h2, bits_known]
theorem turn_numberV (k : Int) (N : Nat) (h1 : 1 ≤ N) (h2 : N ≤ 64) : numberV (bitsOf k N) = k % 2 ^ N := by simp [numberV, bits_isV k N h1 h2, bits_known, num_bits]
theorem ones_bits (k : Int) (N : Nat) : ones (bitsOf k N) = bitsOf k N := by
  have h : ∀ l : List Int, (∀ x ∈ l, x = 0 ∨ x = 1) → ones l = l := by
    intro l
    induction l with
    | nil => intro _; rfl
    | cons a l ih =>
      intro h
      have h1 := h a (by simp)
      have h2 := ih fun x hx => h x (by simp [hx])
      unfold ones at *
      rw [List.map_cons, h2]
      rcases h1 with rfl | rfl <;> rfl
  exact h _ (bits_mem k N)
theorem turn_toIntV (k : Int) (N : Nat) (h1 : 1 ≤ N) (h2 : N ≤ 31) : toIntV (bitsOf k N) = k % 2 ^ N := by
  simp [toIntV, bits_isV k N h1 (by omega), bitsOf_length, h2, ones_bits, num_bits]
theorem turn_toIntE (k : Int) (N : Nat) (h1 : 1 ≤ N) (h2 : N ≤ 64) : toIntE (bitsOf k N) = if N ≤ 31 then 0 else 19 := by
  by_cases h : N ≤ 31 <;> simp [toIntE, bits_isV k N h1 h2, bitsOf_length, h]
def upV (k : Int) (N M : Nat) : List Int := bitsOf k N ++ List.replicate (M - N) 0
theorem upV_length (k : Int) (N M : Nat) (h : N ≤ M) : (upV k N M).length = M := by simp [upV, bitsOf_length]; omega
theorem upV_mem (k : Int) (N M : Nat) (x : Int) (h : x ∈ upV k N M) : x = 0 ∨ x = 1 := by
  rcases List.mem_append.1 h with h | h
  · exact bits_mem k N x h
  · exact Or.inl (List.eq_of_mem_replicate h)
theorem upV_known (k : Int) (N M : Nat) : knownB (upV k N M) = true := List.all_eq_true.2 fun x hx => by rcases upV_mem k N M x hx with rfl | rfl <;> decide
theorem upV_isV (k : Int) (N M : Nat) (h1 : 1 ≤ N) (h : N ≤ M) (h2 : M ≤ 64) : isV (upV k N M) = true := by
  have e : (upV k N M).all isBit = true := List.all_eq_true.2 fun x hx => by rcases upV_mem k N M x hx with rfl | rfl <;> decide
  have l := upV_length k N M h
  simp only [isV, l, e, Bool.and_true, Bool.and_eq_true, decide_eq_true_eq]
  omega
theorem num_zeros (n : Nat) : num (List.replicate n 0) = 0 := by
  induction n with
  | zero => rfl
  | succ n ih => rw [List.replicate_succ, num, ih]; rfl
theorem turn_up (k : Int) (N M : Nat) (h1 : 1 ≤ N) (h : N ≤ M) (h2 : M ≤ 64) : resizeV (bitsOf k N) (M : Int) = upV k N M := by
  have e : (bitsOf k N).take M = bitsOf k N := List.take_of_length_le (by simp [bitsOf_length]; omega)
  simp only [resizeV, bits_isV k N h1 (by omega), turn_lenB M (by omega) h2, Bool.and_true, if_true, Int.toNat_natCast, e, bitsOf_length, upV]
theorem turn_upE (k : Int) (N M : Nat) (h1 : 1 ≤ N) (h : N ≤ M) (h2 : M ≤ 64) : resizeE (bitsOf k N) (M : Int) = 0 := by
  simp [resizeE, bits_isV k N h1 (by omega), turn_lenB M (by omega) h2]
theorem turn_down (k : Int) (N M : Nat) (h1 : 1 ≤ N) (h : N ≤ M) (h2 : M ≤ 64) : resizeV (upV k N M) (N : Int) = bitsOf k N := by
  have e : (upV k N M).take N = bitsOf k N := by
    have := List.take_left (l₁ := bitsOf k N) (l₂ := List.replicate (M - N) 0)
    rw [bitsOf_length] at this
    exact this
  have z : N - M = 0 := by omega
  simp only [resizeV, upV_isV k N M h1 h h2, turn_lenB N h1 (by omega), Bool.and_true, if_true, Int.toNat_natCast, e, upV_length k N M h, z, List.replicate_zero, List.append_nil]
theorem turn_downE (k : Int) (N M : Nat) (h1 : 1 ≤ N) (h : N ≤ M) (h2 : M ≤ 64) : resizeE (upV k N M) (N : Int) = 0 := by
  simp [resizeE, upV_isV k N M h1 h h2, turn_lenB N h1 (by omega)]
theorem turn_upN (k : Int) (N M : Nat) (h1 : 1 ≤ N) (h : N ≤ M) (h2 : M ≤ 64) : numberV (upV k N M) = k % 2 ^ N := by
  simp only [numberV, upV_isV k N M h1 h h2, upV_known, Bool.and_true, if_true]
  rw [upV, num_append, num_zeros, num_bits]; simp
theorem turn_upNE (k : Int) (N M : Nat) (h1 : 1 ≤ N) (h : N ≤ M) (h2 : M ≤ 64) : numberE (upV k N M) = 0 := by
  simp [numberE, upV_isV k N M h1 h h2, upV_known]
/- VecMoves -/
theorem moves_left (v : List Int) (hv : isV v = true) (k : Nat) (hk : k < v.length) : LeftV v (k : Int) = movedV v k := by
  have := isV_pos hv
  have e : min (k : Int) 64 = k := by omega
  simp [LeftV, hv, e]
theorem movedV_length (v : List Int) (k : Int) : (movedV v k).length = v.length := by simp [movedV]
theorem movedV_nth (v : List Int) (k : Int) (i : Nat) (hi : i < v.length) : nth (movedV v k) i = movedAt v k i := by
  rw [nth_eq _ _ (by rw [movedV_length]; exact hi)]; simp [movedV]
theorem movedV_isV (v : List Int) (hv : isV v = true) (k : Int) : isV (movedV v k) = true := by
  have h := isV_pos hv
  have e : (movedV v k).all isBit = true := by
    rw [List.all_eq_true]
    intro x hx
    simp only [movedV, List.mem_map] at hx
    obtain ⟨i, _, rfl⟩ := hx
    unfold movedAt
    split
    · have := isV_bit hv ((i : Int) - k).toNat; simpa [isBit] using this
    · decide
  simp only [isV, movedV_length, e, Bool.and_true, Bool.and_eq_true, decide_eq_true_eq]
  omega
theorem moves_right (v : List Int) (hv : isV v = true) (k : Nat) (hk : k < v.length) : RightV (movedV v k) (k : Int) = movedV (movedV v k) (-(k : Int)) := by
  have := isV_pos hv
  have e : min (k : Int) 64 = k := by omega
  simp [RightV, movedV_isV v hv, e]
theorem moves_e (v : List Int) (hv : isV v = true) (k : Nat) : shiftE v (k : Int) = 0 := by simp [shiftE, hv]
theorem moves_low (v : List Int) (k i : Nat) (h : i + k < v.length) : nth (movedV (movedV v k) (-(k : Int))) i = nth v i := by
  rw [movedV_nth _ _ _ (by rw [movedV_length]; omega)]
  unfold movedAt
  have e : ((i : Int) - -(k : Int)).toNat = i + k := by omega
  rw [movedV_length, if_pos (by omega), e, movedV_nth _ _ _ (by omega)]
  unfold movedAt
  have e2 : (((i + k : Nat) : Int) - (k : Int)).toNat = i := by omega
  rw [if_pos (by omega), e2]
theorem moves_high (v : List Int) (k i : Nat) (hi : i < v.length) (h : v.length ≤ i + k) : nth (movedV (movedV v k) (-(k : Int))) i = 0 := by
  rw [movedV_nth _ _ _ (by rw [movedV_length]; omega)]
  unfold movedAt
  rw [movedV_length, if_neg (by omega)]
def twoV (n k : Nat) : List Int := (List.replicate n (0 : Int)).set k 1
theorem twoV_length (n k : Nat) : (twoV n k).length = n := by simp [twoV]
theorem twoV_eq (n k : Nat) (h : k < n) : twoV n k = List.replicate k 0 ++ 1 :: List.replicate (n - k - 1) 0 := by
  have e : List.replicate n (0 : Int) = List.replicate k 0 ++ 0 :: List.replicate (n - k - 1) 0 := by
    rw [← List.replicate_succ, List.replicate_append_replicate]; congr 1; omega
  rw [twoV, e]
  exact set_mid (List.replicate k 0) (List.replicate (n - k - 1) 0) 0 1 k (by simp)
theorem twoV_num (n k : Nat) (h : k < n) : num (twoV n k) = 2 ^ k := by
  rw [twoV_eq n k h, num_append, num_zeros]
  simp [num, num_zeros]
theorem twoV_mem (n k : Nat) (x : Int) (h : x ∈ twoV n k) : x = 0 ∨ x = 1 := by
  rcases List.mem_or_eq_of_mem_set h with h | h
  · exact Or.inl (List.eq_of_mem_replicate h)
  · exact Or.inr h
theorem twoV_known (n k : Nat) : knownB (twoV n k) = true := List.all_eq_true.2 fun x hx => by rcases twoV_mem n k x hx with rfl | rfl <;> decide
theorem twoV_isV (n k : Nat) (h1 : 1 ≤ n) (h2 : n ≤ 64) : isV (twoV n k) = true := by
  have e : (twoV n k).all isBit = true := List.all_eq_true.2 fun x hx => by rcases twoV_mem n k x hx with rfl | rfl <;> decide
  simp only [isV, twoV_length, e, Bool.and_true, Bool.and_eq_true, decide_eq_true_eq]
  omega
theorem movedV_eq (v : List Int) (k : Nat) (hk : k ≤ v.length) : movedV v k = List.replicate k 0 ++ v.take (v.length - k) := by
  apply List.ext_getElem
  · simp [movedV_length]; omega
  · intro i h1 h2
    have hi : i < v.length := by rw [movedV_length] at h1; exact h1
    rw [← nth_eq _ _ h1, ← nth_eq _ _ h2, movedV_nth v k i hi]
    unfold movedAt
    by_cases h : k ≤ i
    · rw [if_pos (by omega)]
      have e : ((i : Int) - (k : Int)).toNat = i - k := by omega
      rw [e, nth_eq _ _ h2, List.getElem_append_right (by simp; exact h), nth_eq _ _ (by omega)]
      simp
    · rw [if_neg (by omega), nth_eq _ _ h2, List.getElem_append_left (by simp; omega)]
      simp
theorem num_take_mod (v : List Int) (h0 : Byt v) (h1 : knownB v = true) (m : Nat) (hm : m ≤ v.length) : num (v.take m) = num v % 2 ^ m := by
  have s := num_split v m
  have e : min m v.length = m := by omega
  rw [e] at s
  have b := num_bounds (v.take m) (byt_take h0 m) (known_take h1 m)
  rw [List.length_take, e] at b
  rw [s, Int.add_mul_emod_self_left, Int.emod_eq_of_lt b.1 b.2]
theorem moves_mul (v : List Int) (hv : isV v = true) (kv : knownB v = true) (bv : Byt v) (k : Nat) (hk : k < v.length) : compV mulW v (twoV v.length k) = movedV v k := by
  have l := isV_pos hv
  have p : pairB v (twoV v.length k) = true := pairB_intro hv (twoV_isV _ _ l.1 l.2.1) (twoV_length _ _).symm
  have b : bothB v (twoV v.length k) = true := by simp [bothB, kv, twoV_known]
  have e := movedV_eq v k (by omega)
  apply num_inj
  · exact compV_byt mulW p
  · rw [compV_known mulW p]; exact b
  · rw [e]; exact (Byt.replicate k (by omega) (by omega)).append (byt_take bv _)
  · rw [e]
    refine List.all_eq_true.2 fun x hx => ?_
    rcases List.mem_append.1 hx with h | h
    · rw [List.eq_of_mem_replicate h]; decide
    · exact List.all_eq_true.1 kv x (List.mem_of_mem_take h)
  · rw [compV_length mulW p, movedV_length]
  · rw [num_mul p b, twoV_num _ _ hk, e, num_append, num_zeros, num_take_mod v bv kv _ (by omega), List.length_replicate]
    have q : (2 : Int) ^ v.length = 2 ^ k * 2 ^ (v.length - k) := by rw [← Int.pow_add]; congr 1; omega
    rw [q, Int.mul_comm (num v), Int.mul_emod_mul_of_pos _ _ (pow_pos' k)]
    omega
/- VecOne -/
section
variable {xs ys : List Int}
theorem one_same (p : pairB xs ys = true) (b : bothB xs ys = true) (bx : Byt xs) (by' : Byt ys) : sameB xs ys = decide (num xs = num ys) := by
  have h := pairB_pos p
  have k : knownB xs = true ∧ knownB ys = true := by simpa [bothB] using b
  unfold sameB eqB
  rw [p, Bool.true_and]
  by_cases e : xs = ys
  · simp [e]
  · have : num xs ≠ num ys := fun n => e (num_inj xs ys bx k.1 by' k.2 h.2.2 n)
    simp [e, this]
theorem one_swap (p : pairB xs ys = true) : pairB ys xs = true := by
  have h := pairB_pos p
  exact pairB_intro h.2.1 h.1 h.2.2.symm
theorem one_bswap (p : bothB xs ys = true) : bothB ys xs = true := by
  simp only [bothB, Bool.and_eq_true] at *; exact ⟨p.2, p.1⟩
theorem one_less (p : pairB xs ys = true) (b : bothB xs ys = true) : lessB xs ys = decide (num xs < num ys) := by simp [lessB, p, b]
def flip (xs : List Int) : List Int := xs.set (xs.length - 1) (1 - nth xs (xs.length - 1))
theorem flip_length (xs : List Int) : (flip xs).length = xs.length := by simp [flip]
theorem flip_range (k : knownB xs = true) (b : Byt xs) : 0 ≤ 1 - nth xs (xs.length - 1) ∧ 1 - nth xs (xs.length - 1) ≤ 1 := by
  have h1 := known_le k (xs.length - 1)
  have h2 := (b.nth (xs.length - 1)).1
  omega
theorem flip_byt (k : knownB xs = true) (b : Byt xs) : Byt (flip xs) := by
  have h := flip_range k b
  exact b.set _ h.1 (by omega)
theorem flip_known (k : knownB xs = true) (b : Byt xs) : knownB (flip xs) = true := by
  have h := flip_range k b
  refine List.all_eq_true.2 fun x hx => ?_
  rcases List.mem_or_eq_of_mem_set hx with h' | h'
  · exact List.all_eq_true.1 k x h'
  · rw [h']; simp [le1]; omega
theorem flip_isV (v : isV xs = true) (k : knownB xs = true) (b : Byt xs) : isV (flip xs) = true := by
  have h := isV_pos v
  have r := flip_range k b
  have e : (flip xs).all isBit = true := by
    refine List.all_eq_true.2 fun x hx => ?_
    rcases List.mem_or_eq_of_mem_set hx with h' | h'
    · exact List.all_eq_true.1 h.2.2 x h'
    · rw [h']; simp [isBit]; omega
  simp only [isV, flip_length, e, Bool.and_true, Bool.and_eq_true, decide_eq_true_eq]
  omega
theorem flip_num (h1 : 1 ≤ xs.length) : num (flip xs) = sv xs + 2 ^ (xs.length - 1) := by
  have e1 := num_take_succ (flip xs) (xs.length - 1) (by rw [flip_length]; omega)
  have e2 := num_take_succ xs (xs.length - 1) (by omega)
  have t : xs.length - 1 + 1 = xs.length := by omega
  rw [t] at e1 e2
  have f1 : (flip xs).take xs.length = flip xs := List.take_of_length_le (by rw [flip_length]; omega)
  have f2 : xs.take xs.length = xs := List.take_of_length_le (by omega)
  have f3 : (flip xs).take (xs.length - 1) = xs.take (xs.length - 1) := by
    unfold flip; rw [List.take_set_of_le (by omega)]
  have f4 : nth (flip xs) (xs.length - 1) = 1 - nth xs (xs.length - 1) := by
    rw [nth_eq _ _ (by rw [flip_length]; omega)]; simp [flip]
  rw [f1, f3, f4] at e1
  rw [f2] at e2
  have q := pow_top xs.length h1
  unfold sv
  generalize nth xs (xs.length - 1) = t at *
  rw [e1, e2, q]
  rw [Int.mul_sub, Int.mul_assoc]
  generalize (2 : Int) ^ (xs.length - 1) * t = m
  omega
theorem one_turned (p : pairB xs ys = true) (b : bothB xs ys = true) (bx : Byt xs) (by' : Byt ys) : lessB (flip xs) (flip ys) = signedB xs ys := by
  have h := pairB_pos p
  have k : knownB xs = true ∧ knownB ys = true := by simpa [bothB] using b
  have l := isV_pos h.1
  have p2 : pairB (flip xs) (flip ys) = true := pairB_intro (flip_isV h.1 k.1 bx) (flip_isV h.2.1 k.2 by') (by rw [flip_length, flip_length, h.2.2])
  have b2 : bothB (flip xs) (flip ys) = true := by simp [bothB, flip_known k.1 bx, flip_known k.2 by']
  rw [one_less p2 b2, signed_sv xs ys p b bx by', flip_num l.1, flip_num (by omega), h.2.2]
  congr 1
  apply propext
  omega
theorem one_signedsame (p : pairB xs ys = true) (b : bothB xs ys = true) (bx : Byt xs) (by' : Byt ys) : sameB xs ys = decide (sv xs = sv ys) := by
  have h := pairB_pos p
  have k : knownB xs = true ∧ knownB ys = true := by simpa [bothB] using b
  have l := isV_pos h.1
  have l2 := isV_pos h.2.1
  have e := flip_num (xs := xs) l.1
  have e2 := flip_num (xs := ys) l2.1
  rw [one_same p b bx by']
  by_cases q : num xs = num ys
  · have : xs = ys := num_inj xs ys bx k.1 by' k.2 h.2.2 q
    simp [this]
  · have : sv xs ≠ sv ys := by
      intro r
      have n : num (flip xs) = num (flip ys) := by rw [e, e2, r, h.2.2]
      have f : flip xs = flip ys := num_inj _ _ (flip_byt k.1 bx) (flip_known k.1 bx) (flip_byt k.2 by') (flip_known k.2 by') (by rw [flip_length, flip_length, h.2.2]) n
      have g1 : (flip xs).take (xs.length - 1) = xs.take (xs.length - 1) := by unfold flip; rw [List.take_set_of_le (by omega)]
      have g2 : (flip ys).take (ys.length - 1) = ys.take (ys.length - 1) := by unfold flip; rw [List.take_set_of_le (by omega)]
      have g3 : nth (flip xs) (xs.length - 1) = 1 - nth xs (xs.length - 1) := by rw [nth_eq _ _ (by rw [flip_length]; omega)]; simp [flip]
      have g4 : nth (flip ys) (ys.length - 1) = 1 - nth ys (ys.length - 1) := by rw [nth_eq _ _ (by rw [flip_length]; omega)]; simp [flip]
      rw [f, h.2.2, g2] at g1
      rw [f, h.2.2, g4] at g3
      have e1 := num_take_succ xs (xs.length - 1) (by omega)
      have e3 := num_take_succ ys (ys.length - 1) (by omega)
      have t : xs.length - 1 + 1 = xs.length := by omega
      have t2 : ys.length - 1 + 1 = ys.length := by omega
      rw [t, List.take_of_length_le (Nat.le_refl _), h.2.2] at e1
      rw [t2, List.take_of_length_le (Nat.le_refl _)] at e3
      rw [← g1] at e1
      have : nth xs (ys.length - 1) = nth ys (ys.length - 1) := by omega
      rw [this] at e1
      exact q (e1.trans e3.symm)
    simp [q, this]
end
end Go.Proofs.Ytaffdpgacggllaa.V
