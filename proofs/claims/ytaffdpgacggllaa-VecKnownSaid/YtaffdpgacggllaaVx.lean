/- Contracts of the reference's functions, the fifth part: Less, Signed, Equal; two's complement. -/
import Derived.Test.YtaffdpgacggllaaVv
namespace Go.Proofs.Ytaffdpgacggllaa.V
open Go.RowKit Go.Proofs.YtaffdpgacggllaaW.PrintWords Go.Proofs.YtaffdpgacggllaaW.PrintLast Go.Proofs.YtaffdpgacggllaaW.PrintMore
attribute [local go_sem] max2_int min2_int max_two min_two
set_option linter.unusedVariables false
set_option linter.unusedSimpArgs false


theorem pow_63 (n : Nat) (h1 : 1 ≤ n) (h2 : n ≤ 64) : (2 : Int) ^ (64 - n) * 2 ^ (n - 1) = 9223372036854775808 := by
  rw [← Int.pow_add, show 64 - n + (n - 1) = 63 by omega]
  decide
theorem pow_top (n : Nat) (h1 : 1 ≤ n) : (2 : Int) ^ n = 2 * 2 ^ (n - 1) := by
  obtain ⟨m, rfl⟩ : ∃ m, n = m + 1 := ⟨n - 1, by omega⟩
  rw [Int.pow_succ, Int.mul_comm]; simp
/-- The number of a known vector by its lowest bits and its highest one. -/
theorem num_top (xs : List Int) (h1 : 1 ≤ xs.length) (bx : Byt xs) (kx : knownB xs = true) :
    ∃ L : Int, num xs = L + 2 ^ (xs.length - 1) * nth xs (xs.length - 1) ∧ 0 ≤ L ∧ L < 2 ^ (xs.length - 1) ∧ num (xs.take (xs.length - 1)) = L := by
  have e := num_take_succ xs (xs.length - 1) (by omega)
  rw [show xs.length - 1 + 1 = xs.length by omega, List.take_length] at e
  have b := num_bounds (xs.take (xs.length - 1)) (byt_take bx _) (known_take kx _)
  rw [List.length_take, Nat.min_eq_left (by omega)] at b
  exact ⟨_, e, b.1, b.2, rfl⟩
/-- The number in two's complement. -/
def sv (xs : List Int) : Int := num xs - 2 ^ xs.length * nth xs (xs.length - 1)
theorem upTo_sv (xs : List Int) (h1 : 1 ≤ xs.length) (h2 : xs.length ≤ 64) (bx : Byt xs) (kx : knownB xs = true) : upTo (64 - xs.length) (num xs) = 2 ^ (64 - xs.length) * sv xs := by
  obtain ⟨L, e, l0, l1, _⟩ := num_top xs h1 bx kx
  have hp := pow_63 xs.length h1 h2
  have ht := pow_top xs.length h1
  have t0 := (bx.nth (xs.length - 1)).1
  have t1 := known_le kx (xs.length - 1)
  have hb := num_u64 bx kx h2
  have q0 := pow_pos' (64 - xs.length)
  have hL : L * 2 ^ (64 - xs.length) < 9223372036854775808 := by
    rw [← hp, Int.mul_comm L]
    exact Int.mul_lt_mul_of_pos_left l1 q0
  have hL0 : 0 ≤ L * 2 ^ (64 - xs.length) := Int.mul_nonneg l0 (by omega)
  unfold upTo sv
  rw [ht]
  generalize nth xs (xs.length - 1) = t at *
  rcases (show t = 0 ∨ t = 1 by omega) with rfl | rfl
  · rw [Int.mul_zero, Int.add_zero] at e
    rw [e, Int.mul_zero, Int.sub_zero, wraps_u64 _ hL0 (by omega), Int.mul_comm]
    rw [Int.mul_comm] at hL hL0
    unfold wrap64; omega
  · rw [Int.mul_one] at e
    rw [e, Int.mul_one]
    have e2 : (L + 2 ^ (xs.length - 1)) * 2 ^ (64 - xs.length) = L * 2 ^ (64 - xs.length) + 9223372036854775808 := by
      rw [Int.add_mul, Int.mul_comm (2 ^ (xs.length - 1)), hp]
    rw [e2, wraps_u64 _ (by omega) (by omega)]
    have e3 : 2 ^ (64 - xs.length) * (L + 2 ^ (xs.length - 1) - 2 * 2 ^ (xs.length - 1)) = L * 2 ^ (64 - xs.length) - 9223372036854775808 := by
      rw [← hp, Int.mul_comm L, ← Int.mul_sub]
      congr 1
      omega
    rw [e3]
    unfold wrap64; omega
theorem signed_sv (xs ys : List Int) (h : pairB xs ys = true) (k : bothB xs ys = true) (bx : Byt xs) (by' : Byt ys) : signedB xs ys = decide (sv xs < sv ys) := by
  have hp := pairB_pos h
  have hn := isV_pos hp.1
  have kx : knownB xs = true := by simp only [bothB, Bool.and_eq_true] at k; exact k.1
  have ky : knownB ys = true := by simp only [bothB, Bool.and_eq_true] at k; exact k.2
  have e1 := upTo_sv xs hn.1 hn.2.1 bx kx
  have e2 := upTo_sv ys (hp.2.2 ▸ hn.1) (hp.2.2 ▸ hn.2.1) by' ky
  rw [← hp.2.2] at e2
  simp only [signedB, h, k, Bool.true_and]
  rw [e1, e2, decide_eq_decide]
  have q0 := pow_pos' (64 - xs.length)
  constructor
  · intro h3; exact Int.lt_of_mul_lt_mul_left h3 (by omega)
  · intro h3; exact Int.mul_lt_mul_of_pos_left h3 q0
theorem signed_top (xs ys : List Int) (h : pairB xs ys = true) (k : bothB xs ys = true) (bx : Byt xs) (by' : Byt ys) :
    signedB xs ys = if nth xs (xs.length - 1) = nth ys (xs.length - 1) then decide (num xs < num ys) else (nth xs (xs.length - 1) == 1) := by
  rw [signed_sv xs ys h k bx by']
  have hp := pairB_pos h
  have hn := isV_pos hp.1
  have kx : knownB xs = true := by simp only [bothB, Bool.and_eq_true] at k; exact k.1
  have ky : knownB ys = true := by simp only [bothB, Bool.and_eq_true] at k; exact k.2
  obtain ⟨L, e, l0, l1, _⟩ := num_top xs hn.1 bx kx
  obtain ⟨M, f, m0, m1, _⟩ := num_top ys (hp.2.2 ▸ hn.1) by' ky
  have ht := pow_top xs.length hn.1
  have t0 := (bx.nth (xs.length - 1)).1
  have t1 := known_le kx (xs.length - 1)
  have s0 := (by'.nth (ys.length - 1)).1
  have s1 := known_le ky (ys.length - 1)
  unfold sv
  rw [← hp.2.2] at f m1 s0 s1 ⊢
  rw [e, f, ht]
  generalize nth xs (xs.length - 1) = t at *
  generalize nth ys (xs.length - 1) = s at *
  generalize (2 : Int) ^ (xs.length - 1) = P at *
  rcases (show t = 0 ∨ t = 1 by omega) with rfl | rfl <;> rcases (show s = 0 ∨ s = 1 by omega) with rfl | rfl
  · simp
  · rw [if_neg (by decide), Bool.eq_iff_iff]; simp; omega
  · rw [if_neg (by decide), Bool.eq_iff_iff]; simp; omega
  · rw [if_pos rfl, decide_eq_decide]; omega
section
variable (xs ys : List Int) (A B : Option Addr) (c d : Nat) (w : World)
theorem refEqual_calls (hx : Rd w A xs) (hy : Rd w B ys) :
    Calls Try.prog 36 #[.slice A xs.length c, .slice B ys.length d] w fun e w' => e = .returned (.tuple #[.bool (sameB xs ys), .int .i64 (compE xs ys)]) ∧ Below w.heap.size w w' := by
  have HX := Aside0.mk hx
  have HY := Aside0.mk hy
  clear hx hy
  cases h : pairB xs ys
  · have H := Aside0.mk h
    have E2 : Aside0 (compE xs ys = 2) := ⟨by simp [compE, h]⟩
    have E3 : Aside0 (sameB xs ys = false) := ⟨by simp [sameB, h]⟩
    clear h
    go_enter Try.func36, Try.ntmps36
    go_wp2_with fail
    refine (refPair_calls _ _ _ _ _ _ _ HX.out HY.out).mono ?_
    rintro e w1 ⟨rfl, rfl⟩
    rw [H.out]
    go_wp2_with fail
    go_ret2
    exact ⟨by rw [E2.out, E3.out]; rfl, Below.refl _ _⟩
  · have H := Aside0.mk h
    have E2 : Aside0 (compE xs ys = 0) := ⟨compE_ok h⟩
    have E3 : Aside0 (sameB xs ys = eqB xs ys) := ⟨by simp [sameB, h]⟩
    clear h
    go_enter Try.func36, Try.ntmps36
    go_wp2_with fail
    refine (refPair_calls _ _ _ _ _ _ _ HX.out HY.out).mono ?_
    rintro e w1 ⟨rfl, rfl⟩
    rw [H.out]
    go_wp2_with fail
    refine (Same_below _ _ _ _ _ _ _ HX.out HY.out).mono ?_
    rintro e w1 ⟨rfl, hb⟩
    have HB := Aside0.mk hb
    clear hb
    go_wp2_with fail
    go_ret2
    exact ⟨by rw [E2.out, E3.out]; rfl, HB.out⟩
set_option maxRecDepth 100000 in
set_option maxHeartbeats 2000000 in
theorem refLess_calls (hx : Rd w A xs) (hy : Rd w B ys) :
    Calls Try.prog 34 #[.slice A xs.length c, .slice B ys.length d] w fun e w' => e = .returned (.tuple #[.bool (lessB xs ys), .int .i64 (compE xs ys)]) ∧ Below w.heap.size w w' := by
  have HX := Aside0.mk hx
  have HY := Aside0.mk hy
  clear hx hy
  cases h : pairB xs ys
  · have H := Aside0.mk h
    have E2 : Aside0 (compE xs ys = 2) := ⟨by simp [compE, h]⟩
    have E3 : Aside0 (lessB xs ys = false) := ⟨by simp [lessB, h]⟩
    clear h
    go_enter Try.func34, Try.ntmps34
    go_wp2_with fail
    refine (refPair_calls _ _ _ _ _ _ _ HX.out HY.out).mono ?_
    rintro e w1 ⟨rfl, rfl⟩
    rw [H.out]
    go_wp2_with fail
    go_ret2
    exact ⟨by rw [E2.out, E3.out]; rfl, Below.refl _ _⟩
  · have H := Aside0.mk h
    have hp := pairB_pos h
    have E2 : Aside0 (compE xs ys = 0) := ⟨compE_ok h⟩
    cases k1 : knownB xs
    · have K1 : Aside0 (sureB xs = false) := ⟨by simp [sureB, k1]⟩
      have E3 : Aside0 (lessB xs ys = false) := ⟨by simp [lessB, bothB, k1]⟩
      clear h hp k1
      go_enter Try.func34, Try.ntmps34
      go_wp2_with fail
      refine (refPair_calls _ _ _ _ _ _ _ HX.out HY.out).mono ?_
      rintro e w1 ⟨rfl, rfl⟩
      rw [H.out]
      go_wp2_with fail
      refine (refKnown2_calls _ _ _ _ HX.out).mono ?_
      rintro e w1 ⟨rfl, rfl⟩
      rw [K1.out]
      go_wp2_with fail
      go_ret2
      exact ⟨by rw [E2.out, E3.out]; rfl, Below.refl _ _⟩
    · cases k2 : knownB ys
      · have K1 : Aside0 (sureB xs = true) := ⟨by simp [sureB, k1, hp.1]⟩
        have K2 : Aside0 (sureB ys = false) := ⟨by simp [sureB, k2]⟩
        have E3 : Aside0 (lessB xs ys = false) := ⟨by simp [lessB, bothB, k2]⟩
        clear h hp k1 k2
        go_enter Try.func34, Try.ntmps34
        go_wp2_with fail
        refine (refPair_calls _ _ _ _ _ _ _ HX.out HY.out).mono ?_
        rintro e w1 ⟨rfl, rfl⟩
        rw [H.out]
        go_wp2_with fail
        refine (refKnown2_calls _ _ _ _ HX.out).mono ?_
        rintro e w1 ⟨rfl, rfl⟩
        rw [K1.out]
        go_wp2_with fail
        refine (refKnown2_calls _ _ _ _ HY.out).mono ?_
        rintro e w1 ⟨rfl, rfl⟩
        rw [K2.out]
        go_wp2_with fail
        go_ret2
        exact ⟨by rw [E2.out, E3.out]; rfl, Below.refl _ _⟩
      · have K1 : Aside0 (sureB xs = true) := ⟨by simp [sureB, k1, hp.1]⟩
        have K2 : Aside0 (sureB ys = true) := ⟨by simp [sureB, k2, hp.2.1]⟩
        have hk : bothB xs ys = true := by simp [bothB, k1, k2]
        have h64 := (isV_pos hp.1).2.1
        have hn1 := (isV_pos hp.1).1
        have HL := Aside0.mk hp.2.2
        have KK := Aside0.mk (And.intro k1 k2)
        have E3 : Aside0 (lessB xs ys = decide (num xs < num ys)) := ⟨by simp [lessB, h, hk]⟩
        clear h hp hk k1 k2
        go_enter Try.func34, Try.ntmps34
        go_wp2_with fail
        refine (refPair_calls _ _ _ _ _ _ _ HX.out HY.out).mono ?_
        rintro e w1 ⟨rfl, rfl⟩
        rw [H.out]
        go_wp2_with fail
        refine (refKnown2_calls _ _ _ _ HX.out).mono ?_
        rintro e w1 ⟨rfl, rfl⟩
        rw [K1.out]
        go_wp2_with fail
        refine (refKnown2_calls _ _ _ _ HY.out).mono ?_
        rintro e w1 ⟨rfl, rfl⟩
        rw [K2.out]
        go_wp2_with fail
        refine (before_calls _ _ _ _ _ _ _ HX.out HY.out HL.out h64 KK.out.1 KK.out.2).mono ?_
        rintro e w2 ⟨rfl, hb⟩
        have HB := Aside0.mk hb
        clear hb
        go_wp2_with fail
        go_ret2
        exact ⟨by rw [E2.out, E3.out]; rfl, HB.out⟩
set_option maxRecDepth 100000 in
set_option maxHeartbeats 2000000 in
theorem refSigned_calls (hx : Rd w A xs) (hy : Rd w B ys) :
    Calls Try.prog 35 #[.slice A xs.length c, .slice B ys.length d] w fun e w' => e = .returned (.tuple #[.bool (signedB xs ys), .int .i64 (compE xs ys)]) ∧ Below w.heap.size w w' := by
  have HX := Aside0.mk hx
  have HY := Aside0.mk hy
  clear hx hy
  cases h : pairB xs ys
  · have H := Aside0.mk h
    have E2 : Aside0 (compE xs ys = 2) := ⟨by simp [compE, h]⟩
    have E3 : Aside0 (signedB xs ys = false) := ⟨by simp [signedB, h]⟩
    clear h
    go_enter Try.func35, Try.ntmps35
    go_wp2_with fail
    refine (refPair_calls _ _ _ _ _ _ _ HX.out HY.out).mono ?_
    rintro e w1 ⟨rfl, rfl⟩
    rw [H.out]
    go_wp2_with fail
    go_ret2
    exact ⟨by rw [E2.out, E3.out]; rfl, Below.refl _ _⟩
  · have H := Aside0.mk h
    have hp := pairB_pos h
    have E2 : Aside0 (compE xs ys = 0) := ⟨compE_ok h⟩
    cases k1 : knownB xs
    · have K1 : Aside0 (sureB xs = false) := ⟨by simp [sureB, k1]⟩
      have E3 : Aside0 (signedB xs ys = false) := ⟨by simp [signedB, bothB, k1]⟩
      clear h hp k1
      go_enter Try.func35, Try.ntmps35
      go_wp2_with fail
      refine (refPair_calls _ _ _ _ _ _ _ HX.out HY.out).mono ?_
      rintro e w1 ⟨rfl, rfl⟩
      rw [H.out]
      go_wp2_with fail
      refine (refKnown2_calls _ _ _ _ HX.out).mono ?_
      rintro e w1 ⟨rfl, rfl⟩
      rw [K1.out]
      go_wp2_with fail
      go_ret2
      exact ⟨by rw [E2.out, E3.out]; rfl, Below.refl _ _⟩
    · cases k2 : knownB ys
      · have K1 : Aside0 (sureB xs = true) := ⟨by simp [sureB, k1, hp.1]⟩
        have K2 : Aside0 (sureB ys = false) := ⟨by simp [sureB, k2]⟩
        have E3 : Aside0 (signedB xs ys = false) := ⟨by simp [signedB, bothB, k2]⟩
        clear h hp k1 k2
        go_enter Try.func35, Try.ntmps35
        go_wp2_with fail
        refine (refPair_calls _ _ _ _ _ _ _ HX.out HY.out).mono ?_
        rintro e w1 ⟨rfl, rfl⟩
        rw [H.out]
        go_wp2_with fail
        refine (refKnown2_calls _ _ _ _ HX.out).mono ?_
        rintro e w1 ⟨rfl, rfl⟩
        rw [K1.out]
        go_wp2_with fail
        refine (refKnown2_calls _ _ _ _ HY.out).mono ?_
        rintro e w1 ⟨rfl, rfl⟩
        rw [K2.out]
        go_wp2_with fail
        go_ret2
        exact ⟨by rw [E2.out, E3.out]; rfl, Below.refl _ _⟩
      · have K1 : Aside0 (sureB xs = true) := ⟨by simp [sureB, k1, hp.1]⟩
        have K2 : Aside0 (sureB ys = true) := ⟨by simp [sureB, k2, hp.2.1]⟩
        have hk : bothB xs ys = true := by simp [bothB, k1, k2]
        have h64 := (isV_pos hp.1).2.1
        have hn1 := (isV_pos hp.1).1
        have HL := Aside0.mk hp.2.2
        have KK := Aside0.mk (And.intro k1 k2)
        have hs := signed_top xs ys h hk HX.out.b HY.out.b
        obtain ⟨q, hq⟩ : ∃ q : Nat, q = xs.length - 1 := ⟨_, rfl⟩
        have hqi : (xs.length : Int) - 1 = q := by omega
        have hq1 : q < xs.length := by omega
        have hq2 : q < ys.length := by have := HL.out; omega
        rw [← hq] at hs
        obtain ⟨ad, e120, hcx⟩ := HX.out.at_ q hq1
        cases e120
        obtain ⟨bd, e121, hcy⟩ := HY.out.at_ q hq2
        cases e121
        by_cases hb : nth xs q = nth ys q
        · have hbb : (nth xs q != nth ys q) = false := by simp [hb]
          have E3 : Aside0 (signedB xs ys = decide (num xs < num ys)) := ⟨by rw [hs, if_pos hb]⟩
          clear h hp hk k1 k2 hs hq hb
          go_enter Try.func35, Try.ntmps35
          go_wp2_with fail
          refine (refPair_calls _ _ _ _ _ _ _ HX.out HY.out).mono ?_
          rintro e w1 ⟨rfl, rfl⟩
          rw [H.out]
          go_wp2_with fail
          refine (refKnown2_calls _ _ _ _ HX.out).mono ?_
          rintro e w1 ⟨rfl, rfl⟩
          rw [K1.out]
          go_wp2_with fail
          refine (refKnown2_calls _ _ _ _ HY.out).mono ?_
          rintro e w1 ⟨rfl, rfl⟩
          rw [K2.out]
          go_wp2_with fail
          go_quiet (fail)
          have HX1 := Aside0.mk (HX.out.drewN nq)
          have HY1 := Aside0.mk (HY.out.drewN nq)
          go_wp2_with fail
          refine (before_calls _ _ _ _ _ _ _ HX1.out HY1.out HL.out h64 KK.out.1 KK.out.2).mono ?_
          rintro e w2 ⟨rfl, hb⟩
          have HB := Aside0.mk hb
          clear hb
          go_wp2_with fail
          go_ret2
          exact ⟨by rw [E2.out, E3.out]; rfl, below_step (below_drewN' _ _) HB.out⟩
        · have hbb : (nth xs q != nth ys q) = true := by simp [hb]
          have E3 : Aside0 (signedB xs ys = (nth xs q == 1)) := ⟨by rw [hs, if_neg hb]⟩
          clear h hp hk k1 k2 hs hq hb
          go_enter Try.func35, Try.ntmps35
          go_wp2_with fail
          refine (refPair_calls _ _ _ _ _ _ _ HX.out HY.out).mono ?_
          rintro e w1 ⟨rfl, rfl⟩
          rw [H.out]
          go_wp2_with fail
          refine (refKnown2_calls _ _ _ _ HX.out).mono ?_
          rintro e w1 ⟨rfl, rfl⟩
          rw [K1.out]
          go_wp2_with fail
          refine (refKnown2_calls _ _ _ _ HY.out).mono ?_
          rintro e w1 ⟨rfl, rfl⟩
          rw [K2.out]
          go_wp2_with fail
          go_quiet (fail)
          go_wp2_with fail
          go_ret2
          exact ⟨by rw [E2.out, E3.out]; rfl, below_drewN' _ _⟩
end
end Go.Proofs.Ytaffdpgacggllaa.V
