/- Contracts of the reference's functions, the second part: pair, known, within, sum, Not, Inverse, Number, before. -/
import Derived.Test.YtaffdpgacggllaaVs
namespace Go.Proofs.Ytaffdpgacggllaa.V
open Go.RowKit Go.Proofs.YtaffdpgacggllaaW.PrintWords Go.Proofs.YtaffdpgacggllaaW.PrintLast Go.Proofs.YtaffdpgacggllaaW.PrintMore
attribute [local go_sem] max2_int min2_int max_two min_two
set_option linter.unusedVariables false
set_option linter.unusedSimpArgs false


section
variable (xs ys : List Int) (A B : Option Addr) (c d : Nat) (w : World)
theorem refPair_calls (hx : Rd w A xs) (hy : Rd w B ys) :
    Calls Try.prog 71 #[.slice A xs.length c, .slice B ys.length d] w fun e w' => e = .returned (.bool (pairB xs ys)) ∧ w = w' := by
  have HX := Aside0.mk hx
  have HY := Aside0.mk hy
  clear hx hy
  cases h : isV xs
  · have H := Aside0.mk h
    have E : Aside0 (pairB xs ys = false) := ⟨by simp [pairB, h]⟩
    clear h
    go_enter Try.func71, Try.ntmps71
    go_wp2_with fail
    refine (refIs_calls _ _ _ _ HX.out).mono ?_
    rintro e w1 ⟨rfl, rfl⟩
    rw [H.out]
    go_wp2_with fail
    go_ret
    exact ⟨ret_bool (by rw [E.out]), rfl⟩
  · cases k : isV ys
    · have H := Aside0.mk h
      have K := Aside0.mk k
      have E : Aside0 (pairB xs ys = false) := ⟨by simp [pairB, k]⟩
      clear h k
      go_enter Try.func71, Try.ntmps71
      go_wp2_with fail
      refine (refIs_calls _ _ _ _ HX.out).mono ?_
      rintro e w1 ⟨rfl, rfl⟩
      rw [H.out]
      go_wp2_with fail
      refine (refIs_calls _ _ _ _ HY.out).mono ?_
      rintro e w1 ⟨rfl, rfl⟩
      rw [K.out]
      go_wp2_with fail
      go_ret
      exact ⟨ret_bool (by rw [E.out]), rfl⟩
    · have H := Aside0.mk h
      have K := Aside0.mk k
      have E : Aside0 (pairB xs ys = ((xs.length : Int) == (ys.length : Int))) := ⟨by rw [beq_nat]; simp [pairB, h, k]⟩
      clear h k
      go_enter Try.func71, Try.ntmps71
      go_wp2_with fail
      refine (refIs_calls _ _ _ _ HX.out).mono ?_
      rintro e w1 ⟨rfl, rfl⟩
      rw [H.out]
      go_wp2_with fail
      refine (refIs_calls _ _ _ _ HY.out).mono ?_
      rintro e w1 ⟨rfl, rfl⟩
      rw [K.out]
      go_wp2_with fail
      go_ret
      exact ⟨ret_bool (by rw [E.out]), rfl⟩
theorem refKnown2_calls (hr : Rd w A xs) : Calls Try.prog 72 #[.slice A xs.length c] w fun e w' => e = .returned (.bool (sureB xs)) ∧ w = w' := by
  have HR := Aside0.mk hr
  clear hr
  go_enter Try.func72, Try.ntmps72
  go_wp2_with fail
  refine (refKnown_calls _ _ _ _ HR.out).mono ?_
  rintro e w1 ⟨rfl, rfl⟩
  go_wp2_with fail
  go_ret
  exact ⟨rfl, rfl⟩
theorem within_calls (n h l : Int) : Calls Try.prog 87 #[.int .i64 n, .int .i64 h, .int .i64 l] w fun e w' => e = .returned (.bool (inB n h l)) ∧ w = w' := by
  by_cases h1 : 0 ≤ l
  · by_cases h2 : l ≤ h
    · have E : Aside0 (inB n h l = decide (h < n)) := ⟨by simp [inB, h1, h2]⟩
      go_enter Try.func87, Try.ntmps87
      go_wp2
      go_ret
      exact ⟨ret_bool (by rw [E.out]), rfl⟩
    · have h2' : decide (l ≤ h) = false := by simpa using h2
      have E : Aside0 (inB n h l = false) := ⟨by simp [inB, h2']⟩
      go_enter Try.func87, Try.ntmps87
      go_wp2
      go_ret
      exact ⟨ret_bool (by rw [E.out]), rfl⟩
  · have h1' : decide (0 ≤ l) = false := by simpa using h1
    have E : Aside0 (inB n h l = false) := ⟨by simp [inB, h1']⟩
    go_enter Try.func87, Try.ntmps87
    go_wp2
    go_ret
    exact ⟨ret_bool (by rw [E.out]), rfl⟩

/-- The sum of the lowest k bits, and the carry that came in. -/
def sumTo (k : Nat) (c0 : Int) : Int := num (xs.take k) + num (ys.take k) + c0
theorem sum_step (k : Nat) (c0 : Int) (h1 : k < xs.length) (h2 : k < ys.length) : sumTo xs ys (k + 1) c0 = sumTo xs ys k c0 + 2 ^ k * (nth xs k + nth ys k) := by
  unfold sumTo
  rw [num_take_succ _ _ h1, num_take_succ _ _ h2, Int.mul_add]
  omega
theorem sum_div (k : Nat) (c0 : Int) (h1 : k < xs.length) (h2 : k < ys.length) : sumTo xs ys (k + 1) c0 / 2 ^ k = sumTo xs ys k c0 / 2 ^ k + (nth xs k + nth ys k) := by
  rw [sum_step xs ys k c0 h1 h2]
  exact Int.add_mul_ediv_left _ _ (Int.ne_of_gt (pow_pos' k))
theorem bits_congr (n : Nat) {x y : Int} (h : x % 2 ^ n = y % 2 ^ n) : bitsOf x n = bitsOf y n := by
  rw [← bits_mod n x n (Nat.le_refl _), h, bits_mod n y n (Nat.le_refl _)]
theorem sum_bits (k : Nat) (c0 : Int) (h1 : k < xs.length) (h2 : k < ys.length) : bitsOf (sumTo xs ys (k + 1) c0) (k + 1) = bitsOf (sumTo xs ys k c0) k ++ [(nth xs k + nth ys k + sumTo xs ys k c0 / 2 ^ k) % 2] := by
  rw [bitsOf_succ, sum_div xs ys k c0 h1 h2]
  congr 1
  · refine bits_congr _ ?_
    rw [sum_step xs ys k c0 h1 h2, Int.add_mul_emod_self_left]
  · rw [Int.add_comm (sumTo xs ys k c0 / 2 ^ k)]
set_option maxRecDepth 100000 in
set_option maxHeartbeats 1000000 in
theorem sum_calls (c0 : Int) (hx : Rd w A xs) (hy : Rd w B ys) (hl : xs.length = ys.length) (h64 : xs.length ≤ 64) (k1 : knownB xs = true) (k2 : knownB ys = true) (c1 : 0 ≤ c0) (c2 : c0 ≤ 1) :
    Calls Try.prog 74 #[.slice A xs.length c, .slice B ys.length d, .int .u8 c0] w fun e w' => ∃ v, e = .returned v ∧ Own w' w.heap.size v (bitsOf (num xs + num ys + c0) xs.length) ∧ Below w.heap.size w w' := by
  have HB := Aside0.mk (Below.refl w.heap.size w)
  have HX := Aside0.mk hx
  have HY := Aside0.mk hy
  have HL := Aside0.mk hl
  have K1 := Aside0.mk k1
  have K2 := Aside0.mk k2
  have HC := Aside0.mk (And.intro c1 c2)
  clear hx hy hl k1 k2 c1 c2
  go_enter Try.func74, Try.ntmps74
  go_wp2
  go_loopw [2, 7, 12] (fun q v i wr => ∃ (j : Nat) (x : Int), j ≤ xs.length ∧ i = .int .i64 j ∧ q = .int .u8 x ∧ Aside0 (x = sumTo xs ys j c0 / 2 ^ j ∧ 0 ≤ x ∧ x ≤ 1) ∧ Aside0 (Own wr w.heap.size v (bitsOf (sumTo xs ys j c0) j)) ∧ Aside0 (Below w.heap.size w wr)) (fun _ _ i _ => xs.length - (intOf i).toNat)
  case atStart => exact ⟨0, c0, Nat.zero_le _, rfl, rfl, ⟨by simp [sumTo, num]; exact HC.out⟩, ⟨Own.nil _ _⟩, HB⟩
  case round =>
    clear HB
    obtain ⟨j, x, hj, rfl, rfl, HQ, HO, HB⟩ := hrel
    by_cases hlt : j < xs.length
    · have hlt2 : j < ys.length := by have := HL.out; omega
      obtain ⟨ad, e1, hc1⟩ := (HX.out.below HB.out).at_ j hlt
      cases e1
      obtain ⟨bd, e2, hc2⟩ := (HY.out.below HB.out).at_ j hlt2
      cases e2
      have a0 := (HX.out.b.nth j).1
      have a1 := known_le K1.out j
      have b0 := (HY.out.b.nth j).1
      have b1 := known_le K2.out j
      have q0 := HQ.out.2.1
      have q1 := HQ.out.2.2
      have s1 : IntKind.u8.wrap (nth xs j + nth ys j) = nth xs j + nth ys j := IntWalk.u8_in _ (by omega)
      have s2 : IntKind.u8.wrap (nth xs j + nth ys j + x) = nth xs j + nth ys j + x := IntWalk.u8_in _ (by omega)
      have p0 : 0 ≤ (nth xs j + nth ys j + x) % 2 := by omega
      have p1 : (nth xs j + nth ys j + x) % 2 ≤ 255 := by omega
      have HS := Aside0.mk (sum_bits xs ys j c0 hlt hlt2)
      have HD : Aside0 ((nth xs j + nth ys j + x) / 2 = sumTo xs ys (j + 1) c0 / 2 ^ (j + 1) ∧ 0 ≤ (nth xs j + nth ys j + x) / 2 ∧ (nth xs j + nth ys j + x) / 2 ≤ 1) := ⟨by rw [div_pow_succ, sum_div xs ys j c0 hlt hlt2, ← HQ.out.1]; omega⟩
      go_wp2_with fail
      go_quiet (fail)
      have HO' := Aside0.mk (HO.out.below (below_drewN' _ nq))
      have HB' := Aside0.mk (pw_below_drewN HB.out nq)
      clear HO HB s1 s2
      have HO := HO'
      have HB := HB'
      clear HO' HB'
      go_wp2_with (at_builtin; refine ap_bit (w0 := w) rfl (.tmp 26) (.tmp 29) 29 rfl Try.underlying29 u7 (bitsOf (sumTo xs ys j c0) j) ((nth xs j + nth ys j + x) % 2) rfl rfl ?aP ?aQ HO.out HB.out ?aL ?_; (case aP => first | assumption | omega); (case aQ => first | assumption | omega); (case aL => rw [bitsOf_length]; omega); intro v1 w1 ho hb; clear HO HB; have HO := Aside0.mk ho; have HB := Aside0.mk hb; clear ho hb)
      go_roundw
      case rel => exact ⟨j + 1, (nth xs j + nth ys j + x) / 2, by omega, by go_num, by first | rfl | (simp; done) | (simp; omega), HD, ⟨by rw [HS.out, ← HQ.out.1]; exact HO.out⟩, HB⟩
      case measure => simp [intOf]; omega
    · have HN : Aside0 (sumTo xs ys j c0 = num xs + num ys + c0 ∧ j = xs.length) := ⟨by have := HL.out; unfold sumTo; rw [List.take_of_length_le (by omega), List.take_of_length_le (by omega)]; exact ⟨rfl, by omega⟩⟩
      go_wp2
      go_ret
      exact ⟨_, rfl, by have := HO.out; rw [HN.out.1, HN.out.2] at this; exact this, HB.out⟩
end
end Go.Proofs.Ytaffdpgacggllaa.V
