/- Contracts of the reference's functions, the fourth part: before, Add, Sub, Mul, Less, Signed, Equal. -/
import Derived.Test.YtaffdpgacggllaaVu
namespace Go.Proofs.Ytaffdpgacggllaa.V
open Go.RowKit Go.Proofs.YtaffdpgacggllaaW.PrintWords Go.Proofs.YtaffdpgacggllaaW.PrintLast Go.Proofs.YtaffdpgacggllaaW.PrintMore
attribute [local go_sem] max2_int min2_int max_two min_two
set_option linter.unusedVariables false
set_option linter.unusedSimpArgs false


theorem num_split (xs : List Int) (k : Nat) : num xs = num (xs.take k) + 2 ^ (min k xs.length) * num (xs.drop k) := by
  have h := num_append (xs.take k) (xs.drop k)
  rwa [List.take_append_drop, List.length_take] at h
/-- The first difference, from the top on, decides. -/
theorem before_at (xs ys : List Int) (k : Nat) (h1 : k < xs.length) (h2 : k < ys.length) (bx : Byt xs) (by' : Byt ys) (kx : knownB xs = true) (ky : knownB ys = true) (hd : xs.drop (k + 1) = ys.drop (k + 1)) (hne : nth xs k ≠ nth ys k) :
    (num xs < num ys ↔ nth xs k = 0) := by
  have e1 := num_split xs (k + 1)
  have e2 := num_split ys (k + 1)
  rw [Nat.min_eq_left (by omega), num_take_succ xs k h1] at e1
  rw [Nat.min_eq_left (by omega), num_take_succ ys k h2, ← hd] at e2
  have b1 := num_bounds (xs.take k) (byt_take bx k) (known_take kx k)
  have b2 := num_bounds (ys.take k) (byt_take by' k) (known_take ky k)
  rw [List.length_take, Nat.min_eq_left (by omega)] at b1 b2
  have x0 := (bx.nth k).1
  have x1 := known_le kx k
  have y0 := (by'.nth k).1
  have y1 := known_le ky k
  rcases (show (nth xs k = 0 ∧ nth ys k = 1) ∨ (nth xs k = 1 ∧ nth ys k = 0) by omega) with ⟨h3, h4⟩ | ⟨h3, h4⟩
  · rw [h3] at e1; rw [h4] at e2; omega
  · rw [h3] at e1; rw [h4] at e2; omega
section
variable (xs ys : List Int) (A B : Option Addr) (c d : Nat) (w : World)
set_option maxRecDepth 100000 in
set_option maxHeartbeats 1000000 in
theorem before_calls (hx : Rd w A xs) (hy : Rd w B ys) (hl : xs.length = ys.length) (h64 : xs.length ≤ 64) (kx : knownB xs = true) (ky : knownB ys = true) :
    Calls Try.prog 77 #[.slice A xs.length c, .slice B ys.length d] w fun e w' => e = .returned (.bool (decide (num xs < num ys))) ∧ Below w.heap.size w w' := by
  have HX := Aside0.mk hx
  have HY := Aside0.mk hy
  have HL := Aside0.mk hl
  have KX := Aside0.mk kx
  have KY := Aside0.mk ky
  clear hx hy hl kx ky
  go_enter Try.func77, Try.ntmps77
  go_wp2
  go_loopw [5] (fun i wr => ∃ k n : Nat, k ≤ xs.length ∧ i = .int .i64 ((k : Int) - 1) ∧ Aside0 (xs.drop k = ys.drop k) ∧ wr = w.drewN n) (fun i _ => (intOf i + 1).toNat)
  case atStart => exact ⟨xs.length, 0, Nat.le_refl _, rfl, ⟨by rw [List.drop_of_length_le (Nat.le_refl _), List.drop_of_length_le (by have := HL.out; omega)]⟩, rfl⟩
  case round =>
    obtain ⟨k, n, hk, rfl, HA, rfl⟩ := hrel
    by_cases hlt : 0 < k
    · obtain ⟨q, rfl⟩ : ∃ q, k = q + 1 := ⟨k - 1, by omega⟩
      have hq : q < xs.length := by omega
      have hq2 : q < ys.length := by have := HL.out; omega
      obtain ⟨ad, e120, hcx⟩ := HX.out.at_ q hq
      cases e120
      obtain ⟨bd, e121, hcy⟩ := HY.out.at_ q hq2
      cases e121
      have hcast : (((q + 1 : Nat) : Int) - 1) = (q : Int) := by omega
      rw [hcast]
      by_cases hb : nth xs q = nth ys q
      · have hbb : (nth xs q != nth ys q) = false := by simp [hb]
        have HE : Aside0 (xs.drop q = ys.drop q) := ⟨by rw [List.drop_eq_getElem_cons hq, List.drop_eq_getElem_cons hq2, HA.out]; rw [nth_eq _ _ hq, nth_eq _ _ hq2] at hb; rw [hb]⟩
        clear hb hcast
        go_wp2
        go_quiet (fail)
        go_wp2
        go_roundw
        case rel => exact ⟨q, _, by omega, by go_num, HE, rfl⟩
        case measure => simp [intOf]
      · have hbb : (nth xs q != nth ys q) = true := by simp [hb]
        have HE : Aside0 (decide (num xs < num ys) = (nth xs q == 0)) := ⟨by rw [Bool.eq_iff_iff, decide_eq_true_eq, beq_iff_eq]; exact before_at xs ys q hq hq2 HX.out.b HY.out.b KX.out KY.out HA.out hb⟩
        clear hb hcast
        go_wp2
        go_quiet (fail)
        go_wp2
        go_ret
        exact ⟨ret_bool (by rw [HE.out]), below_drewN' _ _⟩
    · obtain rfl : k = 0 := by omega
      have HE : Aside0 (decide (num xs < num ys) = false) := ⟨by have := HA.out; rw [List.drop_zero, List.drop_zero] at this; rw [this]; simp⟩
      have hcast : (((0 : Nat) : Int) - 1) = (-1 : Int) := by omega
      rw [hcast]
      go_wp2
      go_ret
      exact ⟨ret_bool (by rw [HE.out]), below_drewN' _ _⟩
theorem num_inv (h0 : Byt xs) (h1 : knownB xs = true) : num (invV xs) = 2 ^ xs.length - 1 - num xs := by
  induction xs with
  | nil => simp [invV, num]
  | cons x xs ih =>
    have hx := h0 x (by simp)
    have hb : Byt xs := h0.sub (fun y hy => by simp [hy])
    simp only [knownB, List.all_cons, Bool.and_eq_true] at h1
    have hx1 : x ≤ 1 := by simpa [le1] using h1.1
    have e : invV (x :: xs) = notB x :: invV xs := rfl
    rw [e, num, ih hb h1.2, List.length_cons, Int.pow_succ, num]
    rcases (show x = 0 ∨ x = 1 by omega) with rfl | rfl
    · rw [show notB 0 = 1 from rfl]; omega
    · rw [show notB 1 = 0 from rfl]; omega
theorem known_inv (h0 : Byt xs) (h1 : knownB xs = true) : knownB (invV xs) = true := List.all_eq_true.2 fun y hy => by
  simp only [invV, List.mem_map] at hy
  obtain ⟨x, hx, rfl⟩ := hy
  have := h0 x hx
  have h2 := List.all_eq_true.1 h1 x hx
  have h3 : x ≤ 1 := by simpa [le1] using h2
  rcases (show x = 0 ∨ x = 1 by omega) with rfl | rfl <;> decide
theorem sub_bits (hl : xs.length = ys.length) (h0 : Byt ys) (h1 : knownB ys = true) : bitsOf (num xs + num (invV ys) + 1) xs.length = bitsOf (num xs - num ys) xs.length := by
  refine bits_congr _ ?_
  rw [num_inv ys h0 h1, ← hl, show num xs + (2 ^ xs.length - 1 - num ys) + 1 = (num xs - num ys) + 2 ^ xs.length by omega, Int.add_emod_right]
theorem bits_wrap64 (x : Int) (n : Nat) (h : n ≤ 64) : bitsOf (wrap64 (IntKind.u64.wrap x)) n = bitsOf x n := by
  rw [← bits_wrap x n h, ← bits_mod n (wrap64 _) 64 h, ← bits_mod n (IntKind.u64.wrap x) 64 h]
  congr 1
  unfold wrap64
  omega
theorem wrap64_range (x : Int) : -9223372036854775808 ≤ wrap64 x ∧ wrap64 x ≤ 9223372036854775807 := by unfold wrap64; omega
set_option maxRecDepth 100000 in
set_option maxHeartbeats 1000000 in
theorem refAdd_calls (hx : Rd w A xs) (hy : Rd w B ys) :
    Calls Try.prog 31 #[.slice A xs.length c, .slice B ys.length d] w fun e w' => ∃ v, e = .returned (.tuple #[v, .int .i64 (compE xs ys)]) ∧ Own w' w.heap.size v (compV addW xs ys) ∧ Below w.heap.size w w' := by
  have HX := Aside0.mk hx
  have HY := Aside0.mk hy
  clear hx hy
  cases h : pairB xs ys
  · have E1 : Aside0 (compV addW xs ys = []) := ⟨by simp [compV, h]⟩
    have E2 : Aside0 (compE xs ys = 2) := ⟨by simp [compE, h]⟩
    have H := Aside0.mk h
    clear h
    go_enter Try.func31, Try.ntmps31
    go_wp2_with fail
    refine (refPair_calls _ _ _ _ _ _ _ HX.out HY.out).mono ?_
    rintro e w1 ⟨rfl, rfl⟩
    rw [H.out]
    go_wp2_with fail
    go_ret2
    exact ⟨_, by rw [E2.out]; rfl, by rw [E1.out]; exact Own.nil _ _, Below.refl _ _⟩
  · have H := Aside0.mk h
    have hp := pairB_pos h
    have hn := isV_pos hp.1
    have hn1 := hn.1
    have h64 := hn.2.1
    have E2 : Aside0 (compE xs ys = 0) := ⟨compE_ok h⟩
    have HL := Aside0.mk hp.2.2
    have V := Aside0.mk (And.intro hp.1 hp.2.1)
    cases k : bothB xs ys
    · have E1 : Aside0 (compV addW xs ys = List.replicate xs.length 2) := ⟨compV_x _ h k⟩
      cases k1 : knownB xs
      · have K1 : Aside0 (sureB xs = false) := ⟨by simp [sureB, k1]⟩
        clear h hp hn k k1
        go_enter Try.func31, Try.ntmps31
        go_wp2_with fail
        refine (refPair_calls _ _ _ _ _ _ _ HX.out HY.out).mono ?_
        rintro e w1 ⟨rfl, rfl⟩
        rw [H.out]
        go_wp2_with fail
        refine (refKnown2_calls _ _ _ _ HX.out).mono ?_
        rintro e w1 ⟨rfl, rfl⟩
        rw [K1.out]
        go_wp2_with fail
        refine (all_calls 2 xs.length _ (by omega) (by omega) h64).mono ?_
        rintro e w1 ⟨v, rfl, ho, hb⟩
        have HO := Aside0.mk ho
        have HB := Aside0.mk hb
        clear ho hb
        go_wp2_with fail
        go_ret2
        exact ⟨_, by rw [E2.out]; rfl, by rw [E1.out]; exact HO.out, HB.out⟩
      · have K1 : Aside0 (sureB xs = true) := ⟨by simp [sureB, k1, hp.1]⟩
        have K2 : Aside0 (sureB ys = false) := ⟨by simp [bothB, k1] at k; simp [sureB, k]⟩
        clear h hp hn k k1
        go_enter Try.func31, Try.ntmps31
        go_wp2_with fail
        refine (refPair_calls _ _ _ _ _ _ _ HX.out HY.out).mono ?_
        rintro e w1 ⟨rfl, rfl⟩
        rw [H.out]
        go_wp2_with fail
        refine (refKnown2_calls _ _ _ _ HX.out).mono ?_
        rintro e w1 ⟨rfl, rfl⟩
        rw [K1.out]
        go_wp2_with fail
        refine (refKnown2_calls _ _ _ _ HY.out).mono ?_
        rintro e w1 ⟨rfl, rfl⟩
        rw [K2.out]
        go_wp2_with fail
        refine (all_calls 2 xs.length _ (by omega) (by omega) h64).mono ?_
        rintro e w1 ⟨v, rfl, ho, hb⟩
        have HO := Aside0.mk ho
        have HB := Aside0.mk hb
        clear ho hb
        go_wp2_with fail
        go_ret2
        exact ⟨_, by rw [E2.out]; rfl, by rw [E1.out]; exact HO.out, HB.out⟩
    · have k1 : knownB xs = true := by simp only [bothB, Bool.and_eq_true] at k; exact k.1
      have k2 : knownB ys = true := by simp only [bothB, Bool.and_eq_true] at k; exact k.2
      have K1 : Aside0 (sureB xs = true) := ⟨by simp [sureB, k1, hp.1]⟩
      have K2 : Aside0 (sureB ys = true) := ⟨by simp [sureB, k2, hp.2.1]⟩
      have KK := Aside0.mk (And.intro k1 k2)
      have E1 : Aside0 (compV addW xs ys = bitsOf (addW (num xs) (num ys)) xs.length) := ⟨compV_k _ h k⟩
      clear h hp hn k k1 k2
      go_enter Try.func31, Try.ntmps31
      go_wp2_with fail
      refine (refPair_calls _ _ _ _ _ _ _ HX.out HY.out).mono ?_
      rintro e w1 ⟨rfl, rfl⟩
      rw [H.out]
      go_wp2_with fail
      refine (refKnown2_calls _ _ _ _ HX.out).mono ?_
      rintro e w1 ⟨rfl, rfl⟩
      rw [K1.out]
      go_wp2_with fail
      refine (refKnown2_calls _ _ _ _ HY.out).mono ?_
      rintro e w1 ⟨rfl, rfl⟩
      rw [K2.out]
      go_wp2_with fail
      refine (sum_calls _ _ _ _ _ _ _ 0 HX.out HY.out HL.out h64 KK.out.1 KK.out.2 (by omega) (by omega)).mono ?_
      rintro e w1 ⟨v, rfl, ho, hb⟩
      have HO := Aside0.mk ho
      have HB := Aside0.mk hb
      clear ho hb
      go_wp2_with fail
      go_ret2
      exact ⟨_, by rw [E2.out]; rfl, by rw [E1.out]; unfold addW; rw [bits_wrap _ _ h64]; have := HO.out; rwa [Int.add_zero] at this, HB.out⟩
set_option maxRecDepth 100000 in
set_option maxHeartbeats 1000000 in
theorem refSub_calls (hx : Rd w A xs) (hy : Rd w B ys) :
    Calls Try.prog 32 #[.slice A xs.length c, .slice B ys.length d] w fun e w' => ∃ v, e = .returned (.tuple #[v, .int .i64 (compE xs ys)]) ∧ Own w' w.heap.size v (compV subW xs ys) ∧ Below w.heap.size w w' := by
  have HX := Aside0.mk hx
  have HY := Aside0.mk hy
  clear hx hy
  cases h : pairB xs ys
  · have E1 : Aside0 (compV subW xs ys = []) := ⟨by simp [compV, h]⟩
    have E2 : Aside0 (compE xs ys = 2) := ⟨by simp [compE, h]⟩
    have H := Aside0.mk h
    clear h
    go_enter Try.func32, Try.ntmps32
    go_wp2_with fail
    refine (refPair_calls _ _ _ _ _ _ _ HX.out HY.out).mono ?_
    rintro e w1 ⟨rfl, rfl⟩
    rw [H.out]
    go_wp2_with fail
    go_ret2
    exact ⟨_, by rw [E2.out]; rfl, by rw [E1.out]; exact Own.nil _ _, Below.refl _ _⟩
  · have H := Aside0.mk h
    have hp := pairB_pos h
    have hn := isV_pos hp.1
    have hn1 := hn.1
    have h64 := hn.2.1
    have E2 : Aside0 (compE xs ys = 0) := ⟨compE_ok h⟩
    have HL := Aside0.mk hp.2.2
    have V := Aside0.mk (And.intro hp.1 hp.2.1)
    cases k : bothB xs ys
    · have E1 : Aside0 (compV subW xs ys = List.replicate xs.length 2) := ⟨compV_x _ h k⟩
      cases k1 : knownB xs
      · have K1 : Aside0 (sureB xs = false) := ⟨by simp [sureB, k1]⟩
        clear h hp hn k k1
        go_enter Try.func32, Try.ntmps32
        go_wp2_with fail
        refine (refPair_calls _ _ _ _ _ _ _ HX.out HY.out).mono ?_
        rintro e w1 ⟨rfl, rfl⟩
        rw [H.out]
        go_wp2_with fail
        refine (refKnown2_calls _ _ _ _ HX.out).mono ?_
        rintro e w1 ⟨rfl, rfl⟩
        rw [K1.out]
        go_wp2_with fail
        refine (all_calls 2 xs.length _ (by omega) (by omega) h64).mono ?_
        rintro e w1 ⟨v, rfl, ho, hb⟩
        have HO := Aside0.mk ho
        have HB := Aside0.mk hb
        clear ho hb
        go_wp2_with fail
        go_ret2
        exact ⟨_, by rw [E2.out]; rfl, by rw [E1.out]; exact HO.out, HB.out⟩
      · have K1 : Aside0 (sureB xs = true) := ⟨by simp [sureB, k1, hp.1]⟩
        have K2 : Aside0 (sureB ys = false) := ⟨by simp [bothB, k1] at k; simp [sureB, k]⟩
        clear h hp hn k k1
        go_enter Try.func32, Try.ntmps32
        go_wp2_with fail
        refine (refPair_calls _ _ _ _ _ _ _ HX.out HY.out).mono ?_
        rintro e w1 ⟨rfl, rfl⟩
        rw [H.out]
        go_wp2_with fail
        refine (refKnown2_calls _ _ _ _ HX.out).mono ?_
        rintro e w1 ⟨rfl, rfl⟩
        rw [K1.out]
        go_wp2_with fail
        refine (refKnown2_calls _ _ _ _ HY.out).mono ?_
        rintro e w1 ⟨rfl, rfl⟩
        rw [K2.out]
        go_wp2_with fail
        refine (all_calls 2 xs.length _ (by omega) (by omega) h64).mono ?_
        rintro e w1 ⟨v, rfl, ho, hb⟩
        have HO := Aside0.mk ho
        have HB := Aside0.mk hb
        clear ho hb
        go_wp2_with fail
        go_ret2
        exact ⟨_, by rw [E2.out]; rfl, by rw [E1.out]; exact HO.out, HB.out⟩
    · have k1 : knownB xs = true := by simp only [bothB, Bool.and_eq_true] at k; exact k.1
      have k2 : knownB ys = true := by simp only [bothB, Bool.and_eq_true] at k; exact k.2
      have K1 : Aside0 (sureB xs = true) := ⟨by simp [sureB, k1, hp.1]⟩
      have K2 : Aside0 (sureB ys = true) := ⟨by simp [sureB, k2, hp.2.1]⟩
      have KK := Aside0.mk (And.intro k1 k2)
      have E1 : Aside0 (compV subW xs ys = bitsOf (subW (num xs) (num ys)) xs.length) := ⟨compV_k _ h k⟩
      clear h hp hn k k1 k2
      go_enter Try.func32, Try.ntmps32
      go_wp2_with fail
      refine (refPair_calls _ _ _ _ _ _ _ HX.out HY.out).mono ?_
      rintro e w1 ⟨rfl, rfl⟩
      rw [H.out]
      go_wp2_with fail
      refine (refKnown2_calls _ _ _ _ HX.out).mono ?_
      rintro e w1 ⟨rfl, rfl⟩
      rw [K1.out]
      go_wp2_with fail
      refine (refKnown2_calls _ _ _ _ HY.out).mono ?_
      rintro e w1 ⟨rfl, rfl⟩
      rw [K2.out]
      go_wp2_with fail
      refine (refInverse_calls _ _ _ _ HY.out V.out.2).mono ?_
      rintro e w1 ⟨v, rfl, ho, hb⟩
      obtain ⟨A1, c1, rfl, _, hr⟩ := ho.reads
      have HB1 := Aside0.mk hb
      have HX1 := Aside0.mk (HX.out.below hb)
      have HI := Aside0.mk hr
      have LI : Aside0 ((invV ys).length = ys.length) := ⟨by simp [invV]⟩
      clear ho hb hr
      go_wp2_with fail
      refine (sum_calls _ _ _ _ _ _ _ 1 HX1.out HI.out (by rw [LI.out]; exact HL.out) h64 KK.out.1 (known_inv ys HY.out.b KK.out.2) (by omega) (by omega)).mono ?_
      rintro e w2 ⟨v, rfl, ho, hb⟩
      have HO := Aside0.mk ho
      have HB := Aside0.mk hb
      clear ho hb
      go_wp2_with fail
      go_ret2
      exact ⟨_, by rw [E2.out]; rfl, by rw [E1.out]; unfold subW; rw [bits_wrap _ _ h64, ← sub_bits xs ys HL.out HY.out.b KK.out.2]; exact HO.out.lower HB1.out.size, below_step HB1.out HB.out⟩
set_option maxRecDepth 100000 in
set_option maxHeartbeats 1000000 in
theorem refMul_calls (hx : Rd w A xs) (hy : Rd w B ys) :
    Calls Try.prog 33 #[.slice A xs.length c, .slice B ys.length d] w fun e w' => ∃ v, e = .returned (.tuple #[v, .int .i64 (compE xs ys)]) ∧ Own w' w.heap.size v (compV mulW xs ys) ∧ Below w.heap.size w w' := by
  have HX := Aside0.mk hx
  have HY := Aside0.mk hy
  clear hx hy
  cases h : pairB xs ys
  · have E1 : Aside0 (compV mulW xs ys = []) := ⟨by simp [compV, h]⟩
    have E2 : Aside0 (compE xs ys = 2) := ⟨by simp [compE, h]⟩
    have H := Aside0.mk h
    clear h
    go_enter Try.func33, Try.ntmps33
    go_wp2_with fail
    refine (refPair_calls _ _ _ _ _ _ _ HX.out HY.out).mono ?_
    rintro e w1 ⟨rfl, rfl⟩
    rw [H.out]
    go_wp2_with fail
    go_ret2
    exact ⟨_, by rw [E2.out]; rfl, by rw [E1.out]; exact Own.nil _ _, Below.refl _ _⟩
  · have H := Aside0.mk h
    have hp := pairB_pos h
    have hn := isV_pos hp.1
    have hn1 := hn.1
    have h64 := hn.2.1
    have E2 : Aside0 (compE xs ys = 0) := ⟨compE_ok h⟩
    have HL := Aside0.mk hp.2.2
    have V := Aside0.mk (And.intro hp.1 hp.2.1)
    cases k : bothB xs ys
    · have E1 : Aside0 (compV mulW xs ys = List.replicate xs.length 2) := ⟨compV_x _ h k⟩
      cases k1 : knownB xs
      · have K1 : Aside0 (sureB xs = false) := ⟨by simp [sureB, k1]⟩
        clear h hp hn k k1
        go_enter Try.func33, Try.ntmps33
        go_wp2_with fail
        refine (refPair_calls _ _ _ _ _ _ _ HX.out HY.out).mono ?_
        rintro e w1 ⟨rfl, rfl⟩
        rw [H.out]
        go_wp2_with fail
        refine (refKnown2_calls _ _ _ _ HX.out).mono ?_
        rintro e w1 ⟨rfl, rfl⟩
        rw [K1.out]
        go_wp2_with fail
        refine (all_calls 2 xs.length _ (by omega) (by omega) h64).mono ?_
        rintro e w1 ⟨v, rfl, ho, hb⟩
        have HO := Aside0.mk ho
        have HB := Aside0.mk hb
        clear ho hb
        go_wp2_with fail
        go_ret2
        exact ⟨_, by rw [E2.out]; rfl, by rw [E1.out]; exact HO.out, HB.out⟩
      · have K1 : Aside0 (sureB xs = true) := ⟨by simp [sureB, k1, hp.1]⟩
        have K2 : Aside0 (sureB ys = false) := ⟨by simp [bothB, k1] at k; simp [sureB, k]⟩
        clear h hp hn k k1
        go_enter Try.func33, Try.ntmps33
        go_wp2_with fail
        refine (refPair_calls _ _ _ _ _ _ _ HX.out HY.out).mono ?_
        rintro e w1 ⟨rfl, rfl⟩
        rw [H.out]
        go_wp2_with fail
        refine (refKnown2_calls _ _ _ _ HX.out).mono ?_
        rintro e w1 ⟨rfl, rfl⟩
        rw [K1.out]
        go_wp2_with fail
        refine (refKnown2_calls _ _ _ _ HY.out).mono ?_
        rintro e w1 ⟨rfl, rfl⟩
        rw [K2.out]
        go_wp2_with fail
        refine (all_calls 2 xs.length _ (by omega) (by omega) h64).mono ?_
        rintro e w1 ⟨v, rfl, ho, hb⟩
        have HO := Aside0.mk ho
        have HB := Aside0.mk hb
        clear ho hb
        go_wp2_with fail
        go_ret2
        exact ⟨_, by rw [E2.out]; rfl, by rw [E1.out]; exact HO.out, HB.out⟩
    · have k1 : knownB xs = true := by simp only [bothB, Bool.and_eq_true] at k; exact k.1
      have k2 : knownB ys = true := by simp only [bothB, Bool.and_eq_true] at k; exact k.2
      have K1 : Aside0 (sureB xs = true) := ⟨by simp [sureB, k1, hp.1]⟩
      have K2 : Aside0 (sureB ys = true) := ⟨by simp [sureB, k2, hp.2.1]⟩
      have KK := Aside0.mk (And.intro k1 k2)
      have E1 : Aside0 (compV mulW xs ys = bitsOf (mulW (num xs) (num ys)) xs.length) := ⟨compV_k _ h k⟩
      clear h hp hn k k1 k2
      go_enter Try.func33, Try.ntmps33
      go_wp2_with fail
      refine (refPair_calls _ _ _ _ _ _ _ HX.out HY.out).mono ?_
      rintro e w1 ⟨rfl, rfl⟩
      rw [H.out]
      go_wp2_with fail
      refine (refKnown2_calls _ _ _ _ HX.out).mono ?_
      rintro e w1 ⟨rfl, rfl⟩
      rw [K1.out]
      go_wp2_with fail
      refine (refKnown2_calls _ _ _ _ HY.out).mono ?_
      rintro e w1 ⟨rfl, rfl⟩
      rw [K2.out]
      go_wp2_with fail
      refine (refNumber_calls _ _ _ _ HX.out).mono ?_
      rintro e w1 ⟨rfl, rfl⟩
      rw [show numberV xs = num xs by simp [numberV, V.out.1, KK.out.1]]
      go_wp2_with fail
      refine (refNumber_calls _ _ _ _ HY.out).mono ?_
      rintro e w1 ⟨rfl, rfl⟩
      rw [show numberV ys = num ys by simp [numberV, V.out.2, KK.out.2]]
      go_wp2_with fail
      refine (bits_calls _ xs.length _ (wrap64_range _).1 (wrap64_range _).2 h64).mono ?_
      rintro e w1 ⟨v, rfl, ho, hb⟩
      have HO := Aside0.mk ho
      have HB := Aside0.mk hb
      clear ho hb
      go_wp2_with fail
      go_ret2
      exact ⟨_, by rw [E2.out]; rfl, by rw [E1.out]; unfold mulW; rw [bits_wrap _ _ h64]; have := HO.out; rwa [bits_wrap64 _ _ h64] at this, HB.out⟩
end
end Go.Proofs.Ytaffdpgacggllaa.V
