/- The walk of the statement VecQuotients. -/
import Derived.Test.YtaffdpgacggllaaVn
namespace Go.Proofs.Ytaffdpgacggllaa.V
open Go.RowKit Go.Proofs.YtaffdpgacggllaaW.PrintWords Go.Proofs.YtaffdpgacggllaaW.PrintLast Go.Proofs.YtaffdpgacggllaaW.PrintMore
set_option linter.unusedVariables false
set_option linter.unusedSimpArgs false

theorem tl43 : (ByteArray.mk #[43]).toList = [43] := by decide +kernel
theorem tl45 : (ByteArray.mk #[45]).toList = [45] := by decide +kernel
theorem tl47 : (ByteArray.mk #[47]).toList = [47] := by decide +kernel
theorem tlmod : (ByteArray.mk #[109, 111, 100]).toList = [109, 111, 100] := by decide +kernel
theorem intE_bad (l : List UInt8) (a b : Int) (h : (fits a && fits b) = false) : intE l a b = 2 := by simp only [intE, h]; simp
theorem intE_op (l : List UInt8) (a b r : Int) (fa : fits a = true) (fb : fits b = true) (ho : opB l = true) (hd : (divB l && decide (b = 0)) = false) (hr : rawI l a b = r) : intE l a b = if fits r = false then 19 else 0 := by
  simp only [intE, fa, fb, ho, hd, hr]; simp
theorem intE_zero (l : List UInt8) (a b : Int) (fa : fits a = true) (fb : fits b = true) (ho : opB l = true) (hd : divB l = true) (hb : b = 0) : intE l a b = 20 := by
  subst hb; simp only [intE, fa, fb, ho, hd]; simp
theorem intV_ok (l : List UInt8) (a b r : Int) (h : intE l a b = 0) (hr : rawI l a b = r) : intV l a b = r := by simp only [intV, h, hr]; simp
theorem intV_no (l : List UInt8) (a b : Int) (h : intE l a b ≠ 0) : intV l a b = 0 := by simp only [intV]; rw [if_neg h]
theorem vecInt_to (op : ByteArray) (a b : Int) (w : World) (v e : Int) (hv : intV op.toList a b = v) (he : intE op.toList a b = e) :
    Calls Try.prog 15 #[.string op, .int .i64 a, .int .i64 b] w fun x w' => x = .returned (.tuple #[.int .i64 v, .int .i64 e]) ∧ w = w' := by
  rw [← hv, ← he]; exact vecInt_calls op a b w
theorem fits_mod (a b : Int) (hb : b ≠ 0) (h : fits b = true) : fits (a - b * fl a b) = true := by
  have h1 := fl_spec a b hb
  have h2 := fits_iff.1 h
  refine fits_iff.2 ?_
  rcases Int.lt_or_le b 0 with hb2 | hb2
  · have := h1.2 hb2; omega
  · have := h1.1 (by omega); omega
/-- The one quotient that is out of range. -/
theorem fl_out (a b : Int) (hb : b ≠ 0) (fa : fits a = true) (fb : fits b = true) (h : fits (fl a b) = false) : a = -2147483648 ∧ b = -1 := by
  obtain ⟨a0, a1⟩ := fits_iff.1 fa
  obtain ⟨b0, b1⟩ := fits_iff.1 fb
  have hs := fl_spec a b hb
  rcases fits_no h with h2 | h2
  · exfalso
    rcases Int.lt_or_le b 0 with hb2 | hb2
    · have h3 := hs.2 hb2
      have h4 : (-b) * 2147483649 ≤ (-b) * (-(fl a b)) := Int.mul_le_mul_of_nonneg_left (by omega) (by omega)
      rw [Int.neg_mul_neg] at h4
      omega
    · have h3 := hs.1 (by omega)
      have h4 : b * 2147483649 ≤ b * (-(fl a b)) := Int.mul_le_mul_of_nonneg_left (by omega) (by omega)
      rw [Int.mul_neg] at h4
      omega
  · rcases Int.lt_or_le b 0 with hb2 | hb2
    · have h3 := hs.2 hb2
      by_cases hb3 : b = -1
      · subst hb3
        have h4 := fl_range a (-1) (by omega) a0 a1 (by omega) (by omega)
        omega
      · exfalso
        have h4 : (-b) * fl a b ≥ 2 * 2147483648 := Int.mul_le_mul (by omega) (by omega) (by omega) (by omega)
        rw [Int.neg_mul] at h4
        omega
    · exfalso
      have h3 := hs.1 (by omega)
      have h4 : b * fl a b ≥ 1 * 2147483648 := Int.mul_le_mul (by omega) (by omega) (by omega) (by omega)
      omega

set_option maxRecDepth 100000 in
set_option maxHeartbeats 4000000 in
theorem quot_bad (w : World) (a b : Int) (h : (fits a && fits b) = false) :
    Calls Try.prog 4 #[.int .i64 a, .int .i64 b] w fun e w' => e = .returned (.bool true) ∧ Below w.heap.size w w' := by
  have E : Aside0 (intE [43] a b = 2) := ⟨intE_bad _ _ _ h⟩
  have V : Aside0 (intV [43] a b = 0) := ⟨intV_no _ _ _ (by rw [E.out]; decide)⟩
  cases fa : fits a <;> cases fb : fits b
  case true.true => rw [fa, fb] at h; exact absurd h (by decide)
  all_goals
    clear h
    go_enter Try.func4, Try.ntmps4
    go_wp2_with (first | (go_at_call 18; refine (refFits_calls _ _).mono ?_; rintro e w' ⟨rfl, rfl⟩))
    refine (vecInt_to _ _ _ _ 0 2 (by rw [tl43, V.out]) (by rw [tl43, E.out])).mono ?_
    rintro e w1 ⟨rfl, rfl⟩
    go_wp2_with fail
    refine (awake_calls _).mono ?_
    rintro e w1 ⟨rfl, hb⟩
    have HB := Aside0.mk hb
    clear hb
    go_wp2_with fail
    go_ret
    exact ⟨rfl, HB.out⟩
set_option maxRecDepth 100000 in
set_option maxHeartbeats 4000000 in
theorem quot_zero (w : World) (a b : Int) (fa : fits a = true) (fb : fits b = true) (hb : b = 0) :
    Calls Try.prog 4 #[.int .i64 a, .int .i64 b] w fun e w' => e = .returned (.bool true) ∧ Below w.heap.size w w' := by
  subst hb
  have e1 : intE [43] a 0 = 0 := by rw [intE_op [43] a 0 a fa fb (by decide) (by decide) (by simp [rawI]), fa]; rfl
  have e2 : intE [45] a 0 = 0 := by rw [intE_op [45] a 0 a fa fb (by decide) (by decide) (by simp [rawI]), fa]; rfl
  have e3 : intE [47] a 0 = 20 := intE_zero _ _ _ fa fb (by decide) (by decide) rfl
  have e4 : intE [109, 111, 100] a 0 = 20 := intE_zero _ _ _ fa fb (by decide) (by decide) rfl
  have E := Aside0.mk (And.intro e1 (And.intro e2 (And.intro e3 e4)))
  have V1 := Aside0.mk (intV_ok [43] a 0 a e1 (by simp [rawI]))
  have V2 := Aside0.mk (intV_ok [45] a 0 a e2 (by simp [rawI]))
  have V3 := Aside0.mk (intV_no [47] a 0 (by rw [e3]; decide))
  have V4 := Aside0.mk (intV_no [109, 111, 100] a 0 (by rw [e4]; decide))
  clear e1 e2 e3 e4
  have f0 : fits 0 = true := rfl
  go_enter Try.func4, Try.ntmps4
  go_wp2_with (first | (go_at_call 18; refine (refFits_calls _ _).mono ?_; rintro e w' ⟨rfl, rfl⟩))
  refine (vecInt_to _ _ _ _ a 0 (by rw [tl43, V1.out]) (by rw [tl43, E.out.1])).mono ?_
  rintro e w1 ⟨rfl, rfl⟩
  go_wp2_with fail
  refine (vecInt_to _ _ _ _ a 0 (by rw [tl45, V2.out]) (by rw [tl45, E.out.2.1])).mono ?_
  rintro e w1 ⟨rfl, rfl⟩
  go_wp2_with fail
  refine (vecInt_to _ _ _ _ 0 20 (by rw [tl47, V3.out]) (by rw [tl47, E.out.2.2.1])).mono ?_
  rintro e w1 ⟨rfl, rfl⟩
  go_wp2_with fail
  refine (vecInt_to _ _ _ _ 0 20 (by rw [tlmod, V4.out]) (by rw [tlmod, E.out.2.2.2])).mono ?_
  rintro e w1 ⟨rfl, rfl⟩
  go_wp2_with fail
  refine (awake_calls _).mono ?_
  rintro e w1 ⟨rfl, hb⟩
  have HB := Aside0.mk hb
  clear hb
  go_wp2_with fail
  go_ret
  exact ⟨rfl, HB.out⟩

/-- The test of the sum and the difference: what is known of both. -/
theorem quot_sum (a b : Int) (fa : fits a = true) (fb : fits b = true) :
    (fits (a + b) = true ∧ intE [43] a b = 0 ∧ intV [43] a b = a + b ∧ intE [45] (a + b) b = 0 ∧ intV [45] (a + b) b = a) ∨
    (fits (a + b) = false ∧ intE [43] a b = 19 ∧ intV [43] a b = 0) := by
  cases h : fits (a + b)
  · have e1 : intE [43] a b = 19 := by rw [intE_op [43] a b (a + b) fa fb (by decide) (by simp [divB]) (by simp [rawI]), h]; rfl
    exact .inr ⟨rfl, e1, intV_no _ _ _ (by rw [e1]; decide)⟩
  · have e1 : intE [43] a b = 0 := by rw [intE_op [43] a b (a + b) fa fb (by decide) (by simp [divB]) (by simp [rawI]), h]; rfl
    have e2 : intE [45] (a + b) b = 0 := by rw [intE_op [45] (a + b) b a h fb (by decide) (by simp [divB]) (by simp [rawI]), fa]; rfl
    exact .inl ⟨rfl, e1, intV_ok _ _ _ _ e1 (by simp [rawI]), e2, intV_ok _ _ _ _ e2 (by simp [rawI])⟩
theorem quot_mod (a b : Int) (fa : fits a = true) (fb : fits b = true) (hb : b ≠ 0) : intE [109, 111, 100] a b = 0 ∧ intV [109, 111, 100] a b = a - b * fl a b := by
  have e1 : intE [109, 111, 100] a b = 0 := by rw [intE_op [109, 111, 100] a b (a - b * fl a b) fa fb (by decide) (by simp [hb]) (by simp [rawI]), fits_mod a b hb fb]; rfl
  exact ⟨e1, intV_ok _ _ _ _ e1 (by simp [rawI])⟩
theorem quot_div (a b : Int) (fa : fits a = true) (fb : fits b = true) (hb : b ≠ 0) :
    (fits (fl a b) = true ∧ intE [47] a b = 0 ∧ intV [47] a b = fl a b) ∨ (fits (fl a b) = false ∧ intE [47] a b = 19 ∧ intV [47] a b = 0) := by
  cases h : fits (fl a b)
  · have e1 : intE [47] a b = 19 := by rw [intE_op [47] a b (fl a b) fa fb (by decide) (by simp [hb]) (by simp [rawI]), h]; rfl
    exact .inr ⟨rfl, e1, intV_no _ _ _ (by rw [e1]; decide)⟩
  · have e1 : intE [47] a b = 0 := by rw [intE_op [47] a b (fl a b) fa fb (by decide) (by simp [hb]) (by simp [rawI]), h]; rfl
    exact .inl ⟨rfl, e1, intV_ok _ _ _ _ e1 (by simp [rawI])⟩
set_option maxRecDepth 100000 in
set_option maxHeartbeats 4000000 in
theorem quot_ok_ok_pos (w : World) (a b : Int) (fa : fits a = true) (fb : fits b = true) (hb : b ≠ 0) (hs : fits (a + b) = true ∧ intE [43] a b = 0 ∧ intV [43] a b = a + b ∧ intE [45] (a + b) b = 0 ∧ intV [45] (a + b) b = a) (hd : fits (fl a b) = true ∧ intE [47] a b = 0 ∧ intV [47] a b = fl a b) (hp : 0 < b) :
    Calls Try.prog 4 #[.int .i64 a, .int .i64 b] w fun e w' => e = .returned (.bool true) ∧ Below w.heap.size w w' := by
  have M := Aside0.mk (quot_mod a b fa fb hb)
  have S := Aside0.mk hs
  have D := Aside0.mk hd
  have hbb : (b == 0) = false := by simp [hb]
  obtain ⟨a0, a1⟩ := fits_iff.1 fa
  obtain ⟨b0, b1⟩ := fits_iff.1 fb
  obtain ⟨q0, q1, q2, q3⟩ := fl_range a b hb a0 a1 b0 b1
  have hsp := fl_spec a b hb
  have m0 : 0 ≤ a - b * fl a b := (hsp.1 hp).1
  have m1 : a - b * fl a b < b := (hsp.1 hp).2
  have hm : b * fl a b + (a - b * fl a b) = a := by omega
  have hme : ((b * fl a b + (a - b * fl a b)) == a) = true := by simp [hm]
  have hme2 : (wrap64 (wrap64 (b * fl a b) + (a - b * fl a b)) == a) = true := by rw [beq_iff_eq]; unfold wrap64; omega
  clear hsp hm
  clear hs hd hb
  go_enter Try.func4, Try.ntmps4
  go_wp2_with (first | (go_at_call 18; refine (refFits_calls _ _).mono ?_; rintro e w' ⟨rfl, rfl⟩))
  refine (vecInt_to _ _ _ _ (a + b) 0 (by rw [tl43, S.out.2.2.1]) (by rw [tl43, S.out.2.1])).mono ?_
  rintro e w1 ⟨rfl, rfl⟩
  go_wp2_with fail
  refine (vecInt_to _ _ _ _ a 0 (by rw [tl45, S.out.2.2.2.2]) (by rw [tl45, S.out.2.2.2.1])).mono ?_
  rintro e w1 ⟨rfl, rfl⟩
  go_wp2_with fail
  refine (vecInt_to _ _ _ _ (fl a b) 0 (by rw [tl47, D.out.2.2]) (by rw [tl47, D.out.2.1])).mono ?_
  rintro e w1 ⟨rfl, rfl⟩
  go_wp2_with fail
  refine (vecInt_to _ _ _ _ (a - b * fl a b) 0 (by rw [tlmod, M.out.2]) (by rw [tlmod, M.out.1])).mono ?_
  rintro e w1 ⟨rfl, rfl⟩
  go_wp2_with fail
  refine (awake_calls _).mono ?_
  rintro e w1 ⟨rfl, hb⟩
  have HB := Aside0.mk hb
  clear hb
  go_wp2_with fail
  go_ret
  exact ⟨rfl, HB.out⟩
set_option maxRecDepth 100000 in
set_option maxHeartbeats 4000000 in
theorem quot_no_ok_pos (w : World) (a b : Int) (fa : fits a = true) (fb : fits b = true) (hb : b ≠ 0) (hs : fits (a + b) = false ∧ intE [43] a b = 19 ∧ intV [43] a b = 0) (hd : fits (fl a b) = true ∧ intE [47] a b = 0 ∧ intV [47] a b = fl a b) (hp : 0 < b) :
    Calls Try.prog 4 #[.int .i64 a, .int .i64 b] w fun e w' => e = .returned (.bool true) ∧ Below w.heap.size w w' := by
  have M := Aside0.mk (quot_mod a b fa fb hb)
  have S := Aside0.mk hs
  have D := Aside0.mk hd
  have hbb : (b == 0) = false := by simp [hb]
  obtain ⟨a0, a1⟩ := fits_iff.1 fa
  obtain ⟨b0, b1⟩ := fits_iff.1 fb
  obtain ⟨q0, q1, q2, q3⟩ := fl_range a b hb a0 a1 b0 b1
  have hsp := fl_spec a b hb
  have m0 : 0 ≤ a - b * fl a b := (hsp.1 hp).1
  have m1 : a - b * fl a b < b := (hsp.1 hp).2
  have hm : b * fl a b + (a - b * fl a b) = a := by omega
  have hme : ((b * fl a b + (a - b * fl a b)) == a) = true := by simp [hm]
  have hme2 : (wrap64 (wrap64 (b * fl a b) + (a - b * fl a b)) == a) = true := by rw [beq_iff_eq]; unfold wrap64; omega
  clear hsp hm
  clear hs hd hb
  go_enter Try.func4, Try.ntmps4
  go_wp2_with (first | (go_at_call 18; refine (refFits_calls _ _).mono ?_; rintro e w' ⟨rfl, rfl⟩))
  refine (vecInt_to _ _ _ _ 0 19 (by rw [tl43, S.out.2.2]) (by rw [tl43, S.out.2.1])).mono ?_
  rintro e w1 ⟨rfl, rfl⟩
  go_wp2_with fail
  refine (vecInt_calls _ _ _ _).mono ?_
  rintro e w1 ⟨rfl, rfl⟩
  go_wp2_with fail
  refine (vecInt_to _ _ _ _ (fl a b) 0 (by rw [tl47, D.out.2.2]) (by rw [tl47, D.out.2.1])).mono ?_
  rintro e w1 ⟨rfl, rfl⟩
  go_wp2_with fail
  refine (vecInt_to _ _ _ _ (a - b * fl a b) 0 (by rw [tlmod, M.out.2]) (by rw [tlmod, M.out.1])).mono ?_
  rintro e w1 ⟨rfl, rfl⟩
  go_wp2_with fail
  refine (awake_calls _).mono ?_
  rintro e w1 ⟨rfl, hb⟩
  have HB := Aside0.mk hb
  clear hb
  go_wp2_with fail
  go_ret
  exact ⟨rfl, HB.out⟩
set_option maxRecDepth 100000 in
set_option maxHeartbeats 4000000 in
theorem quot_ok_ok_neg (w : World) (a b : Int) (fa : fits a = true) (fb : fits b = true) (hb : b ≠ 0) (hs : fits (a + b) = true ∧ intE [43] a b = 0 ∧ intV [43] a b = a + b ∧ intE [45] (a + b) b = 0 ∧ intV [45] (a + b) b = a) (hd : fits (fl a b) = true ∧ intE [47] a b = 0 ∧ intV [47] a b = fl a b) (hp : b < 0) :
    Calls Try.prog 4 #[.int .i64 a, .int .i64 b] w fun e w' => e = .returned (.bool true) ∧ Below w.heap.size w w' := by
  have M := Aside0.mk (quot_mod a b fa fb hb)
  have S := Aside0.mk hs
  have D := Aside0.mk hd
  have hbb : (b == 0) = false := by simp [hb]
  obtain ⟨a0, a1⟩ := fits_iff.1 fa
  obtain ⟨b0, b1⟩ := fits_iff.1 fb
  obtain ⟨q0, q1, q2, q3⟩ := fl_range a b hb a0 a1 b0 b1
  have hsp := fl_spec a b hb
  have m0 : a - b * fl a b ≤ 0 := (hsp.2 hp).1
  have m1 : b < a - b * fl a b := (hsp.2 hp).2
  have hpb : decide (0 < b) = false := by simp; omega
  have hm : b * fl a b + (a - b * fl a b) = a := by omega
  have hme : ((b * fl a b + (a - b * fl a b)) == a) = true := by simp [hm]
  have hme2 : (wrap64 (wrap64 (b * fl a b) + (a - b * fl a b)) == a) = true := by rw [beq_iff_eq]; unfold wrap64; omega
  clear hsp hm
  clear hs hd hb
  go_enter Try.func4, Try.ntmps4
  go_wp2_with (first | (go_at_call 18; refine (refFits_calls _ _).mono ?_; rintro e w' ⟨rfl, rfl⟩))
  refine (vecInt_to _ _ _ _ (a + b) 0 (by rw [tl43, S.out.2.2.1]) (by rw [tl43, S.out.2.1])).mono ?_
  rintro e w1 ⟨rfl, rfl⟩
  go_wp2_with fail
  refine (vecInt_to _ _ _ _ a 0 (by rw [tl45, S.out.2.2.2.2]) (by rw [tl45, S.out.2.2.2.1])).mono ?_
  rintro e w1 ⟨rfl, rfl⟩
  go_wp2_with fail
  refine (vecInt_to _ _ _ _ (fl a b) 0 (by rw [tl47, D.out.2.2]) (by rw [tl47, D.out.2.1])).mono ?_
  rintro e w1 ⟨rfl, rfl⟩
  go_wp2_with fail
  refine (vecInt_to _ _ _ _ (a - b * fl a b) 0 (by rw [tlmod, M.out.2]) (by rw [tlmod, M.out.1])).mono ?_
  rintro e w1 ⟨rfl, rfl⟩
  go_wp2_with fail
  refine (awake_calls _).mono ?_
  rintro e w1 ⟨rfl, hb⟩
  have HB := Aside0.mk hb
  clear hb
  go_wp2_with fail
  go_ret
  exact ⟨rfl, HB.out⟩
set_option maxRecDepth 100000 in
set_option maxHeartbeats 4000000 in
theorem quot_no_ok_neg (w : World) (a b : Int) (fa : fits a = true) (fb : fits b = true) (hb : b ≠ 0) (hs : fits (a + b) = false ∧ intE [43] a b = 19 ∧ intV [43] a b = 0) (hd : fits (fl a b) = true ∧ intE [47] a b = 0 ∧ intV [47] a b = fl a b) (hp : b < 0) :
    Calls Try.prog 4 #[.int .i64 a, .int .i64 b] w fun e w' => e = .returned (.bool true) ∧ Below w.heap.size w w' := by
  have M := Aside0.mk (quot_mod a b fa fb hb)
  have S := Aside0.mk hs
  have D := Aside0.mk hd
  have hbb : (b == 0) = false := by simp [hb]
  obtain ⟨a0, a1⟩ := fits_iff.1 fa
  obtain ⟨b0, b1⟩ := fits_iff.1 fb
  obtain ⟨q0, q1, q2, q3⟩ := fl_range a b hb a0 a1 b0 b1
  have hsp := fl_spec a b hb
  have m0 : a - b * fl a b ≤ 0 := (hsp.2 hp).1
  have m1 : b < a - b * fl a b := (hsp.2 hp).2
  have hpb : decide (0 < b) = false := by simp; omega
  have hm : b * fl a b + (a - b * fl a b) = a := by omega
  have hme : ((b * fl a b + (a - b * fl a b)) == a) = true := by simp [hm]
  have hme2 : (wrap64 (wrap64 (b * fl a b) + (a - b * fl a b)) == a) = true := by rw [beq_iff_eq]; unfold wrap64; omega
  clear hsp hm
  clear hs hd hb
  go_enter Try.func4, Try.ntmps4
  go_wp2_with (first | (go_at_call 18; refine (refFits_calls _ _).mono ?_; rintro e w' ⟨rfl, rfl⟩))
  refine (vecInt_to _ _ _ _ 0 19 (by rw [tl43, S.out.2.2]) (by rw [tl43, S.out.2.1])).mono ?_
  rintro e w1 ⟨rfl, rfl⟩
  go_wp2_with fail
  refine (vecInt_calls _ _ _ _).mono ?_
  rintro e w1 ⟨rfl, rfl⟩
  go_wp2_with fail
  refine (vecInt_to _ _ _ _ (fl a b) 0 (by rw [tl47, D.out.2.2]) (by rw [tl47, D.out.2.1])).mono ?_
  rintro e w1 ⟨rfl, rfl⟩
  go_wp2_with fail
  refine (vecInt_to _ _ _ _ (a - b * fl a b) 0 (by rw [tlmod, M.out.2]) (by rw [tlmod, M.out.1])).mono ?_
  rintro e w1 ⟨rfl, rfl⟩
  go_wp2_with fail
  refine (awake_calls _).mono ?_
  rintro e w1 ⟨rfl, hb⟩
  have HB := Aside0.mk hb
  clear hb
  go_wp2_with fail
  go_ret
  exact ⟨rfl, HB.out⟩
set_option maxRecDepth 100000 in
set_option maxHeartbeats 4000000 in
theorem quot_no_no (w : World) (a b : Int) (fa : fits a = true) (fb : fits b = true) (hb : b ≠ 0) (hs : fits (a + b) = false ∧ intE [43] a b = 19 ∧ intV [43] a b = 0) (hd : fits (fl a b) = false ∧ intE [47] a b = 19 ∧ intV [47] a b = 0) :
    Calls Try.prog 4 #[.int .i64 a, .int .i64 b] w fun e w' => e = .returned (.bool true) ∧ Below w.heap.size w w' := by
  have M := Aside0.mk (quot_mod a b fa fb hb)
  have S := Aside0.mk hs
  have D := Aside0.mk hd
  have hbb : (b == 0) = false := by simp [hb]
  obtain ⟨rfl, rfl⟩ := fl_out a b hb fa fb hd.1
  have hz : (-2147483648 : Int) - -1 * fl (-2147483648) (-1) = 0 := by decide
  have Z := Aside0.mk hz
  clear hz
  clear hs hd hb
  go_enter Try.func4, Try.ntmps4
  go_wp2_with (first | (go_at_call 18; refine (refFits_calls _ _).mono ?_; rintro e w' ⟨rfl, rfl⟩))
  refine (vecInt_to _ _ _ _ 0 19 (by rw [tl43, S.out.2.2]) (by rw [tl43, S.out.2.1])).mono ?_
  rintro e w1 ⟨rfl, rfl⟩
  go_wp2_with fail
  refine (vecInt_calls _ _ _ _).mono ?_
  rintro e w1 ⟨rfl, rfl⟩
  go_wp2_with fail
  refine (vecInt_to _ _ _ _ 0 19 (by rw [tl47, D.out.2.2]) (by rw [tl47, D.out.2.1])).mono ?_
  rintro e w1 ⟨rfl, rfl⟩
  go_wp2_with fail
  refine (vecInt_to _ _ _ _ 0 0 (by rw [tlmod, M.out.2, Z.out]) (by rw [tlmod, M.out.1])).mono ?_
  rintro e w1 ⟨rfl, rfl⟩
  go_wp2_with fail
  refine (awake_calls _).mono ?_
  rintro e w1 ⟨rfl, hb⟩
  have HB := Aside0.mk hb
  clear hb
  go_wp2_with fail
  go_ret
  exact ⟨rfl, HB.out⟩

theorem vecQuotients_walk (w : World) (a : Int) (ha : (Lit.int .i64 a).wf = true) (b : Int) (hb : (Lit.int .i64 b).wf = true) :
    Calls Try.prog 4 #[.int .i64 a, .int .i64 b] w fun e w' => e = .returned (.bool true) ∧ Below w.heap.size w w' := by
  cases fa : fits a
  · exact quot_bad w a b (by simp [fa])
  cases fb : fits b
  · exact quot_bad w a b (by simp [fb])
  by_cases h0 : b = 0
  · exact quot_zero w a b fa fb h0
  rcases quot_sum a b fa fb with hs | hs
  · rcases quot_div a b fa fb h0 with hd | hd
    · rcases Int.lt_or_le b 0 with hp | hp
      · exact quot_ok_ok_neg w a b fa fb h0 hs hd hp
      · exact quot_ok_ok_pos w a b fa fb h0 hs hd (by omega)
    · obtain ⟨rfl, rfl⟩ := fl_out a b h0 fa fb hd.1
      exact absurd hs.1 (by decide)
  · rcases quot_div a b fa fb h0 with hd | hd
    · rcases Int.lt_or_le b 0 with hp | hp
      · exact quot_no_ok_neg w a b fa fb h0 hs hd hp
      · exact quot_no_ok_pos w a b fa fb h0 hs hd (by omega)
    · exact quot_no_no w a b fa fb h0 hs hd
end Go.Proofs.Ytaffdpgacggllaa.V
