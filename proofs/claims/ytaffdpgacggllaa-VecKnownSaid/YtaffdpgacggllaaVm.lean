/- Contracts of functions of package vec, the thirteenth part: Int; Fits and Int of the reference. -/
import Derived.Test.YtaffdpgacggllaaVl
namespace Go.Proofs.Ytaffdpgacggllaa.V
open Go.RowKit Go.Proofs.YtaffdpgacggllaaW.PrintWords Go.Proofs.YtaffdpgacggllaaW.PrintLast Go.Proofs.YtaffdpgacggllaaW.PrintMore
attribute [local go_sem] max2_int min2_int max_two min_two
set_option linter.unusedVariables false
set_option linter.unusedSimpArgs false

def fits (n : Int) : Bool := decide (-2147483648 ≤ n) && decide (n ≤ 2147483647)
theorem fits_iff {n : Int} : fits n = true ↔ -2147483648 ≤ n ∧ n ≤ 2147483647 := by simp [fits]
theorem fits_no {n : Int} (h : fits n = false) : n < -2147483648 ∨ 2147483647 < n := by
  simp only [fits, Bool.and_eq_false_iff, decide_eq_false_iff_not] at h
  omega
theorem isInt_calls (n : Int) (w : World) : Calls Try.prog 57 #[.int .i64 n] w fun e w' => e = .returned (.bool (fits n)) ∧ w = w' := by
  by_cases h : -2147483648 ≤ n
  · have E : Aside0 (fits n = decide (n ≤ 2147483647)) := ⟨by simp [fits, h]⟩
    go_enter Try.func57, Try.ntmps57
    go_wp2
    go_ret
    exact ⟨ret_bool (by rw [E.out]), rfl⟩
  · have h' : decide (-2147483648 ≤ n) = false := by simpa using h
    have E : Aside0 (fits n = false) := ⟨by simp [fits, h']⟩
    go_enter Try.func57, Try.ntmps57
    go_wp2
    go_ret
    exact ⟨ret_bool (by rw [E.out]), rfl⟩
theorem refFits_calls (n : Int) (w : World) : Calls Try.prog 18 #[.int .i64 n] w fun e w' => e = .returned (.bool (fits n)) ∧ w = w' := by
  by_cases h : -2147483648 ≤ n
  · have E : Aside0 (fits n = decide (n ≤ 2147483647)) := ⟨by simp [fits, h]⟩
    go_enter Try.func18, Try.ntmps18
    go_wp2
    go_ret
    exact ⟨ret_bool (by rw [E.out]), rfl⟩
  · have h' : decide (-2147483648 ≤ n) = false := by simpa using h
    have E : Aside0 (fits n = false) := ⟨by simp [fits, h']⟩
    go_enter Try.func18, Try.ntmps18
    go_wp2
    go_ret
    exact ⟨ret_bool (by rw [E.out]), rfl⟩

/-- The quotient, rounded down. -/
def fl (a b : Int) : Int := if a.tmod b ≠ 0 ∧ decide (a < 0) ≠ decide (b < 0) then a.tdiv b - 1 else a.tdiv b
theorem tdiv_range (a b : Int) (h0 : -2147483648 ≤ a) (h1 : a ≤ 2147483647) : -2147483648 ≤ a.tdiv b ∧ a.tdiv b ≤ 2147483648 := by
  have h : (a.tdiv b).natAbs ≤ a.natAbs := by rw [Int.natAbs_tdiv]; exact Nat.div_le_self _ _
  omega
theorem tmod_range (a b : Int) (h0 : -2147483648 ≤ a) (h1 : a ≤ 2147483647) : -2147483648 ≤ a.tmod b ∧ a.tmod b ≤ 2147483648 := by
  have h : (a.tmod b).natAbs ≤ a.natAbs := by rw [Int.natAbs_tmod]; exact Nat.mod_le _ _
  omega
theorem floor_calls (a b : Int) (w : World) (h0 : -2147483648 ≤ a) (h1 : a ≤ 2147483647) (g0 : -2147483648 ≤ b) (g1 : b ≤ 2147483647) (hb : b ≠ 0) :
    Calls Try.prog 58 #[.int .i64 a, .int .i64 b] w fun e w' => e = .returned (.int .i64 (fl a b)) ∧ w = w' := by
  have hq := tdiv_range a b h0 h1
  have hq0 := hq.1
  have hq1 := hq.2
  have hbb : (b == 0) = false := by simpa using hb
  clear hq
  by_cases c4 : a.tmod b = 0
  · have E : Aside0 (fl a b = a.tdiv b) := ⟨by simp [fl, c4]⟩
    have c4b0 : ((Int.tmod a b) == 0) = true := by simp [c4]
    have c4b1 : ((Int.tmod a b) != 0) = false := by simp [c4]
    clear c4
    go_enter Try.func58, Try.ntmps58
    go_wp2
    go_ret
    exact ⟨by rw [E.out]; rfl, rfl⟩
  · have c4b0 : ((Int.tmod a b) == 0) = false := by simp [c4]
    have c4b1 : ((Int.tmod a b) != 0) = true := by simp [c4]
    have E : Aside0 (fl a b = if decide (a < 0) ≠ decide (b < 0) then a.tdiv b - 1 else a.tdiv b) := ⟨by simp [fl, c4]⟩
    clear c4
    cases s1 : decide (a < 0) <;> cases s2 : decide (b < 0)
    all_goals
      rw [s1, s2] at E
      go_enter Try.func58, Try.ntmps58
      go_wp2
      go_ret
      exact ⟨by rw [E.out]; rfl, rfl⟩

theorem tmod_facts (a b : Int) (hb : b ≠ 0) : b * a.tdiv b + a.tmod b = a ∧ (a.tmod b).natAbs < b.natAbs ∧ (0 ≤ a → 0 ≤ a.tmod b) ∧ (a < 0 → a.tmod b ≤ 0) := by
  refine ⟨Int.mul_tdiv_add_tmod a b, ?_, fun h => Int.tmod_nonneg b h, fun h => ?_⟩
  · rw [Int.natAbs_tmod]; exact Nat.mod_lt _ (by omega)
  · have h1 := Int.tmod_nonneg b (show 0 ≤ -a by omega)
    rw [Int.neg_tmod] at h1
    omega
/-- What is left lies from 0 to below b, or from above b to 0. -/
theorem fl_spec (a b : Int) (hb : b ≠ 0) : (0 < b → 0 ≤ a - b * fl a b ∧ a - b * fl a b < b) ∧ (b < 0 → a - b * fl a b ≤ 0 ∧ b < a - b * fl a b) := by
  obtain ⟨h1, h2, h3, h4⟩ := tmod_facts a b hb
  have e : a - b * fl a b = if a.tmod b ≠ 0 ∧ decide (a < 0) ≠ decide (b < 0) then a.tmod b + b else a.tmod b := by
    unfold fl
    split
    · rw [Int.mul_sub, Int.mul_one]; omega
    · omega
  rw [e]
  split
  · rename_i h
    obtain ⟨h5, h6⟩ := h
    rw [ne_eq, decide_eq_decide] at h6
    by_cases ha : a < 0
    · have := h4 ha
      constructor <;> intro <;> omega
    · have := h3 (by omega)
      constructor <;> intro <;> omega
  · rename_i h
    by_cases h5 : a.tmod b = 0
    · constructor <;> intro <;> omega
    · have h6 : a < 0 ↔ b < 0 := by
        rcases Classical.em (a < 0 ↔ b < 0) with h7 | h7
        · exact h7
        · exact absurd ⟨h5, by rw [ne_eq, decide_eq_decide]; exact h7⟩ h
      by_cases ha : a < 0
      · have := h4 ha
        constructor <;> intro <;> omega
      · have := h3 (by omega)
        constructor <;> intro <;> omega
theorem small_tmod (x b : Int) (h : x.natAbs < b.natAbs) : x.tmod b = x := by
  have h1 : (x.tmod b).natAbs = x.natAbs := by rw [Int.natAbs_tmod, Nat.mod_eq_of_lt h]
  rcases Int.lt_or_le x 0 with hx | hx
  · have h2 := (tmod_facts x b (by omega)).2.2.2 hx
    omega
  · have h2 := (tmod_facts x b (by omega)).2.2.1 hx
    omega
theorem add_self_tmod (x b : Int) (h : x.natAbs < b.natAbs) (hs : (0 < x ∧ 0 < b) ∨ (x < 0 ∧ b < 0)) : (x + b).tmod b = x := by
  rcases hs with ⟨h1, h2⟩ | ⟨h1, h2⟩
  · rw [Int.tmod_eq_emod_of_nonneg (by omega), Int.add_emod_right, Int.emod_eq_of_lt (by omega) (by omega)]
  · have e : x + b = -(-x + -b) := by omega
    rw [e, Int.neg_tmod, ← Int.tmod_neg, Int.tmod_eq_emod_of_nonneg (by omega), Int.add_emod_right, Int.emod_eq_of_lt (by omega) (by omega)]
    omega
/-- The reference's 'left'. -/
theorem ref_left (a b : Int) (hb : b ≠ 0) : (a.tmod b + b).tmod b = a - b * fl a b := by
  obtain ⟨h1, h2, h3, h4⟩ := tmod_facts a b hb
  have e : a - b * fl a b = if a.tmod b ≠ 0 ∧ decide (a < 0) ≠ decide (b < 0) then a.tmod b + b else a.tmod b := by
    unfold fl
    split
    · rw [Int.mul_sub, Int.mul_one]; omega
    · omega
  rw [e]
  by_cases h5 : a.tmod b = 0
  · rw [if_neg (fun h => h.1 h5), h5, Int.zero_add, Int.tmod_self]
  · by_cases h6 : a < 0 ↔ b < 0
    · rw [if_neg (fun h => by have := h.2; rw [ne_eq, decide_eq_decide] at this; exact this h6)]
      refine add_self_tmod _ _ h2 ?_
      by_cases ha : a < 0
      · have := h4 ha; omega
      · have := h3 (by omega); omega
    · rw [if_pos ⟨h5, by rw [ne_eq, decide_eq_decide]; exact h6⟩]
      refine small_tmod _ _ ?_
      by_cases ha : a < 0
      · have := h4 ha; omega
      · have := h3 (by omega); omega
theorem ref_quo (a b : Int) (hb : b ≠ 0) : (a - (a - b * fl a b)).tdiv b = fl a b := by
  rw [show a - (a - b * fl a b) = b * fl a b by omega]
  exact Int.mul_tdiv_cancel_left _ hb
theorem fl_range (a b : Int) (hb : b ≠ 0) (h0 : -2147483648 ≤ a) (h1 : a ≤ 2147483647) (g0 : -2147483648 ≤ b) (g1 : b ≤ 2147483647) :
    -4294967296 ≤ b * fl a b ∧ b * fl a b ≤ 4294967296 ∧ -2147483649 ≤ fl a b ∧ fl a b ≤ 2147483648 := by
  have h := fl_spec a b hb
  have hq := tdiv_range a b h0 h1
  have hf : fl a b = a.tdiv b ∨ fl a b = a.tdiv b - 1 := by unfold fl; split <;> simp
  rcases Int.lt_or_le b 0 with hb2 | hb2
  · have := h.2 hb2; omega
  · have := h.1 (by omega); omega
theorem mul_range (a b : Int) (h0 : -2147483648 ≤ a) (h1 : a ≤ 2147483647) (g0 : -2147483648 ≤ b) (g1 : b ≤ 2147483647) : -4611686018427387904 ≤ a * b ∧ a * b ≤ 4611686018427387904 := by
  have h : (a * b).natAbs ≤ 2147483648 * 2147483648 := by rw [Int.natAbs_mul]; exact Nat.mul_le_mul (by omega) (by omega)
  omega

def opB (l : List UInt8) : Bool := (l == [43]) || ((l == [45]) || ((l == [42]) || ((l == [47]) || (l == [109, 111, 100]))))
def rawI (l : List UInt8) (a b : Int) : Int :=
  if l = [43] then a + b else if l = [45] then a - b else if l = [42] then a * b else if l = [47] then fl a b else if l = [109, 111, 100] then a - b * fl a b else 0
def divB (l : List UInt8) : Bool := (l == [47]) || (l == [109, 111, 100])
def intE (l : List UInt8) (a b : Int) : Int :=
  if (fits a && fits b) = false then 2 else if opB l = false then 2 else if (divB l && decide (b = 0)) = true then 20 else if fits (rawI l a b) = false then 19 else 0
def intV (l : List UInt8) (a b : Int) : Int := if intE l a b = 0 then rawI l a b else 0
set_option maxRecDepth 100000 in
set_option maxHeartbeats 2000000 in
theorem vecInt_calls (op : ByteArray) (a b : Int) (w : World) :
    Calls Try.prog 15 #[.string op, .int .i64 a, .int .i64 b] w fun e w' => e = .returned (.tuple #[.int .i64 (intV op.toList a b), .int .i64 (intE op.toList a b)]) ∧ w = w' := by
  by_cases fa : fits a = true
  · by_cases fb : fits b = true
    · obtain ⟨h0, h1⟩ := fits_iff.1 fa
      obtain ⟨g0, g1⟩ := fits_iff.1 fb
      by_cases cp : op.toList = [43]
      · have bp : (op.toList == ([43] : List UInt8)) = true := by simp [cp]
        have bm : (op.toList == ([45] : List UInt8)) = false := by simp [cp]
        have bt : (op.toList == ([42] : List UInt8)) = false := by simp [cp]
        have bd : (op.toList == ([47] : List UInt8)) = false := by simp [cp]
        have br : (op.toList == ([109, 111, 100] : List UInt8)) = false := by simp [cp]
        have R : rawI op.toList a b = a + b := by simp [rawI, cp]
        have B : opB op.toList = true := by simp [opB, cp]
        have D : divB op.toList = false := by simp [divB, cp]
        by_cases ff : fits (a + b) = true
        · have E2 : Aside0 (intE op.toList a b = 0) := ⟨by simp [intE, fa, fb, B, R, ff, D]⟩
          have E1 : Aside0 (intV op.toList a b = a + b) := ⟨by simp [intV, E2.out, R]⟩
          clear cp R B D
          go_enter Try.func15, Try.ntmps15
          go_wp2_with (first | (go_at_call 57; refine (isInt_calls _ _).mono ?_; rintro e w' ⟨rfl, rfl⟩))
          go_ret2
          exact ⟨by rw [E1.out, E2.out]; rfl, rfl⟩
        · have ff' := eq_false_of_ne_true ff
          have E2 : Aside0 (intE op.toList a b = 19) := ⟨by simp [intE, fa, fb, B, R, ff', D]⟩
          have E1 : Aside0 (intV op.toList a b = 0) := ⟨by simp [intV, E2.out]⟩
          clear cp R B D ff
          go_enter Try.func15, Try.ntmps15
          go_wp2_with (first | (go_at_call 57; refine (isInt_calls _ _).mono ?_; rintro e w' ⟨rfl, rfl⟩))
          go_ret2
          exact ⟨by rw [E1.out, E2.out]; rfl, rfl⟩
      · skip
        by_cases cm : op.toList = [45]
        · have bp : (op.toList == ([43] : List UInt8)) = false := by simp [cm]
          have bm : (op.toList == ([45] : List UInt8)) = true := by simp [cm]
          have bt : (op.toList == ([42] : List UInt8)) = false := by simp [cm]
          have bd : (op.toList == ([47] : List UInt8)) = false := by simp [cm]
          have br : (op.toList == ([109, 111, 100] : List UInt8)) = false := by simp [cm]
          have R : rawI op.toList a b = a - b := by simp [rawI, cm]
          have B : opB op.toList = true := by simp [opB, cm]
          have D : divB op.toList = false := by simp [divB, cm]
          by_cases ff : fits (a - b) = true
          · have E2 : Aside0 (intE op.toList a b = 0) := ⟨by simp [intE, fa, fb, B, R, ff, D]⟩
            have E1 : Aside0 (intV op.toList a b = a - b) := ⟨by simp [intV, E2.out, R]⟩
            clear cp cm R B D
            go_enter Try.func15, Try.ntmps15
            go_wp2_with (first | (go_at_call 57; refine (isInt_calls _ _).mono ?_; rintro e w' ⟨rfl, rfl⟩))
            go_ret2
            exact ⟨by rw [E1.out, E2.out]; rfl, rfl⟩
          · have ff' := eq_false_of_ne_true ff
            have E2 : Aside0 (intE op.toList a b = 19) := ⟨by simp [intE, fa, fb, B, R, ff', D]⟩
            have E1 : Aside0 (intV op.toList a b = 0) := ⟨by simp [intV, E2.out]⟩
            clear cp cm R B D ff
            go_enter Try.func15, Try.ntmps15
            go_wp2_with (first | (go_at_call 57; refine (isInt_calls _ _).mono ?_; rintro e w' ⟨rfl, rfl⟩))
            go_ret2
            exact ⟨by rw [E1.out, E2.out]; rfl, rfl⟩
        · skip
          by_cases ct : op.toList = [42]
          · have bp : (op.toList == ([43] : List UInt8)) = false := by simp [ct]
            have bm : (op.toList == ([45] : List UInt8)) = false := by simp [ct]
            have bt : (op.toList == ([42] : List UInt8)) = true := by simp [ct]
            have bd : (op.toList == ([47] : List UInt8)) = false := by simp [ct]
            have br : (op.toList == ([109, 111, 100] : List UInt8)) = false := by simp [ct]
            have R : rawI op.toList a b = a * b := by simp [rawI, ct]
            have B : opB op.toList = true := by simp [opB, ct]
            have D : divB op.toList = false := by simp [divB, ct]
            obtain ⟨f0, f1⟩ := mul_range a b h0 h1 g0 g1
            by_cases ff : fits (a * b) = true
            · have E2 : Aside0 (intE op.toList a b = 0) := ⟨by simp [intE, fa, fb, B, R, ff, D]⟩
              have E1 : Aside0 (intV op.toList a b = a * b) := ⟨by simp [intV, E2.out, R]⟩
              clear cp cm ct R B D
              go_enter Try.func15, Try.ntmps15
              go_wp2_with (first | (go_at_call 57; refine (isInt_calls _ _).mono ?_; rintro e w' ⟨rfl, rfl⟩))
              go_ret2
              exact ⟨by rw [E1.out, E2.out]; rfl, rfl⟩
            · have ff' := eq_false_of_ne_true ff
              have E2 : Aside0 (intE op.toList a b = 19) := ⟨by simp [intE, fa, fb, B, R, ff', D]⟩
              have E1 : Aside0 (intV op.toList a b = 0) := ⟨by simp [intV, E2.out]⟩
              clear cp cm ct R B D ff
              go_enter Try.func15, Try.ntmps15
              go_wp2_with (first | (go_at_call 57; refine (isInt_calls _ _).mono ?_; rintro e w' ⟨rfl, rfl⟩))
              go_ret2
              exact ⟨by rw [E1.out, E2.out]; rfl, rfl⟩
          · skip
            by_cases cd : op.toList = [47]
            · have bp : (op.toList == ([43] : List UInt8)) = false := by simp [cd]
              have bm : (op.toList == ([45] : List UInt8)) = false := by simp [cd]
              have bt : (op.toList == ([42] : List UInt8)) = false := by simp [cd]
              have bd : (op.toList == ([47] : List UInt8)) = true := by simp [cd]
              have br : (op.toList == ([109, 111, 100] : List UInt8)) = false := by simp [cd]
              have R : rawI op.toList a b = fl a b := by simp [rawI, cd]
              have B : opB op.toList = true := by simp [opB, cd]
              have D : divB op.toList = true := by simp [divB, cd]
              by_cases hb : b = 0
              · have hbb : (b == 0) = true := by simp [hb]
                have E2 : Aside0 (intE op.toList a b = 20) := ⟨by subst hb; simp [intE, fa, fb, B, D]⟩
                have E1 : Aside0 (intV op.toList a b = 0) := ⟨by simp [intV, E2.out]⟩
                clear cp cm ct cd R B D hb
                go_enter Try.func15, Try.ntmps15
                go_wp2_with (first | (go_at_call 57; refine (isInt_calls _ _).mono ?_; rintro e w' ⟨rfl, rfl⟩))
                go_ret2
                exact ⟨by rw [E1.out, E2.out]; rfl, rfl⟩
              · have hbb : (b == 0) = false := by simp [hb]
                obtain ⟨f0, f1, f2, f3⟩ := fl_range a b hb h0 h1 g0 g1
                by_cases ff : fits (fl a b) = true
                · have E2 : Aside0 (intE op.toList a b = 0) := ⟨by simp [intE, fa, fb, B, R, ff, D, hb]⟩
                  have E1 : Aside0 (intV op.toList a b = fl a b) := ⟨by simp [intV, E2.out, R]⟩
                  clear cp cm ct cd R B D
                  go_enter Try.func15, Try.ntmps15
                  go_wp2_with (first | (go_at_call 57; refine (isInt_calls _ _).mono ?_; rintro e w' ⟨rfl, rfl⟩) | (go_at_call 58; refine (floor_calls _ _ _ h0 h1 g0 g1 hb).mono ?_; rintro e w' ⟨rfl, rfl⟩))
                  go_ret2
                  exact ⟨by rw [E1.out, E2.out]; rfl, rfl⟩
                · have ff' := eq_false_of_ne_true ff
                  have E2 : Aside0 (intE op.toList a b = 19) := ⟨by simp [intE, fa, fb, B, R, ff', D, hb]⟩
                  have E1 : Aside0 (intV op.toList a b = 0) := ⟨by simp [intV, E2.out]⟩
                  clear cp cm ct cd R B D ff
                  go_enter Try.func15, Try.ntmps15
                  go_wp2_with (first | (go_at_call 57; refine (isInt_calls _ _).mono ?_; rintro e w' ⟨rfl, rfl⟩) | (go_at_call 58; refine (floor_calls _ _ _ h0 h1 g0 g1 hb).mono ?_; rintro e w' ⟨rfl, rfl⟩))
                  go_ret2
                  exact ⟨by rw [E1.out, E2.out]; rfl, rfl⟩
            · skip
              by_cases cr : op.toList = [109, 111, 100]
              · have bp : (op.toList == ([43] : List UInt8)) = false := by simp [cr]
                have bm : (op.toList == ([45] : List UInt8)) = false := by simp [cr]
                have bt : (op.toList == ([42] : List UInt8)) = false := by simp [cr]
                have bd : (op.toList == ([47] : List UInt8)) = false := by simp [cr]
                have br : (op.toList == ([109, 111, 100] : List UInt8)) = true := by simp [cr]
                have R : rawI op.toList a b = a - b * fl a b := by simp [rawI, cr]
                have B : opB op.toList = true := by simp [opB, cr]
                have D : divB op.toList = true := by simp [divB, cr]
                by_cases hb : b = 0
                · have hbb : (b == 0) = true := by simp [hb]
                  have E2 : Aside0 (intE op.toList a b = 20) := ⟨by subst hb; simp [intE, fa, fb, B, D]⟩
                  have E1 : Aside0 (intV op.toList a b = 0) := ⟨by simp [intV, E2.out]⟩
                  clear cp cm ct cd cr R B D hb
                  go_enter Try.func15, Try.ntmps15
                  go_wp2_with (first | (go_at_call 57; refine (isInt_calls _ _).mono ?_; rintro e w' ⟨rfl, rfl⟩))
                  go_ret2
                  exact ⟨by rw [E1.out, E2.out]; rfl, rfl⟩
                · have hbb : (b == 0) = false := by simp [hb]
                  obtain ⟨f0, f1, f2, f3⟩ := fl_range a b hb h0 h1 g0 g1
                  by_cases ff : fits (a - b * fl a b) = true
                  · have E2 : Aside0 (intE op.toList a b = 0) := ⟨by simp [intE, fa, fb, B, R, ff, D, hb]⟩
                    have E1 : Aside0 (intV op.toList a b = a - b * fl a b) := ⟨by simp [intV, E2.out, R]⟩
                    clear cp cm ct cd cr R B D
                    go_enter Try.func15, Try.ntmps15
                    go_wp2_with (first | (go_at_call 57; refine (isInt_calls _ _).mono ?_; rintro e w' ⟨rfl, rfl⟩) | (go_at_call 58; refine (floor_calls _ _ _ h0 h1 g0 g1 hb).mono ?_; rintro e w' ⟨rfl, rfl⟩))
                    go_ret2
                    exact ⟨by rw [E1.out, E2.out]; rfl, rfl⟩
                  · have ff' := eq_false_of_ne_true ff
                    have E2 : Aside0 (intE op.toList a b = 19) := ⟨by simp [intE, fa, fb, B, R, ff', D, hb]⟩
                    have E1 : Aside0 (intV op.toList a b = 0) := ⟨by simp [intV, E2.out]⟩
                    clear cp cm ct cd cr R B D ff
                    go_enter Try.func15, Try.ntmps15
                    go_wp2_with (first | (go_at_call 57; refine (isInt_calls _ _).mono ?_; rintro e w' ⟨rfl, rfl⟩) | (go_at_call 58; refine (floor_calls _ _ _ h0 h1 g0 g1 hb).mono ?_; rintro e w' ⟨rfl, rfl⟩))
                    go_ret2
                    exact ⟨by rw [E1.out, E2.out]; rfl, rfl⟩
              · have bp : (op.toList == ([43] : List UInt8)) = false := by simp [cp]
                have bm : (op.toList == ([45] : List UInt8)) = false := by simp [cm]
                have bt : (op.toList == ([42] : List UInt8)) = false := by simp [ct]
                have bd : (op.toList == ([47] : List UInt8)) = false := by simp [cd]
                have br : (op.toList == ([109, 111, 100] : List UInt8)) = false := by simp [cr]
                have B : opB op.toList = false := by simp [opB, bp, bm, bt, bd, br]
                have E2 : Aside0 (intE op.toList a b = 2) := ⟨by simp [intE, B]⟩
                have E1 : Aside0 (intV op.toList a b = 0) := ⟨by simp [intV, E2.out]⟩
                clear cp cm ct cd cr B
                go_enter Try.func15, Try.ntmps15
                go_wp2_with (first | (go_at_call 57; refine (isInt_calls _ _).mono ?_; rintro e w' ⟨rfl, rfl⟩))
                go_ret2
                exact ⟨by rw [E1.out, E2.out]; rfl, rfl⟩
    · have fb' := eq_false_of_ne_true fb
      have E2 : Aside0 (intE op.toList a b = 2) := ⟨by simp [intE, fb']⟩
      have E1 : Aside0 (intV op.toList a b = 0) := ⟨by simp [intV, E2.out]⟩
      clear fb
      go_enter Try.func15, Try.ntmps15
      go_wp2_with (first | (go_at_call 57; refine (isInt_calls _ _).mono ?_; rintro e w' ⟨rfl, rfl⟩))
      go_ret2
      exact ⟨by rw [E1.out, E2.out]; rfl, rfl⟩
  · have fa' := eq_false_of_ne_true fa
    have E2 : Aside0 (intE op.toList a b = 2) := ⟨by simp [intE, fa']⟩
    have E1 : Aside0 (intV op.toList a b = 0) := ⟨by simp [intV, E2.out]⟩
    clear fa
    go_enter Try.func15, Try.ntmps15
    go_wp2_with (first | (go_at_call 57; refine (isInt_calls _ _).mono ?_; rintro e w' ⟨rfl, rfl⟩))
    go_ret2
    exact ⟨by rw [E1.out, E2.out]; rfl, rfl⟩
set_option maxRecDepth 100000 in
set_option maxHeartbeats 2000000 in
theorem refInt_calls (op : ByteArray) (a b : Int) (w : World) :
    Calls Try.prog 16 #[.string op, .int .i64 a, .int .i64 b] w fun e w' => e = .returned (.tuple #[.int .i64 (intV op.toList a b), .int .i64 (intE op.toList a b)]) ∧ w = w' := by
  by_cases fa : fits a = true
  · by_cases fb : fits b = true
    · obtain ⟨h0, h1⟩ := fits_iff.1 fa
      obtain ⟨g0, g1⟩ := fits_iff.1 fb
      by_cases cp : op.toList = [43]
      · have bp : (op.toList == ([43] : List UInt8)) = true := by simp [cp]
        have bm : (op.toList == ([45] : List UInt8)) = false := by simp [cp]
        have bt : (op.toList == ([42] : List UInt8)) = false := by simp [cp]
        have bd : (op.toList == ([47] : List UInt8)) = false := by simp [cp]
        have br : (op.toList == ([109, 111, 100] : List UInt8)) = false := by simp [cp]
        have R : rawI op.toList a b = a + b := by simp [rawI, cp]
        have B : opB op.toList = true := by simp [opB, cp]
        have D : divB op.toList = false := by simp [divB, cp]
        by_cases ff : fits (a + b) = true
        · have E2 : Aside0 (intE op.toList a b = 0) := ⟨by simp [intE, fa, fb, B, R, ff, D]⟩
          have E1 : Aside0 (intV op.toList a b = a + b) := ⟨by simp [intV, E2.out, R]⟩
          clear cp R B D
          go_enter Try.func16, Try.ntmps16
          go_wp2_with (first | (go_at_call 18; refine (refFits_calls _ _).mono ?_; rintro e w' ⟨rfl, rfl⟩))
          go_ret2
          exact ⟨by rw [E1.out, E2.out]; rfl, rfl⟩
        · have ff' := eq_false_of_ne_true ff
          have E2 : Aside0 (intE op.toList a b = 19) := ⟨by simp [intE, fa, fb, B, R, ff', D]⟩
          have E1 : Aside0 (intV op.toList a b = 0) := ⟨by simp [intV, E2.out]⟩
          clear cp R B D ff
          go_enter Try.func16, Try.ntmps16
          go_wp2_with (first | (go_at_call 18; refine (refFits_calls _ _).mono ?_; rintro e w' ⟨rfl, rfl⟩))
          go_ret2
          exact ⟨by rw [E1.out, E2.out]; rfl, rfl⟩
      · skip
        by_cases cm : op.toList = [45]
        · have bp : (op.toList == ([43] : List UInt8)) = false := by simp [cm]
          have bm : (op.toList == ([45] : List UInt8)) = true := by simp [cm]
          have bt : (op.toList == ([42] : List UInt8)) = false := by simp [cm]
          have bd : (op.toList == ([47] : List UInt8)) = false := by simp [cm]
          have br : (op.toList == ([109, 111, 100] : List UInt8)) = false := by simp [cm]
          have R : rawI op.toList a b = a - b := by simp [rawI, cm]
          have B : opB op.toList = true := by simp [opB, cm]
          have D : divB op.toList = false := by simp [divB, cm]
          by_cases ff : fits (a - b) = true
          · have E2 : Aside0 (intE op.toList a b = 0) := ⟨by simp [intE, fa, fb, B, R, ff, D]⟩
            have E1 : Aside0 (intV op.toList a b = a - b) := ⟨by simp [intV, E2.out, R]⟩
            clear cp cm R B D
            go_enter Try.func16, Try.ntmps16
            go_wp2_with (first | (go_at_call 18; refine (refFits_calls _ _).mono ?_; rintro e w' ⟨rfl, rfl⟩))
            go_ret2
            exact ⟨by rw [E1.out, E2.out]; rfl, rfl⟩
          · have ff' := eq_false_of_ne_true ff
            have E2 : Aside0 (intE op.toList a b = 19) := ⟨by simp [intE, fa, fb, B, R, ff', D]⟩
            have E1 : Aside0 (intV op.toList a b = 0) := ⟨by simp [intV, E2.out]⟩
            clear cp cm R B D ff
            go_enter Try.func16, Try.ntmps16
            go_wp2_with (first | (go_at_call 18; refine (refFits_calls _ _).mono ?_; rintro e w' ⟨rfl, rfl⟩))
            go_ret2
            exact ⟨by rw [E1.out, E2.out]; rfl, rfl⟩
        · skip
          by_cases ct : op.toList = [42]
          · have bp : (op.toList == ([43] : List UInt8)) = false := by simp [ct]
            have bm : (op.toList == ([45] : List UInt8)) = false := by simp [ct]
            have bt : (op.toList == ([42] : List UInt8)) = true := by simp [ct]
            have bd : (op.toList == ([47] : List UInt8)) = false := by simp [ct]
            have br : (op.toList == ([109, 111, 100] : List UInt8)) = false := by simp [ct]
            have R : rawI op.toList a b = a * b := by simp [rawI, ct]
            have B : opB op.toList = true := by simp [opB, ct]
            have D : divB op.toList = false := by simp [divB, ct]
            obtain ⟨f0, f1⟩ := mul_range a b h0 h1 g0 g1
            by_cases ff : fits (a * b) = true
            · have E2 : Aside0 (intE op.toList a b = 0) := ⟨by simp [intE, fa, fb, B, R, ff, D]⟩
              have E1 : Aside0 (intV op.toList a b = a * b) := ⟨by simp [intV, E2.out, R]⟩
              clear cp cm ct R B D
              go_enter Try.func16, Try.ntmps16
              go_wp2_with (first | (go_at_call 18; refine (refFits_calls _ _).mono ?_; rintro e w' ⟨rfl, rfl⟩))
              go_ret2
              exact ⟨by rw [E1.out, E2.out]; rfl, rfl⟩
            · have ff' := eq_false_of_ne_true ff
              have E2 : Aside0 (intE op.toList a b = 19) := ⟨by simp [intE, fa, fb, B, R, ff', D]⟩
              have E1 : Aside0 (intV op.toList a b = 0) := ⟨by simp [intV, E2.out]⟩
              clear cp cm ct R B D ff
              go_enter Try.func16, Try.ntmps16
              go_wp2_with (first | (go_at_call 18; refine (refFits_calls _ _).mono ?_; rintro e w' ⟨rfl, rfl⟩))
              go_ret2
              exact ⟨by rw [E1.out, E2.out]; rfl, rfl⟩
          · skip
            by_cases cd : op.toList = [47]
            · have bp : (op.toList == ([43] : List UInt8)) = false := by simp [cd]
              have bm : (op.toList == ([45] : List UInt8)) = false := by simp [cd]
              have bt : (op.toList == ([42] : List UInt8)) = false := by simp [cd]
              have bd : (op.toList == ([47] : List UInt8)) = true := by simp [cd]
              have br : (op.toList == ([109, 111, 100] : List UInt8)) = false := by simp [cd]
              have R : rawI op.toList a b = fl a b := by simp [rawI, cd]
              have B : opB op.toList = true := by simp [opB, cd]
              have D : divB op.toList = true := by simp [divB, cd]
              by_cases hb : b = 0
              · have hbb : (b == 0) = true := by simp [hb]
                have E2 : Aside0 (intE op.toList a b = 20) := ⟨by subst hb; simp [intE, fa, fb, B, D]⟩
                have E1 : Aside0 (intV op.toList a b = 0) := ⟨by simp [intV, E2.out]⟩
                clear cp cm ct cd R B D hb
                go_enter Try.func16, Try.ntmps16
                go_wp2_with (first | (go_at_call 18; refine (refFits_calls _ _).mono ?_; rintro e w' ⟨rfl, rfl⟩))
                go_ret2
                exact ⟨by rw [E1.out, E2.out]; rfl, rfl⟩
              · have hbb : (b == 0) = false := by simp [hb]
                obtain ⟨f0, f1, f2, f3⟩ := fl_range a b hb h0 h1 g0 g1
                have HL := ref_left a b hb
                have HQ := ref_quo a b hb
                obtain ⟨t0, t1⟩ := tmod_range a b h0 h1
                have hs := fl_spec a b hb
                have s0 : -2147483648 ≤ a - b * fl a b := by omega
                have s1 : a - b * fl a b ≤ 2147483648 := by omega
                clear hs
                by_cases ff : fits (fl a b) = true
                · have E2 : Aside0 (intE op.toList a b = 0) := ⟨by simp [intE, fa, fb, B, R, ff, D, hb]⟩
                  have E1 : Aside0 (intV op.toList a b = fl a b) := ⟨by simp [intV, E2.out, R]⟩
                  clear cp cm ct cd R B D
                  go_enter Try.func16, Try.ntmps16
                  go_wp2_with (first | (go_at_call 18; refine (refFits_calls _ _).mono ?_; rintro e w' ⟨rfl, rfl⟩))
                  go_ret2
                  exact ⟨by rw [E1.out, E2.out]; rfl, rfl⟩
                · have ff' := eq_false_of_ne_true ff
                  have E2 : Aside0 (intE op.toList a b = 19) := ⟨by simp [intE, fa, fb, B, R, ff', D, hb]⟩
                  have E1 : Aside0 (intV op.toList a b = 0) := ⟨by simp [intV, E2.out]⟩
                  clear cp cm ct cd R B D ff
                  go_enter Try.func16, Try.ntmps16
                  go_wp2_with (first | (go_at_call 18; refine (refFits_calls _ _).mono ?_; rintro e w' ⟨rfl, rfl⟩))
                  go_ret2
                  exact ⟨by rw [E1.out, E2.out]; rfl, rfl⟩
            · skip
              by_cases cr : op.toList = [109, 111, 100]
              · have bp : (op.toList == ([43] : List UInt8)) = false := by simp [cr]
                have bm : (op.toList == ([45] : List UInt8)) = false := by simp [cr]
                have bt : (op.toList == ([42] : List UInt8)) = false := by simp [cr]
                have bd : (op.toList == ([47] : List UInt8)) = false := by simp [cr]
                have br : (op.toList == ([109, 111, 100] : List UInt8)) = true := by simp [cr]
                have R : rawI op.toList a b = a - b * fl a b := by simp [rawI, cr]
                have B : opB op.toList = true := by simp [opB, cr]
                have D : divB op.toList = true := by simp [divB, cr]
                by_cases hb : b = 0
                · have hbb : (b == 0) = true := by simp [hb]
                  have E2 : Aside0 (intE op.toList a b = 20) := ⟨by subst hb; simp [intE, fa, fb, B, D]⟩
                  have E1 : Aside0 (intV op.toList a b = 0) := ⟨by simp [intV, E2.out]⟩
                  clear cp cm ct cd cr R B D hb
                  go_enter Try.func16, Try.ntmps16
                  go_wp2_with (first | (go_at_call 18; refine (refFits_calls _ _).mono ?_; rintro e w' ⟨rfl, rfl⟩))
                  go_ret2
                  exact ⟨by rw [E1.out, E2.out]; rfl, rfl⟩
                · have hbb : (b == 0) = false := by simp [hb]
                  obtain ⟨f0, f1, f2, f3⟩ := fl_range a b hb h0 h1 g0 g1
                  have HL := ref_left a b hb
                  have HQ := ref_quo a b hb
                  obtain ⟨t0, t1⟩ := tmod_range a b h0 h1
                  have hs := fl_spec a b hb
                  have s0 : -2147483648 ≤ a - b * fl a b := by omega
                  have s1 : a - b * fl a b ≤ 2147483648 := by omega
                  clear hs
                  by_cases ff : fits (a - b * fl a b) = true
                  · have E2 : Aside0 (intE op.toList a b = 0) := ⟨by simp [intE, fa, fb, B, R, ff, D, hb]⟩
                    have E1 : Aside0 (intV op.toList a b = a - b * fl a b) := ⟨by simp [intV, E2.out, R]⟩
                    clear cp cm ct cd cr R B D
                    go_enter Try.func16, Try.ntmps16
                    go_wp2_with (first | (go_at_call 18; refine (refFits_calls _ _).mono ?_; rintro e w' ⟨rfl, rfl⟩))
                    go_ret2
                    exact ⟨by rw [E1.out, E2.out]; rfl, rfl⟩
                  · have ff' := eq_false_of_ne_true ff
                    have E2 : Aside0 (intE op.toList a b = 19) := ⟨by simp [intE, fa, fb, B, R, ff', D, hb]⟩
                    have E1 : Aside0 (intV op.toList a b = 0) := ⟨by simp [intV, E2.out]⟩
                    clear cp cm ct cd cr R B D ff
                    go_enter Try.func16, Try.ntmps16
                    go_wp2_with (first | (go_at_call 18; refine (refFits_calls _ _).mono ?_; rintro e w' ⟨rfl, rfl⟩))
                    go_ret2
                    exact ⟨by rw [E1.out, E2.out]; rfl, rfl⟩
              · have bp : (op.toList == ([43] : List UInt8)) = false := by simp [cp]
                have bm : (op.toList == ([45] : List UInt8)) = false := by simp [cm]
                have bt : (op.toList == ([42] : List UInt8)) = false := by simp [ct]
                have bd : (op.toList == ([47] : List UInt8)) = false := by simp [cd]
                have br : (op.toList == ([109, 111, 100] : List UInt8)) = false := by simp [cr]
                have B : opB op.toList = false := by simp [opB, bp, bm, bt, bd, br]
                have E2 : Aside0 (intE op.toList a b = 2) := ⟨by simp [intE, B]⟩
                have E1 : Aside0 (intV op.toList a b = 0) := ⟨by simp [intV, E2.out]⟩
                clear cp cm ct cd cr B
                go_enter Try.func16, Try.ntmps16
                go_wp2_with (first | (go_at_call 18; refine (refFits_calls _ _).mono ?_; rintro e w' ⟨rfl, rfl⟩))
                go_ret2
                exact ⟨by rw [E1.out, E2.out]; rfl, rfl⟩
    · have fb' := eq_false_of_ne_true fb
      have E2 : Aside0 (intE op.toList a b = 2) := ⟨by simp [intE, fb']⟩
      have E1 : Aside0 (intV op.toList a b = 0) := ⟨by simp [intV, E2.out]⟩
      clear fb
      go_enter Try.func16, Try.ntmps16
      go_wp2_with (first | (go_at_call 18; refine (refFits_calls _ _).mono ?_; rintro e w' ⟨rfl, rfl⟩))
      go_ret2
      exact ⟨by rw [E1.out, E2.out]; rfl, rfl⟩
  · have fa' := eq_false_of_ne_true fa
    have E2 : Aside0 (intE op.toList a b = 2) := ⟨by simp [intE, fa']⟩
    have E1 : Aside0 (intV op.toList a b = 0) := ⟨by simp [intV, E2.out]⟩
    clear fa
    go_enter Try.func16, Try.ntmps16
    go_wp2_with (first | (go_at_call 18; refine (refFits_calls _ _).mono ?_; rintro e w' ⟨rfl, rfl⟩))
    go_ret2
    exact ⟨by rw [E1.out, E2.out]; rfl, rfl⟩
end Go.Proofs.Ytaffdpgacggllaa.V
