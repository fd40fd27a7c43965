/- Contracts of functions of package vec, the eighth part: Number, Of, ToVec, Resize, ToInt, Left, Right. -/
import Derived.Test.YtaffdpgacggllaaVg
namespace Go.Proofs.Ytaffdpgacggllaa.V
open Go.RowKit Go.Proofs.YtaffdpgacggllaaW.PrintWords Go.Proofs.YtaffdpgacggllaaW.PrintLast Go.Proofs.YtaffdpgacggllaaW.PrintMore
set_option linter.unusedVariables false
set_option linter.unusedSimpArgs false

section
variable (xs : List Int) (A : Option Addr) (c : Nat) (w : World)
def numberV (xs : List Int) : Int := if isV xs && knownB xs then num xs else 0
def numberE (xs : List Int) : Int := if isV xs = false then 2 else if knownB xs = false then 4 else 0
theorem vecNumber_calls (hx : Rd w A xs) :
    Calls Try.prog 41 #[.slice A xs.length c] w fun e w' => e = .returned (.tuple #[.int .u64 (numberV xs), .int .i64 (numberE xs)]) ∧ w = w' := by
  have HX := Aside0.mk hx
  clear hx
  by_cases h : isV xs = true
  · have H := Aside0.mk h
    have hn := isV_pos h
    have hn1 := hn.1
    have hn2 := hn.2.1
    clear hn
    by_cases k : knownB xs = true
    · have K := Aside0.mk k
      have E1 : Aside0 (numberV xs = num xs) := ⟨by simp [numberV, h, k]⟩
      have E2 : Aside0 (numberE xs = 0) := ⟨by simp [numberE, h, k]⟩
      clear h k
      go_enter Try.func41, Try.ntmps41
      go_wp2_with fail
      refine (logicIs_calls _ _ _ _ HX.out).mono ?_
      rintro e w1 ⟨rfl, rfl⟩
      rw [H.out]
      go_wp2_with fail
      refine (known_calls _ _ _ _ HX.out hn1).mono ?_
      rintro e w1 ⟨rfl, rfl⟩
      rw [K.out]
      go_wp2_with fail
      refine (number_calls _ _ _ _ HX.out K.out hn2).mono ?_
      rintro e w1 ⟨rfl, rfl⟩
      go_wp2_with fail
      go_ret2
      exact ⟨by rw [E1.out, E2.out]; rfl, rfl⟩
    · have k' := eq_false_of_ne_true k
      have K := Aside0.mk k'
      have E1 : Aside0 (numberV xs = 0) := ⟨by simp [numberV, h, k']⟩
      have E2 : Aside0 (numberE xs = 4) := ⟨by simp [numberE, h, k']⟩
      clear h k k'
      go_enter Try.func41, Try.ntmps41
      go_wp2_with fail
      refine (logicIs_calls _ _ _ _ HX.out).mono ?_
      rintro e w1 ⟨rfl, rfl⟩
      rw [H.out]
      go_wp2_with fail
      refine (known_calls _ _ _ _ HX.out hn1).mono ?_
      rintro e w1 ⟨rfl, rfl⟩
      rw [K.out]
      go_wp2_with fail
      go_ret2
      exact ⟨by rw [E1.out, E2.out]; rfl, rfl⟩
  · have h' := eq_false_of_ne_true h
    have H := Aside0.mk h'
    have E1 : Aside0 (numberV xs = 0) := ⟨by simp [numberV, h']⟩
    have E2 : Aside0 (numberE xs = 2) := ⟨by simp [numberE, h']⟩
    clear h h'
    go_enter Try.func41, Try.ntmps41
    go_wp2_with fail
    refine (logicIs_calls _ _ _ _ HX.out).mono ?_
    rintro e w1 ⟨rfl, rfl⟩
    rw [H.out]
    go_wp2_with fail
    go_ret2
    exact ⟨by rw [E1.out, E2.out]; rfl, rfl⟩

def lenB (n : Int) : Bool := decide (1 ≤ n) && decide (n ≤ 64)
theorem isLength_calls (n : Int) : Calls Try.prog 82 #[.int .i64 n] w fun e w' => e = .returned (.bool (lenB n)) ∧ w = w' := by
  by_cases h : 1 ≤ n
  · have E : Aside0 (lenB n = decide (n ≤ 64)) := ⟨by simp [lenB, h]⟩
    go_enter Try.func82, Try.ntmps82
    go_wp2
    go_ret
    exact ⟨ret_bool (by rw [E.out]), rfl⟩
  · have E : Aside0 (lenB n = false) := ⟨by simp [lenB, h]⟩
    have h' : decide (1 ≤ n) = false := by simpa using h
    go_enter Try.func82, Try.ntmps82
    go_wp2
    go_ret
    exact ⟨ret_bool (by rw [E.out]), rfl⟩
def lenE (n err : Int) : Int := if lenB n then 0 else err
def ofV (k n : Int) : List Int := if lenB n then bitsOf (IntKind.u64.wrap k) n.toNat else []
end
theorem vecOf_calls (k n : Int) (w : World) :
    Calls Try.prog 45 #[.int .i64 k, .int .i64 n] w fun e w' => ∃ v, e = .returned (.tuple #[v, .int .i64 (lenE n 2)]) ∧ Own w' w.heap.size v (ofV k n) ∧ Below w.heap.size w w' := by
  by_cases h : lenB n = true
  · have H := Aside0.mk h
    have E : Aside0 (lenE n 2 = 0) := ⟨by simp [lenE, h]⟩
    have hl : 1 ≤ n ∧ n ≤ 64 := by simpa [lenB] using h
    obtain ⟨m, rfl⟩ := Int.eq_ofNat_of_zero_le (show 0 ≤ n by omega)
    have hl1 := hl.1
    have hl2 := hl.2
    have R := Aside0.mk (wrap_u64_range k)
    clear h hl
    go_enter Try.func45, Try.ntmps45
    go_wp2_with fail
    refine (isLength_calls _ _).mono ?_
    rintro e w1 ⟨rfl, rfl⟩
    rw [H.out]
    go_wp2_with fail
    refine (of_calls _ _ _ R.out.1 R.out.2 (by omega) (by omega)).mono ?_
    rintro e w1 ⟨v, rfl, ho, hb⟩
    have HO := Aside0.mk ho
    have HB := Aside0.mk hb
    clear ho hb
    go_wp2_with fail
    go_ret2
    exact ⟨v, by rw [E.out]; rfl, by simp only [ofV, H.out, if_true, Int.toNat_natCast]; exact HO.out, HB.out⟩
  · have h' := eq_false_of_ne_true h
    have H := Aside0.mk h'
    have E : Aside0 (lenE n 2 = 2) := ⟨by simp [lenE, h']⟩
    clear h h'
    go_enter Try.func45, Try.ntmps45
    go_wp2_with fail
    refine (isLength_calls _ _).mono ?_
    rintro e w1 ⟨rfl, rfl⟩
    rw [H.out]
    go_wp2_with fail
    go_ret2
    exact ⟨_, by rw [E.out]; rfl, by simp only [ofV, H.out]; exact Own.nil _ _, Below.refl _ _⟩
theorem vecToVec_calls (k n : Int) (w : World) :
    Calls Try.prog 47 #[.int .i64 k, .int .i64 n] w fun e w' => ∃ v, e = .returned (.tuple #[v, .int .i64 (lenE n 19)]) ∧ Own w' w.heap.size v (ofV k n) ∧ Below w.heap.size w w' := by
  by_cases h : lenB n = true
  · have H := Aside0.mk h
    have E : Aside0 (lenE n 19 = 0) := ⟨by simp [lenE, h]⟩
    have hl : 1 ≤ n ∧ n ≤ 64 := by simpa [lenB] using h
    obtain ⟨m, rfl⟩ := Int.eq_ofNat_of_zero_le (show 0 ≤ n by omega)
    have hl1 := hl.1
    have hl2 := hl.2
    have R := Aside0.mk (wrap_u64_range k)
    clear h hl
    go_enter Try.func47, Try.ntmps47
    go_wp2_with fail
    refine (isLength_calls _ _).mono ?_
    rintro e w1 ⟨rfl, rfl⟩
    rw [H.out]
    go_wp2_with fail
    refine (of_calls _ _ _ R.out.1 R.out.2 (by omega) (by omega)).mono ?_
    rintro e w1 ⟨v, rfl, ho, hb⟩
    have HO := Aside0.mk ho
    have HB := Aside0.mk hb
    clear ho hb
    go_wp2_with fail
    go_ret2
    exact ⟨v, by rw [E.out]; rfl, by simp only [ofV, H.out, if_true, Int.toNat_natCast]; exact HO.out, HB.out⟩
  · have h' := eq_false_of_ne_true h
    have H := Aside0.mk h'
    have E : Aside0 (lenE n 19 = 19) := ⟨by simp [lenE, h']⟩
    clear h h'
    go_enter Try.func47, Try.ntmps47
    go_wp2_with fail
    refine (isLength_calls _ _).mono ?_
    rintro e w1 ⟨rfl, rfl⟩
    rw [H.out]
    go_wp2_with fail
    go_ret2
    exact ⟨_, by rw [E.out]; rfl, by simp only [ofV, H.out]; exact Own.nil _ _, Below.refl _ _⟩
end Go.Proofs.Ytaffdpgacggllaa.V
