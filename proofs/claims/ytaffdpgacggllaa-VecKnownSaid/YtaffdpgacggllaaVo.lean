/- Contracts of the reference's functions on vectors, and of the statements' own helpers: Bit, Is, Known, Covers, sure, covers, copied, long. -/
import Derived.Test.YtaffdpgacggllaaVn
namespace Go.Proofs.Ytaffdpgacggllaa.V
open Go.RowKit Go.Proofs.YtaffdpgacggllaaW.PrintWords Go.Proofs.YtaffdpgacggllaaW.PrintLast Go.Proofs.YtaffdpgacggllaaW.PrintMore
attribute [local go_sem] max2_int min2_int max_two min_two
set_option linter.unusedVariables false
set_option linter.unusedSimpArgs false

theorem refBit_calls (b : Int) (w : World) (h0 : 0 ≤ b) : Calls Try.prog 59 #[.int .u8 b] w fun e w' => e = .returned (.bool (isBit b)) ∧ w = w' := by
  rcases (show b = 0 ∨ b = 1 ∨ b = 2 ∨ b = 3 ∨ 3 < b by omega) with rfl | rfl | rfl | rfl | h
  · go_enter Try.func59, Try.ntmps59
    go_wp2
    go_ret
    exact ⟨rfl, rfl⟩
  · go_enter Try.func59, Try.ntmps59
    go_wp2
    go_ret
    exact ⟨rfl, rfl⟩
  · go_enter Try.func59, Try.ntmps59
    go_wp2
    go_ret
    exact ⟨rfl, rfl⟩
  · go_enter Try.func59, Try.ntmps59
    go_wp2
    go_ret
    exact ⟨rfl, rfl⟩
  · have E : Aside0 (isBit b = false) := ⟨by simp [isBit]; omega⟩
    have e0 : (b == 0) = false := by simp; omega
    have e1 : (b == 1) = false := by simp; omega
    have e2 : (b == 2) = false := by simp; omega
    have e3 : (b == 3) = false := by simp; omega
    clear h h0
    go_enter Try.func59, Try.ntmps59
    go_wp2
    go_ret
    exact ⟨ret_bool (by rw [E.out]), rfl⟩
theorem refBit_to (b : Int) (w : World) (h0 : 0 ≤ b) (r : Bool) (hr : isBit b = r) : Calls Try.prog 59 #[.int .u8 b] w fun e w' => e = .returned (.bool r) ∧ w = w' := by
  rw [← hr]; exact refBit_calls b w h0
section
variable (xs ys : List Int) (A B : Option Addr) (c d : Nat) (w : World)
theorem refIs_calls (hr : Rd w A xs) : Calls Try.prog 19 #[.slice A xs.length c] w fun e w' => e = .returned (.bool (isV xs)) ∧ w = w' := by
  have hm := hr.le
  have HR := Aside0.mk hr
  clear hr
  go_enter Try.func19, Try.ntmps19
  go_wp2
  go_loop [7] (fun i => ∃ k : Nat, k ≤ xs.length ∧ i = .int .i64 k ∧ Aside0 ((xs.take k).all isBit = true)) (fun i => xs.length - (intOf i).toNat)
  case atStart => exact ⟨0, Nat.zero_le _, rfl, ⟨by simp⟩⟩
  case round =>
    obtain ⟨k, hk, rfl, HA⟩ := hrel
    by_cases hlt : k < xs.length
    · obtain ⟨ad, e120, hx⟩ := HR.out.at_ k hlt
      cases e120
      by_cases hb : isBit (nth xs k) = true
      · have HB := Aside0.mk hb
        clear hb
        go_wp2_with (go_at_call 59; refine (refBit_to _ _ (HR.out.b.nth k).1 true HB.out).mono ?_; rintro e w' ⟨rfl, rfl⟩)
        go_round
        case rel => exact ⟨k + 1, by omega, by go_num, ⟨by rw [take_succ_all _ _ hlt, HA.out, HB.out]; rfl⟩⟩
        case measure => simp [intOf]; omega
      · have HB := Aside0.mk (eq_false_of_ne_true hb)
        have HV : Aside0 (isV xs = false) := ⟨by simp only [isV, not_all xs k hlt HB.out, Bool.and_false]⟩
        clear hb
        go_wp2_with (go_at_call 59; refine (refBit_to _ _ (HR.out.b.nth k).1 false HB.out).mono ?_; rintro e w' ⟨rfl, rfl⟩)
        go_ret
        exact ⟨ret_bool (by rw [HV.out]), rfl⟩
    · have HX : xs.all isBit = true := by have := HA.out; rwa [show k = xs.length by omega, List.take_length] at this
      by_cases h1 : 1 ≤ xs.length
      · have HV : Aside0 (isV xs = decide (xs.length ≤ 64)) := ⟨by simp [isV, h1, HX]⟩
        have HV2 : Aside0 (decide ((xs.length : Int) ≤ 64) = decide (xs.length ≤ 64)) := ⟨by rw [decide_eq_decide]; omega⟩
        clear HX
        go_wp2
        go_ret
        exact ⟨ret_bool (by rw [HV.out, ← HV2.out]), rfl⟩
      · have HV : Aside0 (isV xs = false) := ⟨by simp [isV, h1]⟩
        have h1' : decide (1 ≤ (xs.length : Int)) = false := by simp; omega
        clear HX
        go_wp2
        go_ret
        exact ⟨ret_bool (by rw [HV.out]), rfl⟩
def sureB (xs : List Int) : Bool := isV xs && knownB xs
def knownE (xs : List Int) : Int := if isV xs = false then 2 else 0
theorem refKnown_calls (hr : Rd w A xs) : Calls Try.prog 63 #[.slice A xs.length c] w fun e w' => e = .returned (.tuple #[.bool (sureB xs), .int .i64 (knownE xs)]) ∧ w = w' := by
  have hm := hr.le
  have HR := Aside0.mk hr
  clear hr
  by_cases hv : isV xs = true
  · have H := Aside0.mk hv
    have E1 : Aside0 (sureB xs = knownB xs) := ⟨by simp [sureB, hv]⟩
    have E2 : Aside0 (knownE xs = 0) := ⟨by simp [knownE, hv]⟩
    clear hv
    go_enter Try.func63, Try.ntmps63
    go_wp2_with fail
    refine (refIs_calls _ _ _ _ HR.out).mono ?_
    rintro e w1 ⟨rfl, rfl⟩
    rw [H.out]
    go_wp2_with fail
    go_loop [11] (fun i => ∃ k : Nat, k ≤ xs.length ∧ i = .int .i64 k ∧ Aside0 ((xs.take k).all le1 = true)) (fun i => xs.length - (intOf i).toNat)
    case atStart => exact ⟨0, Nat.zero_le _, rfl, ⟨by simp⟩⟩
    case round =>
      obtain ⟨k, hk, rfl, HA⟩ := hrel
      by_cases hlt : k < xs.length
      · obtain ⟨ad, e120, hx⟩ := HR.out.at_ k hlt
        cases e120
        by_cases hb : nth xs k ≤ 1
        · have HB : Aside0 (le1 (nth xs k) = true) := ⟨by simpa [le1] using hb⟩
          go_wp2
          go_round
          case rel => exact ⟨k + 1, by omega, by go_num, ⟨by rw [take_succ_all _ _ hlt, HA.out, HB.out]; rfl⟩⟩
          case measure => simp [intOf]; omega
        · have HB : Aside0 (le1 (nth xs k) = false) := ⟨by simpa [le1] using hb⟩
          have E3 : Aside0 (knownB xs = false) := ⟨not_all xs k hlt HB.out⟩
          go_wp2
          go_ret2
          exact ⟨by rw [E1.out, E2.out, E3.out]; rfl, rfl⟩
      · have E3 : Aside0 (knownB xs = true) := ⟨by have := HA.out; rwa [show k = xs.length by omega, List.take_length] at this⟩
        go_wp2
        go_ret2
        exact ⟨by rw [E1.out, E2.out, E3.out]; rfl, rfl⟩
  · have hv' := eq_false_of_ne_true hv
    have H := Aside0.mk hv'
    have E1 : Aside0 (sureB xs = false) := ⟨by simp [sureB, hv']⟩
    have E2 : Aside0 (knownE xs = 2) := ⟨by simp [knownE, hv']⟩
    clear hv hv'
    go_enter Try.func63, Try.ntmps63
    go_wp2_with fail
    refine (refIs_calls _ _ _ _ HR.out).mono ?_
    rintro e w1 ⟨rfl, rfl⟩
    rw [H.out]
    go_wp2_with fail
    go_ret2
    exact ⟨by rw [E1.out, E2.out]; rfl, rfl⟩
theorem sure_calls (hr : Rd w A xs) : Calls Try.prog 23 #[.slice A xs.length c] w fun e w' => e = .returned (.bool (sureB xs)) ∧ w = w' := by
  have HR := Aside0.mk hr
  clear hr
  cases h : sureB xs
  · have H := Aside0.mk h
    clear h
    go_enter Try.func23, Try.ntmps23
    go_wp2_with fail
    refine (refKnown_calls _ _ _ _ HR.out).mono ?_
    rintro e w1 ⟨rfl, rfl⟩
    rw [H.out]
    go_wp2_with fail
    go_ret
    exact ⟨rfl, rfl⟩
  · have E : Aside0 (knownE xs = 0) := ⟨by simp only [sureB, Bool.and_eq_true] at h; simp [knownE, h.1]⟩
    have H := Aside0.mk h
    clear h
    go_enter Try.func23, Try.ntmps23
    go_wp2_with fail
    refine (refKnown_calls _ _ _ _ HR.out).mono ?_
    rintro e w1 ⟨rfl, rfl⟩
    rw [H.out, E.out]
    go_wp2_with fail
    go_ret
    exact ⟨rfl, rfl⟩
set_option maxRecDepth 100000 in
theorem copied_calls (hx : Rd w A xs) (h : xs.length ≤ 1000) :
    Calls Try.prog 25 #[.slice A xs.length c] w fun e w' => ∃ v, e = .returned v ∧ Own w' w.heap.size v xs ∧ Below w.heap.size w w' := by
  have HX := Aside0.mk hx
  have HB := Aside0.mk ((Below.refl w.heap.size w).alloc (Nat.le_refl _) (.cells #[] 37))
  have HO := Aside0.mk (Own.empty w)
  clear hx
  go_enter Try.func25, Try.ntmps25
  go_wp2_with (at_builtin; refine ap_bits (w0 := w) rfl (.tmp 3) (.tmp 4) 29 rfl Try.underlying29 (.slice (some ⟨w.heap.size, 0, none⟩) 0 0) [] xs A c rfl rfl HO.out (HX.out.below HB.out) HB.out (by simp; omega) ?_; intro v1 w1 ho hb; rw [List.nil_append] at ho; clear HO HB; have HO := Aside0.mk ho; have HB := Aside0.mk hb; clear ho hb)
  go_ret
  exact ⟨_, rfl, HO.out, HB.out⟩
end
end Go.Proofs.Ytaffdpgacggllaa.V
