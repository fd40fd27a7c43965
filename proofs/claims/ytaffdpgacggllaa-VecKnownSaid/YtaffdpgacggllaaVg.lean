/- Contracts of functions of package vec, the seventh part: Less, Signed, Same, Number, Of, ToVec; Same of the reference. -/
import Derived.Test.YtaffdpgacggllaaVf
namespace Go.Proofs.Ytaffdpgacggllaa.V
open Go.RowKit Go.Proofs.YtaffdpgacggllaaW.PrintWords Go.Proofs.YtaffdpgacggllaaW.PrintLast Go.Proofs.YtaffdpgacggllaaW.PrintMore
set_option linter.unusedVariables false
set_option linter.unusedSimpArgs false
section
variable (xs ys : List Int) (A B : Option Addr) (c d : Nat) (w : World)
theorem cmp_bad (f : Value) (hx : Rd w A xs) (hy : Rd w B ys) (h : pairB xs ys = false) :
    Calls Try.prog 66 #[.agg #[.slice A xs.length c, .slice B ys.length d], f] w fun e w' => e = .returned (.tuple #[.bool false, .int .i64 2]) ∧ Below w.heap.size w w' := by
  have HB : Aside0 (∀ o, Below w.heap.size w (w.alloc o)) := ⟨fun o => (Below.refl _ _).alloc (Nat.le_refl _) o⟩
  have HX := Aside0.mk hx
  have HY := Aside0.mk hy
  have H := Aside0.mk h
  clear hx hy h
  go_enter Try.func66, Try.ntmps66
  go_wp2_with fail
  refine (valid_calls _ _ _ _ _ _ _ (HX.out.below (HB.out _)) (HY.out.below (HB.out _))).mono ?_
  rintro e w1 ⟨rfl, hb1⟩
  rw [show ((isV xs && isV ys) && decide (xs.length = ys.length)) = false from H.out]
  have HB1 := Aside0.mk (below_step (HB.out _) hb1)
  clear hb1
  go_wp2_with fail
  go_ret2
  exact ⟨rfl, HB1.out⟩

def lessB (xs ys : List Int) : Bool := pairB xs ys && (bothB xs ys && decide (num xs < num ys))
def signedB (xs ys : List Int) : Bool := pairB xs ys && (bothB xs ys && decide (upTo (64 - xs.length) (num xs) < upTo (64 - xs.length) (num ys)))
theorem less_calls (hx : Rd w A xs) (hy : Rd w B ys) :
    Calls Try.prog 27 #[.slice A xs.length c, .slice B ys.length d] w fun e w' => e = .returned (.tuple #[.bool (lessB xs ys), .int .i64 (compE xs ys)]) ∧ Below w.heap.size w w' := by
  have HX := Aside0.mk hx
  have HY := Aside0.mk hy
  clear hx hy
  go_enter Try.func27, Try.ntmps27
  go_wp2_with fail
  refine (cmpLess_calls _ _ _ _ _ _ _ HX.out HY.out).mono ?_
  rintro e w1 ⟨rfl, hb1⟩
  have HB1 := Aside0.mk hb1
  clear hb1
  rw [show (pairB xs ys && (bothB xs ys && decide (num xs < num ys))) = lessB xs ys from rfl]
  go_wp2_with fail
  go_ret2
  exact ⟨rfl, HB1.out⟩
theorem signed_calls (hx : Rd w A xs) (hy : Rd w B ys) :
    Calls Try.prog 29 #[.slice A xs.length c, .slice B ys.length d] w fun e w' => e = .returned (.tuple #[.bool (signedB xs ys), .int .i64 (compE xs ys)]) ∧ Below w.heap.size w w' := by
  have HX := Aside0.mk hx
  have HY := Aside0.mk hy
  have hm := hx.le
  have HB : Aside0 (∀ o, Below w.heap.size w (w.alloc o)) := ⟨fun o => (Below.refl _ _).alloc (Nat.le_refl _) o⟩
  clear hx hy
  by_cases h : pairB xs ys = true
  · have H := Aside0.mk h
    have hn := isV_pos (pairB_pos h).1
    have hn1 := hn.1
    have hn2 := hn.2.1
    have hu : ((64 - xs.length : Nat) : Int) = 64 - (xs.length : Int) := by omega
    have HU := Aside0.mk hu
    clear h hn hu
    go_enter Try.func29, Try.ntmps29
    go_wp2_with fail
    refine (cmpSigned_calls _ _ _ _ _ _ _ (64 - xs.length) w.heap.size (by omega) ?c1 ?c2 ?c3 ?c4).mono ?_
    case c1 => rw [HU.out]; simp
    case c2 => simp
    case c3 => exact HX.out.below (HB.out _)
    case c4 => exact HY.out.below (HB.out _)
    rintro e w1 ⟨rfl, hb1⟩
    have HB1 := Aside0.mk (below_step (HB.out _) hb1)
    clear hb1
    rw [show (pairB xs ys && (bothB xs ys && decide (upTo (64 - xs.length) (num xs) < upTo (64 - xs.length) (num ys)))) = signedB xs ys from rfl]
    go_wp2_with fail
    go_ret2
    exact ⟨rfl, HB1.out⟩
  · have h' := eq_false_of_ne_true h
    have E2 : Aside0 (compE xs ys = 2) := ⟨by simp [compE, h']⟩
    have E3 : Aside0 (signedB xs ys = false) := ⟨by simp [signedB, h']⟩
    have H := Aside0.mk h'
    clear h h'
    go_enter Try.func29, Try.ntmps29
    go_wp2_with fail
    refine (cmp_bad _ _ _ _ _ _ _ _ ?c3 ?c4 H.out).mono ?_
    case c3 => exact HX.out.below (HB.out _)
    case c4 => exact HY.out.below (HB.out _)
    rintro e w1 ⟨rfl, hb1⟩
    have HB1 := Aside0.mk (below_step (HB.out _) hb1)
    clear hb1
    go_wp2_with fail
    go_ret2
    exact ⟨by rw [E2.out, E3.out]; rfl, HB1.out⟩
end

theorem eq_of_take (xs ys : List Int) (h : xs.length = ys.length) (k : Nat) (hk : k < xs.length) (h1 : xs.take k = ys.take k) (h2 : nth xs k = nth ys k) : xs.take (k + 1) = ys.take (k + 1) := by
  rw [nth_eq _ _ hk, nth_eq _ _ (by omega)] at h2
  rw [List.take_succ_eq_append_getElem hk, List.take_succ_eq_append_getElem (by omega), h1, h2]
theorem ne_of_nth (xs ys : List Int) (k : Nat) (h : nth xs k ≠ nth ys k) : xs ≠ ys := fun e => h (by rw [e])
def eqB (xs ys : List Int) : Bool := decide (xs = ys)
section
variable (xs ys : List Int) (A B : Option Addr) (c d : Nat) (w : World)
set_option maxRecDepth 100000 in
theorem equal_calls (hx : Rd w A xs) (hy : Rd w B ys) :
    Calls Try.prog 69 #[.slice A xs.length c, .slice B ys.length d] w fun e w' => e = .returned (.bool (eqB xs ys)) ∧ ∃ n, w' = w.drewN n := by
  have hm := hx.le
  have HX := Aside0.mk hx
  have HY := Aside0.mk hy
  clear hx hy
  by_cases hl : xs.length = ys.length
  · have HL := Aside0.mk hl
    have hlb : ((xs.length : Int) != (ys.length : Int)) = false := by simp [hl]
    clear hl
    go_enter Try.func69, Try.ntmps69
    go_wp2
    go_loopw [13] (fun i wr => ∃ k n : Nat, k ≤ xs.length ∧ i = .int .i64 k ∧ Aside0 (xs.take k = ys.take k) ∧ wr = w.drewN n) (fun i _ => xs.length - (intOf i).toNat)
    case atStart => exact ⟨0, 0, Nat.zero_le _, rfl, ⟨by simp⟩, rfl⟩
    case round =>
      obtain ⟨k, n, hk, rfl, HA, rfl⟩ := hrel
      by_cases hlt : k < xs.length
      · have hlt2 : k < ys.length := by have := HL.out; omega
        obtain ⟨ad, e120, hcx⟩ := HX.out.at_ k hlt
        cases e120
        obtain ⟨bd, e121, hcy⟩ := HY.out.at_ k hlt2
        cases e121
        by_cases hb : nth xs k = nth ys k
        · have hbb : (nth xs k != nth ys k) = false := by simp [hb]
          have HE := Aside0.mk hb
          clear hb
          go_wp2
          go_quiet (fail)
          go_wp2
          go_roundw
          case rel => exact ⟨k + 1, _, by omega, by go_num, ⟨eq_of_take _ _ HL.out k hlt HA.out HE.out⟩, rfl⟩
          case measure => simp [intOf]; omega
        · have hbb : (nth xs k != nth ys k) = true := by simp [hb]
          have HE : Aside0 (eqB xs ys = false) := ⟨by simp only [eqB, decide_eq_false_iff_not]; exact ne_of_nth _ _ k hb⟩
          clear hb
          go_wp2
          go_quiet (fail)
          go_wp2
          go_ret
          exact ⟨ret_bool (by rw [HE.out]), _, World.drewN_drewN ..⟩
      · have HE : Aside0 (eqB xs ys = true) := ⟨by have := HA.out; have h2 := HL.out; rw [List.take_of_length_le (by omega), List.take_of_length_le (by omega)] at this; simp [eqB, this]⟩
        go_wp2
        go_ret
        exact ⟨ret_bool (by rw [HE.out]), _, rfl⟩
  · have hlb : ((xs.length : Int) != (ys.length : Int)) = true := by simp; omega
    have HE : Aside0 (eqB xs ys = false) := ⟨by simp only [eqB, decide_eq_false_iff_not]; exact fun e => hl (by rw [e])⟩
    clear hl
    go_enter Try.func69, Try.ntmps69
    go_wp2
    go_ret
    exact ⟨ret_bool (by rw [HE.out]), 0, rfl⟩
set_option maxRecDepth 100000 in
theorem refSame_calls (hx : Rd w A xs) (hy : Rd w B ys) :
    Calls Try.prog 22 #[.slice A xs.length c, .slice B ys.length d] w fun e w' => e = .returned (.bool (eqB xs ys)) ∧ ∃ n, w' = w.drewN n := by
  have hm := hx.le
  have HX := Aside0.mk hx
  have HY := Aside0.mk hy
  clear hx hy
  by_cases hl : xs.length = ys.length
  · have HL := Aside0.mk hl
    have hlb : ((xs.length : Int) != (ys.length : Int)) = false := by simp [hl]
    clear hl
    go_enter Try.func22, Try.ntmps22
    go_wp2
    go_loopw [13] (fun i wr => ∃ k n : Nat, k ≤ xs.length ∧ i = .int .i64 k ∧ Aside0 (xs.take k = ys.take k) ∧ wr = w.drewN n) (fun i _ => xs.length - (intOf i).toNat)
    case atStart => exact ⟨0, 0, Nat.zero_le _, rfl, ⟨by simp⟩, rfl⟩
    case round =>
      obtain ⟨k, n, hk, rfl, HA, rfl⟩ := hrel
      by_cases hlt : k < xs.length
      · have hlt2 : k < ys.length := by have := HL.out; omega
        obtain ⟨ad, e120, hcx⟩ := HX.out.at_ k hlt
        cases e120
        obtain ⟨bd, e121, hcy⟩ := HY.out.at_ k hlt2
        cases e121
        by_cases hb : nth xs k = nth ys k
        · have hbb : (nth xs k != nth ys k) = false := by simp [hb]
          have HE := Aside0.mk hb
          clear hb
          go_wp2
          go_quiet (fail)
          go_wp2
          go_roundw
          case rel => exact ⟨k + 1, _, by omega, by go_num, ⟨eq_of_take _ _ HL.out k hlt HA.out HE.out⟩, rfl⟩
          case measure => simp [intOf]; omega
        · have hbb : (nth xs k != nth ys k) = true := by simp [hb]
          have HE : Aside0 (eqB xs ys = false) := ⟨by simp only [eqB, decide_eq_false_iff_not]; exact ne_of_nth _ _ k hb⟩
          clear hb
          go_wp2
          go_quiet (fail)
          go_wp2
          go_ret
          exact ⟨ret_bool (by rw [HE.out]), _, World.drewN_drewN ..⟩
      · have HE : Aside0 (eqB xs ys = true) := ⟨by have := HA.out; have h2 := HL.out; rw [List.take_of_length_le (by omega), List.take_of_length_le (by omega)] at this; simp [eqB, this]⟩
        go_wp2
        go_ret
        exact ⟨ret_bool (by rw [HE.out]), _, rfl⟩
  · have hlb : ((xs.length : Int) != (ys.length : Int)) = true := by simp; omega
    have HE : Aside0 (eqB xs ys = false) := ⟨by simp only [eqB, decide_eq_false_iff_not]; exact fun e => hl (by rw [e])⟩
    clear hl
    go_enter Try.func22, Try.ntmps22
    go_wp2
    go_ret
    exact ⟨ret_bool (by rw [HE.out]), 0, rfl⟩
def sameB (xs ys : List Int) : Bool := pairB xs ys && eqB xs ys
theorem same_calls (hx : Rd w A xs) (hy : Rd w B ys) :
    Calls Try.prog 28 #[.slice A xs.length c, .slice B ys.length d] w fun e w' => e = .returned (.tuple #[.bool (sameB xs ys), .int .i64 (compE xs ys)]) ∧ Below w.heap.size w w' := by
  have HX := Aside0.mk hx
  have HY := Aside0.mk hy
  clear hx hy
  by_cases h : pairB xs ys = true
  · have H := Aside0.mk h
    have E2 : Aside0 (compE xs ys = 0) := ⟨by simp [compE, h]⟩
    have E3 : Aside0 (sameB xs ys = eqB xs ys) := ⟨by simp [sameB, h]⟩
    clear h
    go_enter Try.func28, Try.ntmps28
    go_wp2_with fail
    refine (valid_calls _ _ _ _ _ _ _ HX.out HY.out).mono ?_
    rintro e w1 ⟨rfl, hb1⟩
    have HB1 := Aside0.mk hb1
    clear hb1
    rw [show ((isV xs && isV ys) && decide (xs.length = ys.length)) = true from H.out]
    go_wp2_with fail
    refine (equal_calls _ _ _ _ _ _ _ (HX.out.below HB1.out) (HY.out.below HB1.out)).mono ?_
    rintro e w2 ⟨rfl, n, rfl⟩
    go_wp2_with fail
    go_ret2
    exact ⟨by rw [E2.out, E3.out]; rfl, pw_below_drewN HB1.out _⟩
  · have h' := eq_false_of_ne_true h
    have H := Aside0.mk h'
    have E2 : Aside0 (compE xs ys = 2) := ⟨by simp [compE, h']⟩
    have E3 : Aside0 (sameB xs ys = false) := ⟨by simp [sameB, h']⟩
    clear h h'
    go_enter Try.func28, Try.ntmps28
    go_wp2_with fail
    refine (valid_calls _ _ _ _ _ _ _ HX.out HY.out).mono ?_
    rintro e w1 ⟨rfl, hb1⟩
    have HB1 := Aside0.mk hb1
    clear hb1
    rw [show ((isV xs && isV ys) && decide (xs.length = ys.length)) = false from H.out]
    go_wp2_with fail
    go_ret2
    exact ⟨by rw [E2.out, E3.out]; rfl, HB1.out⟩
end
end Go.Proofs.Ytaffdpgacggllaa.V
