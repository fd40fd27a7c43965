/- Contracts of the reference's functions, the seventh part: ToInt. -/
import Derived.Test.YtaffdpgacggllaaVz
namespace Go.Proofs.Ytaffdpgacggllaa.V
open Go.RowKit Go.Proofs.YtaffdpgacggllaaW.PrintWords Go.Proofs.YtaffdpgacggllaaW.PrintLast Go.Proofs.YtaffdpgacggllaaW.PrintMore
attribute [local go_sem] max2_int min2_int max_two min_two
set_option linter.unusedVariables false
set_option linter.unusedSimpArgs false


section
variable (xs : List Int) (A : Option Addr) (c : Nat) (w : World)
theorem ones_drop_num (k : Nat) (hk : k < xs.length) : num ((ones xs).drop k) = one1 (nth xs k) + 2 * num ((ones xs).drop (k + 1)) := by
  rw [drop_num (ones xs) k (by rw [ones_length]; exact hk), ones_nth _ _ hk]
set_option maxRecDepth 100000 in
set_option maxHeartbeats 2000000 in
theorem refToInt_calls (hx : Rd w A xs) :
    Calls Try.prog 44 #[.slice A xs.length c] w fun e w' => e = .returned (.tuple #[.int .i64 (toIntV xs), .int .i64 (toIntE xs)]) ∧ w = w' := by
  have HX := Aside0.mk hx
  have hm := hx.le
  clear hx
  cases h : isV xs
  · have H := Aside0.mk h
    have E1 : Aside0 (toIntV xs = 0) := ⟨by simp [toIntV, h]⟩
    have E2 : Aside0 (toIntE xs = 2) := ⟨by simp [toIntE, h]⟩
    clear h
    go_enter Try.func44, Try.ntmps44
    go_wp2_with fail
    refine (refIs_calls _ _ _ _ HX.out).mono ?_
    rintro e w1 ⟨rfl, rfl⟩
    rw [H.out]
    go_wp2_with fail
    go_ret2
    exact ⟨by rw [E1.out, E2.out]; rfl, rfl⟩
  · by_cases k : xs.length ≤ 31
    · have H := Aside0.mk h
      have E1 : Aside0 (toIntV xs = num (ones xs)) := ⟨by simp [toIntV, h, k]⟩
      have E2 : Aside0 (toIntE xs = 0) := ⟨by simp [toIntE, h, k]⟩
      clear h hm
      go_enter Try.func44, Try.ntmps44
      go_wp2_with fail
      refine (refIs_calls _ _ _ _ HX.out).mono ?_
      rintro e w1 ⟨rfl, rfl⟩
      rw [H.out]
      go_wp2_with fail
      go_loop [4, 16] (fun n i => ∃ j : Nat, j ≤ xs.length ∧ i = .int .i64 j ∧ n = .int .i64 (num ((ones xs).drop (xs.length - j)))) (fun _ i => xs.length - (intOf i).toNat)
      case atStart => exact ⟨0, Nat.zero_le _, rfl, by rw [Nat.sub_zero, List.drop_of_length_le (by rw [ones_length]; exact Nat.le_refl _)]; rfl⟩
      case round =>
        obtain ⟨j, hj, rfl, rfl⟩ := hrel
        by_cases hlt : j < xs.length
        · obtain ⟨q, hq⟩ : ∃ q : Nat, q = xs.length - 1 - j := ⟨_, rfl⟩
          have hqi : (xs.length : Int) - 1 - j = q := by omega
          have hq0 : q < xs.length := by omega
          obtain ⟨ad, e120, hc⟩ := HX.out.at_ q hq0
          cases e120
          have hd := ones_drop_num xs q hq0
          rw [show q + 1 = xs.length - j by omega] at hd
          have hb := num_bounds ((ones xs).drop (xs.length - j)) (byt_drop (ones_byt xs) _) (known_drop (ones_known xs) _)
          rw [List.length_drop, ones_length, show xs.length - (xs.length - j) = j by omega] at hb
          have hp : (2 : Int) ^ j ≤ 2147483648 := by
            have h1 : 2 ^ j ≤ 2 ^ 31 := Nat.pow_le_pow_right (by decide) (by omega)
            have h2 : ((2 ^ j : Nat) : Int) ≤ ((2 ^ 31 : Nat) : Int) := by exact_mod_cast h1
            simpa using h2
          have b0 : 0 ≤ num ((ones xs).drop (xs.length - j)) := hb.1
          have b1 : num ((ones xs).drop (xs.length - j)) ≤ 2147483648 := by omega
          have HQ : Aside0 (num ((ones xs).drop (xs.length - (j + 1))) = num ((ones xs).drop q)) := ⟨by rw [show xs.length - (j + 1) = q by omega]⟩
          by_cases h1 : nth xs q = 1
          · have hbb : (nth xs q == 1) = true := by simp [h1]
            have HS : Aside0 (num ((ones xs).drop q) = 2 * num ((ones xs).drop (xs.length - j)) + 1) := ⟨by rw [hd, h1]; simp [one1]; omega⟩
            clear hd hb hp hq h1
            go_wp2
            go_round
            case rel => exact ⟨j + 1, by omega, by go_num, by rw [HQ.out, HS.out]⟩
            case measure => simp [intOf]; omega
          · have hbb : (nth xs q == 1) = false := by simp [h1]
            have HS : Aside0 (num ((ones xs).drop q) = 2 * num ((ones xs).drop (xs.length - j))) := ⟨by rw [hd]; simp [one1, h1]⟩
            clear hd hb hp hq h1
            go_wp2
            go_round
            case rel => exact ⟨j + 1, by omega, by go_num, by rw [HQ.out, HS.out]⟩
            case measure => simp [intOf]; omega
        · have HN : num ((ones xs).drop (xs.length - j)) = num (ones xs) := by rw [show xs.length - j = 0 by omega, List.drop_zero]
          go_wp2
          go_ret2
          exact ⟨by rw [E1.out, E2.out]; rfl, rfl⟩
    · have H := Aside0.mk h
      have E1 : Aside0 (toIntV xs = 0) := ⟨by simp [toIntV, k]⟩
      have E2 : Aside0 (toIntE xs = 19) := ⟨by simp [toIntE, h, k]⟩
      clear h
      go_enter Try.func44, Try.ntmps44
      go_wp2_with fail
      refine (refIs_calls _ _ _ _ HX.out).mono ?_
      rintro e w1 ⟨rfl, rfl⟩
      rw [H.out]
      go_wp2_with fail
      go_ret2
      exact ⟨by rw [E1.out, E2.out]; rfl, rfl⟩
end
end Go.Proofs.Ytaffdpgacggllaa.V
