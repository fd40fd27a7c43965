/- Contracts of the statements' helper long. -/
import Derived.Test.YtaffdpgacggllaaVx
namespace Go.Proofs.Ytaffdpgacggllaa.V
open Go.RowKit Go.Proofs.YtaffdpgacggllaaW.PrintWords Go.Proofs.YtaffdpgacggllaaW.PrintLast Go.Proofs.YtaffdpgacggllaaW.PrintMore
attribute [local go_sem] max2_int min2_int max_two min_two
set_option linter.unusedVariables false
set_option linter.unusedSimpArgs false


def longB (n : Nat) : Bool := decide (200 < n)
theorem long1_calls (xs : List Int) (A : Option Addr) (c g0 : Nat) (w : World) (hx : Rd w A xs) (hc0 : w.cell? ⟨g0, 0, none⟩ = some (.slice A xs.length c)) :
    Calls Try.prog 30 #[.slice (some ⟨g0, 0, none⟩) 1 1] w fun e w' => e = .returned (.bool (longB xs.length)) ∧ w = w' := by
  have hm := hx.le
  have hcz : w.cell? ⟨g0, 0, none⟩ = some (.slice A xs.length c) := hc0
  clear hx hc0
  by_cases h : xs.length ≤ 200
  · have E : Aside0 (longB xs.length = false) := ⟨by simp [longB]; omega⟩
    go_enter Try.func30, Try.ntmps30
    go_wp2
    go_loop [7] (fun i => ∃ k : Nat, k ≤ 1 ∧ i = .int .i64 k) (fun i => 1 - (intOf i).toNat)
    case atStart => exact ⟨0, by omega, rfl⟩
    case round =>
      obtain ⟨k, hk, rfl⟩ := hrel
      rcases (show k = 0 ∨ k = 1 by omega) with rfl | rfl
      · go_wp2
        go_round
        case rel => exact ⟨1, by omega, rfl⟩
        case measure => simp [intOf]
      · go_wp2
        go_ret
        exact ⟨ret_bool (by rw [E.out]), rfl⟩
  · have E : Aside0 (longB xs.length = true) := ⟨by simp [longB]; omega⟩
    go_enter Try.func30, Try.ntmps30
    go_wp2
    go_loop [7] (fun i => i = .int .i64 0) (fun i => 0)
    case atStart => rfl
    case round =>
      obtain rfl := hrel
      go_wp2
      go_ret
      exact ⟨ret_bool (by rw [E.out]), rfl⟩
theorem long2_calls (xs ys : List Int) (A B : Option Addr) (c d g0 : Nat) (w : World) (hx : Rd w A xs) (hy : Rd w B ys) (hc0 : w.cell? ⟨g0, 0, none⟩ = some (.slice A xs.length c)) (hc1 : w.cell? ⟨g0, 1, none⟩ = some (.slice B ys.length d)) :
    Calls Try.prog 30 #[.slice (some ⟨g0, 0, none⟩) 2 2] w fun e w' => e = .returned (.bool (longB xs.length || longB ys.length)) ∧ w = w' := by
  have hm := hx.le
  have hm2 := hy.le
  have hcz : w.cell? ⟨g0, 0, none⟩ = some (.slice A xs.length c) := hc0
  clear hx hc0 hy
  by_cases h : xs.length ≤ 200
  · by_cases h2 : ys.length ≤ 200
    · have E : Aside0 ((longB xs.length || longB ys.length) = false) := ⟨by simp [longB]; omega⟩
      go_enter Try.func30, Try.ntmps30
      go_wp2
      go_loop [7] (fun i => ∃ k : Nat, k ≤ 2 ∧ i = .int .i64 k) (fun i => 2 - (intOf i).toNat)
      case atStart => exact ⟨0, by omega, rfl⟩
      case round =>
        obtain ⟨k, hk, rfl⟩ := hrel
        rcases (show k = 0 ∨ k = 1 ∨ k = 2 by omega) with rfl | rfl | rfl
        · go_wp2
          go_round
          case rel => exact ⟨1, by omega, rfl⟩
          case measure => simp [intOf]
        · go_wp2
          go_round
          case rel => exact ⟨2, by omega, rfl⟩
          case measure => simp [intOf]
        · go_wp2
          go_ret
          exact ⟨ret_bool (by rw [E.out]), rfl⟩
    · have E : Aside0 ((longB xs.length || longB ys.length) = true) := ⟨by simp [longB]; omega⟩
      go_enter Try.func30, Try.ntmps30
      go_wp2
      go_loop [7] (fun i => ∃ k : Nat, k ≤ 1 ∧ i = .int .i64 k) (fun i => 1 - (intOf i).toNat)
      case atStart => exact ⟨0, by omega, rfl⟩
      case round =>
        obtain ⟨k, hk, rfl⟩ := hrel
        rcases (show k = 0 ∨ k = 1 by omega) with rfl | rfl
        · go_wp2
          go_round
          case rel => exact ⟨1, by omega, rfl⟩
          case measure => simp [intOf]
        · go_wp2
          go_ret
          exact ⟨ret_bool (by rw [E.out]), rfl⟩
  · have E : Aside0 ((longB xs.length || longB ys.length) = true) := ⟨by simp [longB]; omega⟩
    go_enter Try.func30, Try.ntmps30
    go_wp2
    go_loop [7] (fun i => i = .int .i64 0) (fun i => 0)
    case atStart => rfl
    case round =>
      obtain rfl := hrel
      go_wp2
      go_ret
      exact ⟨ret_bool (by rw [E.out]), rfl⟩
end Go.Proofs.Ytaffdpgacggllaa.V
