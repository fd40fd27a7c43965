/- Contracts of functions of package vec, the first part. -/
import Derived.Test.YtaffdpgacggllaaVp
namespace Go.Proofs.Ytaffdpgacggllaa.V
open Go.RowKit Go.Proofs.YtaffdpgacggllaaW.PrintWords Go.Proofs.YtaffdpgacggllaaW.PrintLast Go.Proofs.YtaffdpgacggllaaW.PrintMore
attribute [local go_sem] max2_int min2_int max_two min_two
set_option linter.unusedVariables false
set_option linter.unusedSimpArgs false

theorem isBit_calls (b : Int) (w : World) : Calls Try.prog 93 #[.int .u8 b] w fun e w' => e = .returned (.bool (isBit b)) ∧ w = w' := by
  go_enter Try.func93, Try.ntmps93
  go_wp2
  go_ret
  exact ⟨rfl, rfl⟩
theorem notBit_calls (b : Int) (r : Bool) (w : World) (h : isBit b = !r) : Calls Try.prog 92 #[.int .u8 b] w fun e w' => e = .returned (.bool r) ∧ w = w' := by
  have H := Aside0.mk h
  clear h
  go_enter Try.func92, Try.ntmps92
  go_wp2_with (go_at_call 93; refine (isBit_calls _ _).mono ?_; rintro e w' ⟨rfl, rfl⟩)
  go_ret
  exact ⟨ret_bool (by rw [H.out]; simp), rfl⟩
theorem index_calls (xs : List Int) (A : Option Addr) (c : Nat) (w : World) (hr : Rd w A xs) :
    Calls Try.prog 102 #[.slice A xs.length c, .func (.func 92) #[] #[]] w fun e w' => (∃ n : Int, e = .returned (.int .i64 n) ∧ (decide (0 ≤ n) = !(xs.all isBit))) ∧ w = w' := by
  have hm : xs.length ≤ 9223372036854775807 := hr.le
  have HR := Aside0.mk hr
  clear hr
  go_enter Try.func102, Try.ntmps102
  go_wp2
  go_loop [8] (fun i => ∃ k : Nat, k ≤ xs.length ∧ i = .int .i64 k ∧ Aside0 ((xs.take k).all isBit = true)) (fun i => xs.length - (intOf i).toNat)
  case atStart => exact ⟨0, Nat.zero_le _, rfl, ⟨by simp⟩⟩
  case round =>
    obtain ⟨k, hk, rfl, HA⟩ := hrel
    by_cases hlt : k < xs.length
    · obtain ⟨ad, e120, hx⟩ := HR.out.at_ k hlt
      cases e120
      by_cases hb : isBit (nth xs k) = true
      · have HB := Aside0.mk hb
        clear hb
        go_wp2_with (go_at_call 92; refine (notBit_calls _ false _ HB.out).mono ?_; rintro e w' ⟨rfl, rfl⟩)
        go_round
        case rel => exact ⟨k + 1, by omega, by go_num, ⟨by rw [take_succ_all _ _ hlt, HA.out, HB.out]; rfl⟩⟩
        case measure => simp [intOf]; omega
      · have HB := Aside0.mk (eq_false_of_ne_true hb)
        clear hb
        go_wp2_with (go_at_call 92; refine (notBit_calls _ true _ HB.out).mono ?_; rintro e w' ⟨rfl, rfl⟩)
        go_ret
        exact ⟨⟨_, rfl, by rw [not_all xs k hlt HB.out]; simp⟩, rfl⟩
    · have hk' : k = xs.length := by omega
      have HA' : xs.all isBit = true := by have := HA.out; rwa [hk', List.take_length] at this
      have HX := Aside0.mk HA'
      clear HA' hk'
      go_wp2
      go_ret
      exact ⟨⟨_, rfl, by rw [HX.out]; rfl⟩, rfl⟩
theorem contains_calls (xs : List Int) (A : Option Addr) (c : Nat) (w : World) (hr : Rd w A xs) :
    Calls Try.prog 91 #[.slice A xs.length c, .func (.func 92) #[] #[]] w fun e w' => e = .returned (.bool !(xs.all isBit)) ∧ w = w' := by
  have HR := Aside0.mk hr
  clear hr
  go_enter Try.func91, Try.ntmps91
  go_wp2_with (go_at_call 102; refine (index_calls _ _ _ _ HR.out).mono ?_; rintro e w' ⟨⟨n, rfl, hn⟩, rfl⟩)
  go_ret
  exact ⟨rfl, rfl⟩
theorem logicIs_calls (xs : List Int) (A : Option Addr) (c : Nat) (w : World) (hr : Rd w A xs) :
    Calls Try.prog 78 #[.slice A xs.length c] w fun e w' => e = .returned (.bool (isV xs)) ∧ w = w' := by
  have HR := Aside0.mk hr
  have hm := hr.le
  clear hr
  by_cases h1 : 1 ≤ xs.length
  · by_cases h2 : xs.length ≤ 64
    · have HV : Aside0 (isV xs = xs.all isBit) := ⟨by simp [isV, h1, h2]⟩
      go_enter Try.func78, Try.ntmps78
      go_wp2_with (go_at_call 91; refine (contains_calls _ _ _ _ HR.out).mono ?_; rintro e w' ⟨rfl, rfl⟩)
      go_ret
      exact ⟨ret_bool (by rw [HV.out]), rfl⟩
    · have HV : Aside0 (isV xs = false) := ⟨by simp [isV, h2]⟩
      go_enter Try.func78, Try.ntmps78
      go_wp2_with (go_at_call 91; refine (contains_calls _ _ _ _ HR.out).mono ?_; rintro e w' ⟨rfl, rfl⟩)
      go_ret
      exact ⟨ret_bool (by rw [HV.out]), rfl⟩
  · have HV : Aside0 (isV xs = false) := ⟨by simp [isV, h1]⟩
    go_enter Try.func78, Try.ntmps78
    go_wp2_with (go_at_call 91; refine (contains_calls _ _ _ _ HR.out).mono ?_; rintro e w' ⟨rfl, rfl⟩)
    go_ret
    exact ⟨ret_bool (by rw [HV.out]), rfl⟩

theorem max_calls (xs : List Int) (A : Option Addr) (c : Nat) (w : World) (hr : Rd w A xs) (h1 : 1 ≤ xs.length) :
    Calls Try.prog 94 #[.slice A xs.length c] w fun e w' => (∃ n : Int, e = .returned (.int .u8 n) ∧ (decide (n ≤ 1) = knownB xs)) ∧ w = w' := by
  have hm : xs.length ≤ 9223372036854775807 := hr.le
  obtain ⟨ad, e120, hx0⟩ := hr.at_ 0 (by omega)
  have HR := Aside0.mk hr
  clear hr
  cases e120
  replace hx0 : w.cell? ad = some (.int .u8 (nth xs 0)) := hx0
  go_enter Try.func94, Try.ntmps94
  go_wp2
  go_loop [3, 4] (fun m i => ∃ (k : Nat) (n : Int), 1 ≤ k ∧ k ≤ xs.length ∧ i = .int .i64 k ∧ m = .int .u8 n ∧ Aside0 (decide (n ≤ 1) = knownB (xs.take k))) (fun _ i => xs.length - (intOf i).toNat)
  case atStart => exact ⟨1, _, by omega, h1, rfl, rfl, ⟨by rw [knownB, take_succ_all xs 0 (by omega)]; simp [le1]⟩⟩
  case round =>
    obtain ⟨k, n, hk1, hk, rfl, rfl, HA⟩ := hrel
    by_cases hlt : k < xs.length
    · obtain ⟨ad, e120, hx⟩ := HR.out.at_ k hlt
      cases e120
      go_wp2
      go_round
      case rel => exact ⟨k + 1, _, by omega, by omega, by go_num, rfl, ⟨by have := HA.out; simp only [knownB] at this ⊢; rw [take_succ_all xs k hlt, ← this]; simp only [le1, ← Bool.decide_and, decide_eq_decide]; omega⟩⟩
      case measure => simp [intOf]; omega
    · have HX : Aside0 (decide (n ≤ 1) = knownB xs) := ⟨by have := HA.out; rwa [show k = xs.length by omega, List.take_length] at this⟩
      go_wp2
      go_ret
      exact ⟨⟨_, rfl, HX.out⟩, rfl⟩
theorem known_calls (xs : List Int) (A : Option Addr) (c : Nat) (w : World) (hr : Rd w A xs) (h1 : 1 ≤ xs.length) :
    Calls Try.prog 80 #[.slice A xs.length c] w fun e w' => e = .returned (.bool (knownB xs)) ∧ w = w' := by
  have HR := Aside0.mk hr
  clear hr
  go_enter Try.func80, Try.ntmps80
  go_wp2_with (go_at_call 94; refine (max_calls _ _ _ _ HR.out h1).mono ?_; rintro e w' ⟨⟨n, rfl, hn⟩, rfl⟩)
  go_ret
  exact ⟨rfl, rfl⟩
end Go.Proofs.Ytaffdpgacggllaa.V
