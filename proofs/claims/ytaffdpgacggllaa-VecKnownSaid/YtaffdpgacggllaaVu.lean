/- Contracts of the reference's functions, the third part: Not, Inverse, Number, before. -/
import Derived.Test.YtaffdpgacggllaaVt
namespace Go.Proofs.Ytaffdpgacggllaa.V
open Go.RowKit Go.Proofs.YtaffdpgacggllaaW.PrintWords Go.Proofs.YtaffdpgacggllaaW.PrintLast Go.Proofs.YtaffdpgacggllaaW.PrintMore
attribute [local go_sem] max2_int min2_int max_two min_two
set_option linter.unusedVariables false
set_option linter.unusedSimpArgs false

theorem of48 (w : World) : Calls Try.prog 101 #[.int .u8 48] w fun e w' => e = .returned (.tuple #[.int .u8 0, .bool true]) ∧ w = w' := by
  go_enter Try.func101, Try.ntmps101
  go_wp2
  go_ret2
  exact ⟨rfl, rfl⟩
theorem of49 (w : World) : Calls Try.prog 101 #[.int .u8 49] w fun e w' => e = .returned (.tuple #[.int .u8 1, .bool true]) ∧ w = w' := by
  go_enter Try.func101, Try.ntmps101
  go_wp2
  go_ret2
  exact ⟨rfl, rfl⟩
theorem of120 (w : World) : Calls Try.prog 101 #[.int .u8 120] w fun e w' => e = .returned (.tuple #[.int .u8 2, .bool true]) ∧ w = w' := by
  go_enter Try.func101, Try.ntmps101
  go_wp2
  go_ret2
  exact ⟨rfl, rfl⟩

def notB (b : Int) : Int := if b = 0 then 1 else if b = 1 then 0 else 2
theorem notB_byt (b : Int) : 0 ≤ notB b ∧ notB b ≤ 255 := by unfold notB; split <;> (try split) <;> omega
theorem refNot_calls (b : Int) (w : World) (h0 : 0 ≤ b) (h3 : b ≤ 3) : Calls Try.prog 90 #[.int .u8 b] w fun e w' => e = .returned (.tuple #[.int .u8 (notB b), .int .i64 0]) ∧ w = w' := by
  rcases (show b = 0 ∨ b = 1 ∨ b = 2 ∨ b = 3 by omega) with rfl | rfl | rfl | rfl
  · go_enter Try.func90, Try.ntmps90
    go_wp2_with (first | (go_at_call 59; refine (refBit_to _ _ (by omega) true rfl).mono ?_; rintro e w' ⟨rfl, rfl⟩) | (go_at_call 101; refine (of49 _).mono ?_; rintro e w' ⟨rfl, rfl⟩))
    go_ret2
    exact ⟨rfl, rfl⟩
  · go_enter Try.func90, Try.ntmps90
    go_wp2_with (first | (go_at_call 59; refine (refBit_to _ _ (by omega) true rfl).mono ?_; rintro e w' ⟨rfl, rfl⟩) | (go_at_call 101; refine (of48 _).mono ?_; rintro e w' ⟨rfl, rfl⟩))
    go_ret2
    exact ⟨rfl, rfl⟩
  · go_enter Try.func90, Try.ntmps90
    go_wp2_with (first | (go_at_call 59; refine (refBit_to _ _ (by omega) true rfl).mono ?_; rintro e w' ⟨rfl, rfl⟩) | (go_at_call 101; refine (of120 _).mono ?_; rintro e w' ⟨rfl, rfl⟩))
    go_ret2
    exact ⟨rfl, rfl⟩
  · go_enter Try.func90, Try.ntmps90
    go_wp2_with (first | (go_at_call 59; refine (refBit_to _ _ (by omega) true rfl).mono ?_; rintro e w' ⟨rfl, rfl⟩) | (go_at_call 101; refine (of120 _).mono ?_; rintro e w' ⟨rfl, rfl⟩))
    go_ret2
    exact ⟨rfl, rfl⟩
def invV (xs : List Int) : List Int := xs.map notB
theorem inv_take_succ (xs : List Int) (k : Nat) (hk : k < xs.length) : invV (xs.take (k + 1)) = invV (xs.take k) ++ [notB (nth xs k)] := by
  unfold invV
  rw [List.take_succ_eq_append_getElem hk, List.map_append, nth_eq _ _ hk]
  rfl
section
variable (xs ys : List Int) (A B : Option Addr) (c d : Nat) (w : World)
set_option maxRecDepth 100000 in
set_option maxHeartbeats 1000000 in
theorem refInverse_calls (hx : Rd w A xs) (hv : isV xs = true) :
    Calls Try.prog 75 #[.slice A xs.length c] w fun e w' => ∃ v, e = .returned (.tuple #[v, .int .i64 0]) ∧ Own w' w.heap.size v (invV xs) ∧ Below w.heap.size w w' := by
  have HB := Aside0.mk (Below.refl w.heap.size w)
  have HX := Aside0.mk hx
  have H := Aside0.mk hv
  have h64 := (isV_pos hv).2.1
  clear hx hv
  go_enter Try.func75, Try.ntmps75
  go_wp2_with fail
  refine (refIs_calls _ _ _ _ HX.out).mono ?_
  rintro e w1 ⟨rfl, rfl⟩
  rw [H.out]
  go_wp2_with fail
  go_loopw [4, 14] (fun v i wr => ∃ j : Nat, j ≤ xs.length ∧ i = .int .i64 j ∧ Aside0 (Own wr w.heap.size v (invV (xs.take j))) ∧ Aside0 (Below w.heap.size w wr)) (fun _ i _ => xs.length - (intOf i).toNat)
  case atStart => exact ⟨0, Nat.zero_le _, rfl, ⟨Own.nil _ _⟩, HB⟩
  case round =>
    clear HB
    obtain ⟨j, hj, rfl, HO, HB⟩ := hrel
    by_cases hlt : j < xs.length
    · obtain ⟨ad, e1, hc1⟩ := (HX.out.below HB.out).at_ j hlt
      cases e1
      have p0 := (notB_byt (nth xs j)).1
      have p1 := (notB_byt (nth xs j)).2
      have HS := Aside0.mk (inv_take_succ xs j hlt)
      go_wp2_with (first | (go_at_call 90; refine (refNot_calls _ _ (HX.out.b.nth j).1 (isV_bit H.out j)).mono ?_; rintro e w' ⟨rfl, rfl⟩) | (at_builtin; refine ap_bit (w0 := w) rfl (.tmp 23) (.tmp 25) 29 rfl Try.underlying29 u4 (invV (xs.take j)) (notB (nth xs j)) rfl rfl ?aP ?aQ HO.out HB.out ?aL ?_; (case aP => first | assumption | omega); (case aQ => first | assumption | omega); (case aL => unfold invV; rw [List.length_map, List.length_take]; omega); intro v1 w1 ho hb; clear HO HB; have HO := Aside0.mk ho; have HB := Aside0.mk hb; clear ho hb))
      go_roundw
      case rel => exact ⟨j + 1, by omega, by go_num, ⟨by rw [HS.out]; exact HO.out⟩, HB⟩
      case measure => simp [intOf]; omega
    · have HN : Aside0 (xs.take j = xs) := ⟨List.take_of_length_le (by omega)⟩
      go_wp2
      go_ret2
      exact ⟨_, rfl, by have := HO.out; rw [HN.out] at this; exact this, HB.out⟩
theorem drop_num (k : Nat) (hk : k < xs.length) : num (xs.drop k) = nth xs k + 2 * num (xs.drop (k + 1)) := by
  rw [List.drop_eq_getElem_cons hk, num, nth_eq _ _ hk]
theorem known_drop {xs : List Int} (h : knownB xs = true) (k : Nat) : knownB (xs.drop k) = true :=
  List.all_eq_true.2 fun x hx => List.all_eq_true.1 h x (List.mem_of_mem_drop hx)
theorem byt_drop {xs : List Int} (h : Byt xs) (k : Nat) : Byt (xs.drop k) := h.sub fun _ hx => List.mem_of_mem_drop hx
theorem wrap_small (x : Int) (h0 : 0 ≤ x) (h1 : x < 18446744073709551616) : IntKind.u64.wrap x = x := wraps_u64 x h0 (by omega)
set_option maxRecDepth 100000 in
set_option maxHeartbeats 1000000 in
theorem refNumber_calls (hx : Rd w A xs) :
    Calls Try.prog 42 #[.slice A xs.length c] w fun e w' => e = .returned (.tuple #[.int .u64 (numberV xs), .int .i64 (numberE xs)]) ∧ w = w' := by
  have HX := Aside0.mk hx
  clear hx
  cases h : isV xs
  · have H := Aside0.mk h
    have E1 : Aside0 (numberV xs = 0) := ⟨by simp [numberV, h]⟩
    have E2 : Aside0 (numberE xs = 2) := ⟨by simp [numberE, h]⟩
    clear h
    go_enter Try.func42, Try.ntmps42
    go_wp2_with fail
    refine (refIs_calls _ _ _ _ HX.out).mono ?_
    rintro e w1 ⟨rfl, rfl⟩
    rw [H.out]
    go_wp2_with fail
    go_ret2
    exact ⟨by rw [E1.out, E2.out]; rfl, rfl⟩
  · cases k : knownB xs
    · have H := Aside0.mk h
      have K : Aside0 (sureB xs = false) := ⟨by simp [sureB, k]⟩
      have E1 : Aside0 (numberV xs = 0) := ⟨by simp [numberV, k]⟩
      have E2 : Aside0 (numberE xs = 4) := ⟨by simp [numberE, h, k]⟩
      clear h k
      go_enter Try.func42, Try.ntmps42
      go_wp2_with fail
      refine (refIs_calls _ _ _ _ HX.out).mono ?_
      rintro e w1 ⟨rfl, rfl⟩
      rw [H.out]
      go_wp2_with fail
      refine (refKnown2_calls _ _ _ _ HX.out).mono ?_
      rintro e w1 ⟨rfl, rfl⟩
      rw [K.out]
      go_wp2_with fail
      go_ret2
      exact ⟨by rw [E1.out, E2.out]; rfl, rfl⟩
    · have H := Aside0.mk h
      have K : Aside0 (sureB xs = true) := ⟨by simp [sureB, h, k]⟩
      have K2 := Aside0.mk k
      have E1 : Aside0 (numberV xs = num xs) := ⟨by simp [numberV, h, k]⟩
      have E2 : Aside0 (numberE xs = 0) := ⟨by simp [numberE, h, k]⟩
      have h64 := (isV_pos h).2.1
      clear h k
      go_enter Try.func42, Try.ntmps42
      go_wp2_with fail
      refine (refIs_calls _ _ _ _ HX.out).mono ?_
      rintro e w1 ⟨rfl, rfl⟩
      rw [H.out]
      go_wp2_with fail
      refine (refKnown2_calls _ _ _ _ HX.out).mono ?_
      rintro e w1 ⟨rfl, rfl⟩
      rw [K.out]
      go_wp2_with fail
      go_loop [4, 16] (fun n i => ∃ j : Nat, j ≤ xs.length ∧ i = .int .i64 j ∧ n = .int .u64 (num (xs.drop (xs.length - j)))) (fun _ i => xs.length - (intOf i).toNat)
      case atStart => exact ⟨0, Nat.zero_le _, rfl, by simp [num]⟩
      case round =>
        obtain ⟨j, hj, rfl, rfl⟩ := hrel
        by_cases hlt : j < xs.length
        · obtain ⟨q, hq⟩ : ∃ q : Nat, q = xs.length - 1 - j := ⟨_, rfl⟩
          have hqi : (xs.length : Int) - 1 - j = q := by omega
          have hq0 : q < xs.length := by omega
          have hqa : ((xs.length : Int) - 1 - j).toNat = q := by omega
          obtain ⟨ad, e120, hc⟩ := HX.out.at_ q hq0
          cases e120
          have hd := drop_num xs q hq0
          rw [show q + 1 = xs.length - j by omega] at hd
          have hB := num_u64 (byt_drop HX.out.b q) (known_drop K2.out q) (by rw [List.length_drop]; omega)
          have hC := num_u64 (byt_drop HX.out.b (xs.length - j)) (known_drop K2.out (xs.length - j)) (by rw [List.length_drop]; omega)
          have hN := HX.out.b.nth q
          have s1 : IntKind.u64.wrap (2 * num (xs.drop (xs.length - j))) = 2 * num (xs.drop (xs.length - j)) := wrap_small _ (by omega) (by omega)
          have s2 : IntKind.u64.wrap (nth xs q) = nth xs q := wrap_small _ (by omega) (by omega)
          have s3 : IntKind.u64.wrap (2 * num (xs.drop (xs.length - j)) + nth xs q) = num (xs.drop q) := by rw [wrap_small _ (by omega) (by omega)]; omega
          have HQ : Aside0 (num (xs.drop (xs.length - (j + 1))) = num (xs.drop q)) := ⟨by rw [show xs.length - (j + 1) = q by omega]⟩
          clear hd hB hC hN hq
          go_wp2
          go_round
          case rel => exact ⟨j + 1, by omega, by go_num, by rw [HQ.out]⟩
          case measure => simp [intOf]; omega
        · have HN : num (xs.drop (xs.length - j)) = num xs := by rw [show xs.length - j = 0 by omega, List.drop_zero]
          go_wp2
          go_ret2
          exact ⟨by rw [E1.out, E2.out]; rfl, rfl⟩
end
end Go.Proofs.Ytaffdpgacggllaa.V
