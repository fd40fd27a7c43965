/- Contracts of the reference's functions: all, bits, sum, Inverse, Number, before. -/
import Derived.Test.YtaffdpgacggllaaVr
namespace Go.Proofs.Ytaffdpgacggllaa.V
open Go.RowKit Go.Proofs.YtaffdpgacggllaaW.PrintWords Go.Proofs.YtaffdpgacggllaaW.PrintLast Go.Proofs.YtaffdpgacggllaaW.PrintMore
attribute [local go_sem] max2_int min2_int max_two min_two
set_option linter.unusedVariables false
set_option linter.unusedSimpArgs false


set_option maxRecDepth 100000 in
theorem all_calls (x : Int) (n : Nat) (w : World) (h0 : 0 ≤ x) (h1 : x ≤ 255) (hn : n ≤ 64) :
    Calls Try.prog 73 #[.int .u8 x, .int .i64 n] w fun e w' => ∃ v, e = .returned v ∧ Own w' w.heap.size v (List.replicate n x) ∧ Below w.heap.size w w' := by
  have HB := Aside0.mk (Below.refl w.heap.size w)
  go_enter Try.func73, Try.ntmps73
  go_wp2
  go_loopw [5, 7] (fun v i wr => ∃ k : Nat, k ≤ n ∧ i = .int .i64 k ∧ Aside0 (Own wr w.heap.size v (List.replicate k x)) ∧ Aside0 (Below w.heap.size w wr)) (fun _ i _ => n - (intOf i).toNat)
  case atStart => exact ⟨0, Nat.zero_le _, rfl, ⟨Own.nil _ _⟩, HB⟩
  case round =>
    clear HB
    obtain ⟨k, hk, rfl, HO, HB⟩ := hrel
    by_cases hlt : k < n
    · go_wp2_with (at_builtin; refine ap_bit (w0 := w) rfl (.tmp 9) (.tmp 11) 29 rfl Try.underlying29 u5 (List.replicate k x) x rfl rfl ?aP ?aQ HO.out HB.out ?aL ?_; (case aP => first | assumption | omega); (case aQ => first | assumption | omega); (case aL => first | (simp; done) | (simp; omega) | (rw [bitsOf_length]; omega) | omega); intro v1 w1 ho hb; clear HO HB; have HO := Aside0.mk ho; have HB := Aside0.mk hb; clear ho hb)
      go_roundw
      case rel => exact ⟨k + 1, by omega, by go_num, ⟨by rw [List.replicate_succ']; exact HO.out⟩, HB⟩
      case measure => simp [intOf]; omega
    · have HX : Aside0 (k = n) := ⟨by omega⟩
      go_wp2
      go_ret
      exact ⟨_, rfl, by rw [← HX.out]; exact HO.out, HB.out⟩
theorem odd_tmod (q : Int) : (q.tmod 2 + 2) % 2 = q % 2 := by
  have h := tmod_facts q 2 (by decide)
  omega
theorem tmod2_range (q : Int) : -1 ≤ q.tmod 2 ∧ q.tmod 2 ≤ 1 := by
  have h := (tmod_facts q 2 (by decide)).2.1
  omega
theorem half_tdiv (q : Int) : (q - q % 2).tdiv 2 = q / 2 := by
  rw [show q - q % 2 = 2 * (q / 2) by omega]
  exact Int.mul_tdiv_cancel_left _ (by decide)
theorem div_pow_succ (k : Int) (i : Nat) : k / 2 ^ (i + 1) = k / 2 ^ i / 2 := by
  rw [Int.pow_succ, ← Int.ediv_ediv_of_nonneg (Int.le_of_lt (pow_pos' i))]
theorem div_range (k : Int) (i : Nat) (h0 : -9223372036854775808 ≤ k) (h1 : k ≤ 9223372036854775807) : -9223372036854775808 ≤ k / 2 ^ i ∧ k / 2 ^ i ≤ 9223372036854775807 := by
  induction i with
  | zero => simpa using ⟨h0, h1⟩
  | succ i ih => rw [div_pow_succ]; omega
set_option maxRecDepth 100000 in
set_option maxHeartbeats 1000000 in
theorem bits_calls (k : Int) (n : Nat) (w : World) (h0 : -9223372036854775808 ≤ k) (h1 : k ≤ 9223372036854775807) (hn : n ≤ 64) :
    Calls Try.prog 76 #[.int .i64 k, .int .i64 n] w fun e w' => ∃ v, e = .returned v ∧ Own w' w.heap.size v (bitsOf k n) ∧ Below w.heap.size w w' := by
  have HB := Aside0.mk (Below.refl w.heap.size w)
  have HK := Aside0.mk (And.intro h0 h1)
  clear h0 h1
  go_enter Try.func76, Try.ntmps76
  go_wp2
  go_loopw [0, 5, 8] (fun q v i wr => ∃ (j : Nat) (x : Int), j ≤ n ∧ i = .int .i64 j ∧ q = .int .i64 x ∧ Aside0 (x = k / 2 ^ j) ∧ Aside0 (Own wr w.heap.size v (bitsOf k j)) ∧ Aside0 (Below w.heap.size w wr)) (fun _ _ i _ => n - (intOf i).toNat)
  case atStart => exact ⟨0, k, Nat.zero_le _, rfl, rfl, ⟨by simp⟩, ⟨Own.nil _ _⟩, HB⟩
  case round =>
    clear HB
    obtain ⟨j, x, hj, rfl, rfl, HX, HO, HB⟩ := hrel
    by_cases hlt : j < n
    · have hr := div_range k j HK.out.1 HK.out.2
      rw [← HX.out] at hr
      obtain ⟨r0, r1⟩ := hr
      obtain ⟨t0, t1⟩ := tmod2_range x
      have ho : (x.tmod 2 + 2) % 2 = x % 2 := odd_tmod x
      have hh : (x - x % 2).tdiv 2 = x / 2 := half_tdiv x
      have hc : x % 2 % 256 = x % 2 := by omega
      have p0 : 0 ≤ x % 2 := by omega
      have p1 : x % 2 ≤ 255 := by omega
      go_wp2_with (at_builtin; refine ap_bit (w0 := w) rfl (.tmp 14) (.tmp 17) 29 rfl Try.underlying29 u5 (bitsOf k j) (x % 2) rfl rfl ?aP ?aQ HO.out HB.out ?aL ?_; (case aP => first | assumption | omega); (case aQ => first | assumption | omega); (case aL => first | (simp; done) | (simp; omega) | (rw [bitsOf_length]; omega) | omega); intro v1 w1 ho hb; clear HO HB; have HO := Aside0.mk ho; have HB := Aside0.mk hb; clear ho hb)
      go_roundw
      case rel => exact ⟨j + 1, x / 2, by omega, by go_num, rfl, ⟨by rw [HX.out, div_pow_succ]⟩, ⟨by rw [bitsOf_succ, ← HX.out]; exact HO.out⟩, HB⟩
      case measure => simp [intOf]; omega
    · have HN : Aside0 (j = n) := ⟨by omega⟩
      go_wp2
      go_ret
      exact ⟨_, rfl, by rw [← HN.out]; exact HO.out, HB.out⟩
end Go.Proofs.Ytaffdpgacggllaa.V
