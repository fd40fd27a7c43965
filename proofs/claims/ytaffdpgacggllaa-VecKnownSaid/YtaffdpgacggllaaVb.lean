/- Contracts of functions of package vec, the second part: numbers of vectors and vectors of numbers. -/
import Derived.Test.YtaffdpgacggllaaVa
namespace Go.Proofs.Ytaffdpgacggllaa.V
open Go.RowKit Go.Proofs.YtaffdpgacggllaaW.PrintWords Go.Proofs.YtaffdpgacggllaaW.PrintLast Go.Proofs.YtaffdpgacggllaaW.PrintMore
set_option linter.unusedVariables false
set_option linter.unusedSimpArgs false

theorem valid_calls (xs ys : List Int) (A B : Option Addr) (c d : Nat) (w : World) (hx : Rd w A xs) (hy : Rd w B ys) :
    Calls Try.prog 68 #[.agg #[.slice A xs.length c, .slice B ys.length d]] w fun e w' => e = .returned (.bool ((isV xs && isV ys) && decide (xs.length = ys.length))) ∧ Below w.heap.size w w' := by
  have HX := Aside0.mk hx
  have HY := Aside0.mk hy
  clear hx hy
  have HB : Aside0 (∀ o, Below w.heap.size w (w.alloc o)) := ⟨fun o => (Below.refl _ _).alloc (Nat.le_refl _) o⟩
  by_cases h1 : isV xs = true
  · by_cases h2 : isV ys = true
    · have H1 := Aside0.mk h1
      have H2 := Aside0.mk h2
      clear h1 h2
      go_enter Try.func68, Try.ntmps68
      go_wp2_with fail
      refine (logicIs_calls _ _ _ _ (HX.out.below (HB.out _))).mono ?_
      rintro e w' ⟨rfl, rfl⟩
      rw [H1.out]
      go_wp2_with fail
      refine (logicIs_calls _ _ _ _ (HY.out.below (HB.out _))).mono ?_
      rintro e w' ⟨rfl, rfl⟩
      rw [H2.out]
      go_wp2_with fail
      go_ret
      exact ⟨ret_bool (by rw [H1.out, H2.out, ← beq_nat]; rfl), HB.out _⟩
    · have H1 := Aside0.mk h1
      have H2 := Aside0.mk (eq_false_of_ne_true h2)
      clear h1 h2
      go_enter Try.func68, Try.ntmps68
      go_wp2_with fail
      refine (logicIs_calls _ _ _ _ (HX.out.below (HB.out _))).mono ?_
      rintro e w' ⟨rfl, rfl⟩
      rw [H1.out]
      go_wp2_with fail
      refine (logicIs_calls _ _ _ _ (HY.out.below (HB.out _))).mono ?_
      rintro e w' ⟨rfl, rfl⟩
      rw [H2.out]
      go_wp2_with fail
      go_ret
      exact ⟨ret_bool (by rw [H1.out, H2.out]; rfl), HB.out _⟩
  · have H1 := Aside0.mk (eq_false_of_ne_true h1)
    clear h1
    go_enter Try.func68, Try.ntmps68
    go_wp2_with fail
    refine (logicIs_calls _ _ _ _ (HX.out.below (HB.out _))).mono ?_
    rintro e w' ⟨rfl, rfl⟩
    rw [H1.out]
    go_wp2_with fail
    go_ret
    exact ⟨ret_bool (by rw [H1.out]; rfl), HB.out _⟩

theorem number_calls (xs : List Int) (A : Option Addr) (c : Nat) (w : World) (hr : Rd w A xs) (h1 : knownB xs = true) (h64 : xs.length ≤ 64) :
    Calls Try.prog 81 #[.slice A xs.length c] w fun e w' => e = .returned (.int .u64 (num xs)) ∧ w = w' := by
  have HR := Aside0.mk hr
  have HK := Aside0.mk h1
  clear hr h1
  go_enter Try.func81, Try.ntmps81
  go_wp2
  go_loop [3, 8] (fun n i => ∃ k : Nat, k ≤ xs.length ∧ i = .int .i64 k ∧ n = .int .u64 (num (xs.take k))) (fun _ i => xs.length - (intOf i).toNat)
  case atStart => exact ⟨0, Nat.zero_le _, rfl, rfl⟩
  case round =>
    obtain ⟨k, hk, rfl, rfl⟩ := hrel
    by_cases hlt : k < xs.length
    · obtain ⟨ad, e120, hx⟩ := HR.out.at_ k hlt
      cases e120
      go_wp2
      go_round
      case rel => refine ⟨k + 1, by omega, by go_num, ?_⟩; 
                  have hb := HR.out.b.nth k
                  have h1 := known_le HK.out k
                  have hn := num_bounds (xs.take k) (byt_take HR.out.b k) (known_take HK.out k)
                  rw [List.length_take, Nat.min_eq_left hk] at hn
                  rw [shl_bit k (by omega) _ hb.1 h1, or_bit k (by omega) _ _ hn.1 hn.2 hb.1 h1, num_take_succ xs k hlt]
      case measure => simp [intOf]; omega
    · have HX : num (xs.take k) = num xs := by rw [show k = xs.length by omega, List.take_length]
      go_wp2
      go_ret
      exact ⟨rfl, rfl⟩

theorem of_calls (x : Int) (n : Nat) (w : World) (h0 : 0 ≤ x) (h1 : x < 18446744073709551616) (hn : 1 ≤ n) (hn2 : n ≤ 64) :
    Calls Try.prog 83 #[.int .u64 x, .int .i64 n] w fun e w' => ∃ v, e = .returned v ∧ Own w' w.heap.size v (bitsOf x n) ∧ Below w.heap.size w w' := by
  have HX1 := Aside0.mk h1
  clear h1
  go_enter Try.func83, Try.ntmps83
  go_wp2_with ((with_reducible refine gate_dst (N := 8) rfl ?_); refine mk_bits (w0 := w) rfl rfl 59 _ _ rfl n rfl rfl Try.underlying59 (by omega) (Below.refl _ _) ?_; intro v1 w1 ho hb; obtain ⟨g, cap, rfl, hg1, hg2⟩ := ho.form (by simp; omega); rw [List.length_replicate] at ho; have HO := Aside0.mk ho; have HB := Aside0.mk hb; clear ho hb hg2; simp only [List.length_replicate])
  go_loopw [11] (fun i wr => ∃ k : Nat, k ≤ n ∧ i = .int .i64 k ∧ Aside0 (Own wr w.heap.size (.slice (some ⟨g, 0, none⟩) n cap) (bitsOf x k ++ List.replicate (n - k) 0)) ∧ Aside0 (Below w.heap.size w wr)) (fun i _ => n - (intOf i).toNat)
  case atStart => exact ⟨0, Nat.zero_le _, rfl, ⟨by simpa [bitsOf] using HO.out⟩, HB⟩
  case round =>
    clear HO HB
    obtain ⟨k, hk, rfl, HO, HB⟩ := hrel
    by_cases hlt : k < n
    · obtain ⟨hc, hf⟩ := HO.out.cell k hlt
      go_wp2
      go_roundw
      case rel =>
        rw [of_bit x k h0 HX1.out]
        have hm := mod2_byte (x / 2 ^ k)
        exact ⟨k + 1, by omega, by go_num, ⟨by rw [bitsOf_succ, ← fill_step _ k n (bitsOf_length x k) hlt]; exact HO.out.put k hm.1 hm.2.1⟩, ⟨HB.out.setCell hg1 _⟩⟩
      case measure => simp [intOf]; omega
    · have HX : Aside0 (Own wr w.heap.size (.slice (some ⟨g, 0, none⟩) n cap) (bitsOf x n)) := ⟨by have := HO.out; rw [show k = n by omega] at this; simpa using this⟩
      go_wp2
      go_ret
      exact ⟨_, rfl, HX.out, HB.out⟩
end Go.Proofs.Ytaffdpgacggllaa.V
