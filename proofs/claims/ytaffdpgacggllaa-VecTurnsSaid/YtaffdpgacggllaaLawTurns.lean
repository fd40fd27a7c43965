/- The walk of the statement VecTurns. -/
import Derived.Test.YtaffdpgacggllaaUb
namespace Go.Proofs.Ytaffdpgacggllaa.V
open Go.RowKit Go.Proofs.YtaffdpgacggllaaW.PrintWords Go.Proofs.YtaffdpgacggllaaW.PrintLast Go.Proofs.YtaffdpgacggllaaW.PrintMore
attribute [local go_sem] max2_int min2_int max_two min_two
set_option linter.unusedVariables false
set_option linter.unusedSimpArgs false

theorem turn_len (n : Int) : ∃ N : Nat, 1 ≤ N ∧ N ≤ 64 ∧ wrap64 (1 + wrap64 ((IntKind.u64.wrap n).tmod 64)) = (N : Int) := by
  have h := wrap_u64_range n
  have e : (IntKind.u64.wrap n).tmod 64 = IntKind.u64.wrap n % 64 := Int.tmod_eq_emod_of_nonneg h.1
  refine ⟨(1 + IntKind.u64.wrap n % 64).toNat, by omega, by omega, ?_⟩
  rw [e]
  generalize IntKind.u64.wrap n = x at *
  unfold wrap64
  omega
theorem turn_rem (k : Int) (N : Nat) (h : N < 64) : (IntKind.u64.wrap k).tmod (IntKind.u64.wrap (2 ^ N)) = k % 2 ^ N := by
  have p := pow_le_63 N h
  have q := pow_pos' N
  rw [wraps_u64 (2 ^ N) (by omega) (by omega), Int.tmod_eq_emod_of_nonneg (wrap_u64_range k).1, wrap_u64]
  exact Int.emod_emod_of_dvd _ (by exact ⟨2 ^ (64 - N), by rw [← Int.pow_add]; congr 1; omega⟩)
theorem turn_nz (N : Nat) (h : N < 64) : ¬ IntKind.u64.wrap (2 ^ N) = 0 := by
  have p := pow_le_63 N h
  have q := pow_pos' N
  rw [wraps_u64 (2 ^ N) (by omega) (by omega)]; omega
theorem turn_i (k : Int) (N : Nat) (h : N ≤ 31) : IntKind.u64.wrap (k % 2 ^ N) = k % 2 ^ N := by
  have p := pow_le_63 N (by omega)
  have q := pow_pos' N
  exact wraps_u64 _ (Int.emod_nonneg _ (by omega)) (by have := Int.emod_lt_of_pos k q; omega)
set_option maxRecDepth 100000 in
set_option maxHeartbeats 8000000 in
theorem turns_small1 (w : World) (k n more : Int) (hk : -9223372036854775808 ≤ k ∧ k ≤ 9223372036854775807) (N M : Nat) (h1 : 1 ≤ N) (h2 : N ≤ 64) (eN : wrap64 (1 + wrap64 ((IntKind.u64.wrap n).tmod 64)) = (N : Int)) (m1 : 1 ≤ M) (m2 : M ≤ 64) (eM : wrap64 (1 + wrap64 ((IntKind.u64.wrap more).tmod 64)) = (M : Int)) (h3 : N ≤ 31) (hm : N < M) :
    Calls Try.prog 12 #[.int .i64 k, .int .i64 n, .int .i64 more] w fun e w' => e = .returned (.bool true) ∧ Below w.heap.size w w' := by
  have a4 : ¬ 31 < (N : Int) := by omega
  have a5 : (N : Int) ≤ 31 := by omega
  have a1 : (N : Int) < 64 := by omega
  have a2 : ¬ (N : Int) = 64 := by omega
  have a3 := turn_nz N (by omega)
  have ar := turn_rem k N (by omega)
  have aw : IntKind.u64.wrap (k % 2 ^ N) = k % 2 ^ N := turn_i k N (by omega)
  have p1 : N ≤ M := by omega
  have p3 : M ≤ 64 := by omega
  obtain ⟨x, ex⟩ : ∃ x, x = k % 2 ^ N := ⟨_, rfl⟩
  rw [← ex] at ar aw
  have EX := Aside0.mk ex
  clear ex
  have HB0 := Aside0.mk (Below.refl w.heap.size w)
  go_enter Try.func12, Try.ntmps12
  go_wp2_with fail
  try rw [eN, eM]
  refine (vecToVec_calls k N _).mono ?_
  rintro e w1 ⟨v, rfl, ho, hb⟩
  rw [turn_ofV k N h1 h2] at ho
  rw [turn_lenE N h1 h2]
  obtain ⟨A_v_1, c_v_1, rfl, h_v_1, hr⟩ := ho.reads
  have HB1 := Aside0.mk (below_step HB0.out hb)
  clear HB0
  have Rv_n1 := Aside0.mk hr
  clear ho hb hr
  go_wp2_with fail
  refine (vecOf_calls k N _).mono ?_
  rintro e w2 ⟨v, rfl, ho, hb⟩
  rw [turn_ofV k N h1 h2] at ho
  rw [turn_lenE N h1 h2]
  obtain ⟨A_w_2, c_w_2, rfl, h_w_2, hr⟩ := ho.reads
  have HB2 := Aside0.mk (below_step HB1.out hb)
  have Rv_2 := Aside0.mk (Rv_n1.out.below hb)
  clear HB1 Rv_n1
  have Rw_n2 := Aside0.mk hr
  clear ho hb hr
  go_wp2_with fail
  refine (vecNumber_calls (bitsOf k N) _ _ _ Rv_2.out).mono ?_
  rintro e wq ⟨rfl, rfl⟩
  rw [turn_numberV k N h1 h2]
  rw [turn_numberE k N h1 h2]
  rw [← EX.out]
  go_wp2_with fail
  refine (Same_below (bitsOf k N) (bitsOf k N) _ _ _ _ _ Rv_2.out Rw_n2.out).mono ?_
  rintro e w3 ⟨rfl, hb⟩
  rw [eqB_refl]
  have HB3 := Aside0.mk (below_step HB2.out hb)
  have Rv_3 := Aside0.mk (Rv_2.out.below hb)
  have Rw_3 := Aside0.mk (Rw_n2.out.below hb)
  clear HB2 Rv_2 Rw_n2
  clear hb
  go_wp2_with fail
  clear Rw_3
  refine (vecToInt_calls (bitsOf k N) _ _ _ Rv_3.out).mono ?_
  rintro e wq ⟨rfl, rfl⟩
  rw [turn_toIntV k N h1 h3]
  rw [turn_toIntE k N h1 h2]
  rw [if_pos h3]
  rw [← EX.out]
  go_wp2_with fail
  refine (vecResize_calls (bitsOf k N) _ _ _ M Rv_3.out).mono ?_
  rintro e w4 ⟨v, rfl, ho, hb⟩
  rw [turn_up k N M h1 p1 p3] at ho
  rw [turn_upE k N M h1 p1 p3]
  obtain ⟨A_x_4, c_x_4, rfl, h_x_4, hr⟩ := ho.reads
  have HB4 := Aside0.mk (below_step HB3.out hb)
  have Rv_4 := Aside0.mk (Rv_3.out.below hb)
  clear HB3 Rv_3
  have Rx_n4 := Aside0.mk hr
  clear ho hb hr
  go_wp2_with fail
  refine (vecResize_calls (upV k N M) _ _ _ N Rx_n4.out).mono ?_
  rintro e w5 ⟨v, rfl, ho, hb⟩
  rw [turn_down k N M h1 p1 p3] at ho
  rw [turn_downE k N M h1 p1 p3]
  obtain ⟨A_y_5, c_y_5, rfl, h_y_5, hr⟩ := ho.reads
  have HB5 := Aside0.mk (below_step HB4.out hb)
  have Rv_5 := Aside0.mk (Rv_4.out.below hb)
  have Rx_5 := Aside0.mk (Rx_n4.out.below hb)
  clear HB4 Rv_4 Rx_n4
  have Ry_n5 := Aside0.mk hr
  clear ho hb hr
  go_wp2_with fail
  refine (vecNumber_calls (upV k N M) _ _ _ Rx_5.out).mono ?_
  rintro e wq ⟨rfl, rfl⟩
  rw [turn_upN k N M h1 p1 p3]
  rw [turn_upNE k N M h1 p1 p3]
  rw [← EX.out]
  go_wp2_with fail
  refine (Same_below (bitsOf k N) (bitsOf k N) _ _ _ _ _ Ry_n5.out Rv_5.out).mono ?_
  rintro e w6 ⟨rfl, hb⟩
  rw [eqB_refl]
  have HB6 := Aside0.mk (below_step HB5.out hb)
  have Rv_6 := Aside0.mk (Rv_5.out.below hb)
  have Rx_6 := Aside0.mk (Rx_5.out.below hb)
  have Ry_6 := Aside0.mk (Ry_n5.out.below hb)
  clear HB5 Rv_5 Rx_5 Ry_n5
  clear hb
  go_wp2_with fail
  refine (awake_calls _).mono ?_
  rintro e w7 ⟨rfl, hb⟩
  have HBz := Aside0.mk (below_step HB6.out hb)
  clear hb
  go_wp2_with fail
  go_ret
  exact ⟨rfl, HBz.out⟩
set_option maxRecDepth 100000 in
set_option maxHeartbeats 8000000 in
theorem turns_mid1 (w : World) (k n more : Int) (hk : -9223372036854775808 ≤ k ∧ k ≤ 9223372036854775807) (N M : Nat) (h1 : 1 ≤ N) (h2 : N ≤ 64) (eN : wrap64 (1 + wrap64 ((IntKind.u64.wrap n).tmod 64)) = (N : Int)) (m1 : 1 ≤ M) (m2 : M ≤ 64) (eM : wrap64 (1 + wrap64 ((IntKind.u64.wrap more).tmod 64)) = (M : Int)) (h3 : ¬ N ≤ 31) (h4 : N < 64) (hm : N < M) :
    Calls Try.prog 12 #[.int .i64 k, .int .i64 n, .int .i64 more] w fun e w' => e = .returned (.bool true) ∧ Below w.heap.size w w' := by
  have a4 : 31 < (N : Int) := by omega
  have a5 : ¬ (N : Int) ≤ 31 := by omega
  have a1 : (N : Int) < 64 := by omega
  have a2 : ¬ (N : Int) = 64 := by omega
  have a3 := turn_nz N (by omega)
  have ar := turn_rem k N (by omega)
  skip
  have p1 : N ≤ M := by omega
  have p3 : M ≤ 64 := by omega
  obtain ⟨x, ex⟩ : ∃ x, x = k % 2 ^ N := ⟨_, rfl⟩
  rw [← ex] at ar
  have EX := Aside0.mk ex
  clear ex
  have HB0 := Aside0.mk (Below.refl w.heap.size w)
  go_enter Try.func12, Try.ntmps12
  go_wp2_with fail
  try rw [eN, eM]
  refine (vecToVec_calls k N _).mono ?_
  rintro e w1 ⟨v, rfl, ho, hb⟩
  rw [turn_ofV k N h1 h2] at ho
  rw [turn_lenE N h1 h2]
  obtain ⟨A_v_1, c_v_1, rfl, h_v_1, hr⟩ := ho.reads
  have HB1 := Aside0.mk (below_step HB0.out hb)
  clear HB0
  have Rv_n1 := Aside0.mk hr
  clear ho hb hr
  go_wp2_with fail
  refine (vecOf_calls k N _).mono ?_
  rintro e w2 ⟨v, rfl, ho, hb⟩
  rw [turn_ofV k N h1 h2] at ho
  rw [turn_lenE N h1 h2]
  obtain ⟨A_w_2, c_w_2, rfl, h_w_2, hr⟩ := ho.reads
  have HB2 := Aside0.mk (below_step HB1.out hb)
  have Rv_2 := Aside0.mk (Rv_n1.out.below hb)
  clear HB1 Rv_n1
  have Rw_n2 := Aside0.mk hr
  clear ho hb hr
  go_wp2_with fail
  refine (vecNumber_calls (bitsOf k N) _ _ _ Rv_2.out).mono ?_
  rintro e wq ⟨rfl, rfl⟩
  rw [turn_numberV k N h1 h2]
  rw [turn_numberE k N h1 h2]
  rw [← EX.out]
  go_wp2_with fail
  refine (Same_below (bitsOf k N) (bitsOf k N) _ _ _ _ _ Rv_2.out Rw_n2.out).mono ?_
  rintro e w3 ⟨rfl, hb⟩
  rw [eqB_refl]
  have HB3 := Aside0.mk (below_step HB2.out hb)
  have Rv_3 := Aside0.mk (Rv_2.out.below hb)
  have Rw_3 := Aside0.mk (Rw_n2.out.below hb)
  clear HB2 Rv_2 Rw_n2
  clear hb
  go_wp2_with fail
  clear Rw_3
  refine (vecToInt_calls (bitsOf k N) _ _ _ Rv_3.out).mono ?_
  rintro e wq ⟨rfl, rfl⟩
  rw [turn_toIntE k N h1 h2]
  rw [if_neg h3]
  go_wp2_with fail
  refine (vecResize_calls (bitsOf k N) _ _ _ M Rv_3.out).mono ?_
  rintro e w4 ⟨v, rfl, ho, hb⟩
  rw [turn_up k N M h1 p1 p3] at ho
  rw [turn_upE k N M h1 p1 p3]
  obtain ⟨A_x_4, c_x_4, rfl, h_x_4, hr⟩ := ho.reads
  have HB4 := Aside0.mk (below_step HB3.out hb)
  have Rv_4 := Aside0.mk (Rv_3.out.below hb)
  clear HB3 Rv_3
  have Rx_n4 := Aside0.mk hr
  clear ho hb hr
  go_wp2_with fail
  refine (vecResize_calls (upV k N M) _ _ _ N Rx_n4.out).mono ?_
  rintro e w5 ⟨v, rfl, ho, hb⟩
  rw [turn_down k N M h1 p1 p3] at ho
  rw [turn_downE k N M h1 p1 p3]
  obtain ⟨A_y_5, c_y_5, rfl, h_y_5, hr⟩ := ho.reads
  have HB5 := Aside0.mk (below_step HB4.out hb)
  have Rv_5 := Aside0.mk (Rv_4.out.below hb)
  have Rx_5 := Aside0.mk (Rx_n4.out.below hb)
  clear HB4 Rv_4 Rx_n4
  have Ry_n5 := Aside0.mk hr
  clear ho hb hr
  go_wp2_with fail
  refine (vecNumber_calls (upV k N M) _ _ _ Rx_5.out).mono ?_
  rintro e wq ⟨rfl, rfl⟩
  rw [turn_upN k N M h1 p1 p3]
  rw [turn_upNE k N M h1 p1 p3]
  rw [← EX.out]
  go_wp2_with fail
  refine (Same_below (bitsOf k N) (bitsOf k N) _ _ _ _ _ Ry_n5.out Rv_5.out).mono ?_
  rintro e w6 ⟨rfl, hb⟩
  rw [eqB_refl]
  have HB6 := Aside0.mk (below_step HB5.out hb)
  have Rv_6 := Aside0.mk (Rv_5.out.below hb)
  have Rx_6 := Aside0.mk (Rx_5.out.below hb)
  have Ry_6 := Aside0.mk (Ry_n5.out.below hb)
  clear HB5 Rv_5 Rx_5 Ry_n5
  clear hb
  go_wp2_with fail
  refine (awake_calls _).mono ?_
  rintro e w7 ⟨rfl, hb⟩
  have HBz := Aside0.mk (below_step HB6.out hb)
  clear hb
  go_wp2_with fail
  go_ret
  exact ⟨rfl, HBz.out⟩
set_option maxRecDepth 100000 in
set_option maxHeartbeats 8000000 in
theorem turns_small0 (w : World) (k n more : Int) (hk : -9223372036854775808 ≤ k ∧ k ≤ 9223372036854775807) (N M : Nat) (h1 : 1 ≤ N) (h2 : N ≤ 64) (eN : wrap64 (1 + wrap64 ((IntKind.u64.wrap n).tmod 64)) = (N : Int)) (m1 : 1 ≤ M) (m2 : M ≤ 64) (eM : wrap64 (1 + wrap64 ((IntKind.u64.wrap more).tmod 64)) = (M : Int)) (h3 : N ≤ 31) (hm : ¬ N < M) :
    Calls Try.prog 12 #[.int .i64 k, .int .i64 n, .int .i64 more] w fun e w' => e = .returned (.bool true) ∧ Below w.heap.size w w' := by
  have a4 : ¬ 31 < (N : Int) := by omega
  have a5 : (N : Int) ≤ 31 := by omega
  have a1 : (N : Int) < 64 := by omega
  have a2 : ¬ (N : Int) = 64 := by omega
  have a3 := turn_nz N (by omega)
  have ar := turn_rem k N (by omega)
  have aw : IntKind.u64.wrap (k % 2 ^ N) = k % 2 ^ N := turn_i k N (by omega)
  have p1 : N ≤ N := by omega
  have p3 : N ≤ 64 := by omega
  obtain ⟨x, ex⟩ : ∃ x, x = k % 2 ^ N := ⟨_, rfl⟩
  rw [← ex] at ar aw
  have EX := Aside0.mk ex
  clear ex
  have HB0 := Aside0.mk (Below.refl w.heap.size w)
  go_enter Try.func12, Try.ntmps12
  go_wp2_with fail
  try rw [eN, eM]
  refine (vecToVec_calls k N _).mono ?_
  rintro e w1 ⟨v, rfl, ho, hb⟩
  rw [turn_ofV k N h1 h2] at ho
  rw [turn_lenE N h1 h2]
  obtain ⟨A_v_1, c_v_1, rfl, h_v_1, hr⟩ := ho.reads
  have HB1 := Aside0.mk (below_step HB0.out hb)
  clear HB0
  have Rv_n1 := Aside0.mk hr
  clear ho hb hr
  go_wp2_with fail
  refine (vecOf_calls k N _).mono ?_
  rintro e w2 ⟨v, rfl, ho, hb⟩
  rw [turn_ofV k N h1 h2] at ho
  rw [turn_lenE N h1 h2]
  obtain ⟨A_w_2, c_w_2, rfl, h_w_2, hr⟩ := ho.reads
  have HB2 := Aside0.mk (below_step HB1.out hb)
  have Rv_2 := Aside0.mk (Rv_n1.out.below hb)
  clear HB1 Rv_n1
  have Rw_n2 := Aside0.mk hr
  clear ho hb hr
  go_wp2_with fail
  refine (vecNumber_calls (bitsOf k N) _ _ _ Rv_2.out).mono ?_
  rintro e wq ⟨rfl, rfl⟩
  rw [turn_numberV k N h1 h2]
  rw [turn_numberE k N h1 h2]
  rw [← EX.out]
  go_wp2_with fail
  refine (Same_below (bitsOf k N) (bitsOf k N) _ _ _ _ _ Rv_2.out Rw_n2.out).mono ?_
  rintro e w3 ⟨rfl, hb⟩
  rw [eqB_refl]
  have HB3 := Aside0.mk (below_step HB2.out hb)
  have Rv_3 := Aside0.mk (Rv_2.out.below hb)
  have Rw_3 := Aside0.mk (Rw_n2.out.below hb)
  clear HB2 Rv_2 Rw_n2
  clear hb
  go_wp2_with fail
  clear Rw_3
  refine (vecToInt_calls (bitsOf k N) _ _ _ Rv_3.out).mono ?_
  rintro e wq ⟨rfl, rfl⟩
  rw [turn_toIntV k N h1 h3]
  rw [turn_toIntE k N h1 h2]
  rw [if_pos h3]
  rw [← EX.out]
  go_wp2_with fail
  refine (vecResize_calls (bitsOf k N) _ _ _ N Rv_3.out).mono ?_
  rintro e w4 ⟨v, rfl, ho, hb⟩
  rw [turn_up k N N h1 p1 p3] at ho
  rw [turn_upE k N N h1 p1 p3]
  obtain ⟨A_x_4, c_x_4, rfl, h_x_4, hr⟩ := ho.reads
  have HB4 := Aside0.mk (below_step HB3.out hb)
  have Rv_4 := Aside0.mk (Rv_3.out.below hb)
  clear HB3 Rv_3
  have Rx_n4 := Aside0.mk hr
  clear ho hb hr
  go_wp2_with fail
  refine (vecResize_calls (upV k N N) _ _ _ N Rx_n4.out).mono ?_
  rintro e w5 ⟨v, rfl, ho, hb⟩
  rw [turn_down k N N h1 p1 p3] at ho
  rw [turn_downE k N N h1 p1 p3]
  obtain ⟨A_y_5, c_y_5, rfl, h_y_5, hr⟩ := ho.reads
  have HB5 := Aside0.mk (below_step HB4.out hb)
  have Rv_5 := Aside0.mk (Rv_4.out.below hb)
  have Rx_5 := Aside0.mk (Rx_n4.out.below hb)
  clear HB4 Rv_4 Rx_n4
  have Ry_n5 := Aside0.mk hr
  clear ho hb hr
  go_wp2_with fail
  refine (vecNumber_calls (upV k N N) _ _ _ Rx_5.out).mono ?_
  rintro e wq ⟨rfl, rfl⟩
  rw [turn_upN k N N h1 p1 p3]
  rw [turn_upNE k N N h1 p1 p3]
  rw [← EX.out]
  go_wp2_with fail
  refine (Same_below (bitsOf k N) (bitsOf k N) _ _ _ _ _ Ry_n5.out Rv_5.out).mono ?_
  rintro e w6 ⟨rfl, hb⟩
  rw [eqB_refl]
  have HB6 := Aside0.mk (below_step HB5.out hb)
  have Rv_6 := Aside0.mk (Rv_5.out.below hb)
  have Rx_6 := Aside0.mk (Rx_5.out.below hb)
  have Ry_6 := Aside0.mk (Ry_n5.out.below hb)
  clear HB5 Rv_5 Rx_5 Ry_n5
  clear hb
  go_wp2_with fail
  refine (awake_calls _).mono ?_
  rintro e w7 ⟨rfl, hb⟩
  have HBz := Aside0.mk (below_step HB6.out hb)
  clear hb
  go_wp2_with fail
  go_ret
  exact ⟨rfl, HBz.out⟩
set_option maxRecDepth 100000 in
set_option maxHeartbeats 8000000 in
theorem turns_mid0 (w : World) (k n more : Int) (hk : -9223372036854775808 ≤ k ∧ k ≤ 9223372036854775807) (N M : Nat) (h1 : 1 ≤ N) (h2 : N ≤ 64) (eN : wrap64 (1 + wrap64 ((IntKind.u64.wrap n).tmod 64)) = (N : Int)) (m1 : 1 ≤ M) (m2 : M ≤ 64) (eM : wrap64 (1 + wrap64 ((IntKind.u64.wrap more).tmod 64)) = (M : Int)) (h3 : ¬ N ≤ 31) (h4 : N < 64) (hm : ¬ N < M) :
    Calls Try.prog 12 #[.int .i64 k, .int .i64 n, .int .i64 more] w fun e w' => e = .returned (.bool true) ∧ Below w.heap.size w w' := by
  have a4 : 31 < (N : Int) := by omega
  have a5 : ¬ (N : Int) ≤ 31 := by omega
  have a1 : (N : Int) < 64 := by omega
  have a2 : ¬ (N : Int) = 64 := by omega
  have a3 := turn_nz N (by omega)
  have ar := turn_rem k N (by omega)
  skip
  have p1 : N ≤ N := by omega
  have p3 : N ≤ 64 := by omega
  obtain ⟨x, ex⟩ : ∃ x, x = k % 2 ^ N := ⟨_, rfl⟩
  rw [← ex] at ar
  have EX := Aside0.mk ex
  clear ex
  have HB0 := Aside0.mk (Below.refl w.heap.size w)
  go_enter Try.func12, Try.ntmps12
  go_wp2_with fail
  try rw [eN, eM]
  refine (vecToVec_calls k N _).mono ?_
  rintro e w1 ⟨v, rfl, ho, hb⟩
  rw [turn_ofV k N h1 h2] at ho
  rw [turn_lenE N h1 h2]
  obtain ⟨A_v_1, c_v_1, rfl, h_v_1, hr⟩ := ho.reads
  have HB1 := Aside0.mk (below_step HB0.out hb)
  clear HB0
  have Rv_n1 := Aside0.mk hr
  clear ho hb hr
  go_wp2_with fail
  refine (vecOf_calls k N _).mono ?_
  rintro e w2 ⟨v, rfl, ho, hb⟩
  rw [turn_ofV k N h1 h2] at ho
  rw [turn_lenE N h1 h2]
  obtain ⟨A_w_2, c_w_2, rfl, h_w_2, hr⟩ := ho.reads
  have HB2 := Aside0.mk (below_step HB1.out hb)
  have Rv_2 := Aside0.mk (Rv_n1.out.below hb)
  clear HB1 Rv_n1
  have Rw_n2 := Aside0.mk hr
  clear ho hb hr
  go_wp2_with fail
  refine (vecNumber_calls (bitsOf k N) _ _ _ Rv_2.out).mono ?_
  rintro e wq ⟨rfl, rfl⟩
  rw [turn_numberV k N h1 h2]
  rw [turn_numberE k N h1 h2]
  rw [← EX.out]
  go_wp2_with fail
  refine (Same_below (bitsOf k N) (bitsOf k N) _ _ _ _ _ Rv_2.out Rw_n2.out).mono ?_
  rintro e w3 ⟨rfl, hb⟩
  rw [eqB_refl]
  have HB3 := Aside0.mk (below_step HB2.out hb)
  have Rv_3 := Aside0.mk (Rv_2.out.below hb)
  have Rw_3 := Aside0.mk (Rw_n2.out.below hb)
  clear HB2 Rv_2 Rw_n2
  clear hb
  go_wp2_with fail
  clear Rw_3
  refine (vecToInt_calls (bitsOf k N) _ _ _ Rv_3.out).mono ?_
  rintro e wq ⟨rfl, rfl⟩
  rw [turn_toIntE k N h1 h2]
  rw [if_neg h3]
  go_wp2_with fail
  refine (vecResize_calls (bitsOf k N) _ _ _ N Rv_3.out).mono ?_
  rintro e w4 ⟨v, rfl, ho, hb⟩
  rw [turn_up k N N h1 p1 p3] at ho
  rw [turn_upE k N N h1 p1 p3]
  obtain ⟨A_x_4, c_x_4, rfl, h_x_4, hr⟩ := ho.reads
  have HB4 := Aside0.mk (below_step HB3.out hb)
  have Rv_4 := Aside0.mk (Rv_3.out.below hb)
  clear HB3 Rv_3
  have Rx_n4 := Aside0.mk hr
  clear ho hb hr
  go_wp2_with fail
  refine (vecResize_calls (upV k N N) _ _ _ N Rx_n4.out).mono ?_
  rintro e w5 ⟨v, rfl, ho, hb⟩
  rw [turn_down k N N h1 p1 p3] at ho
  rw [turn_downE k N N h1 p1 p3]
  obtain ⟨A_y_5, c_y_5, rfl, h_y_5, hr⟩ := ho.reads
  have HB5 := Aside0.mk (below_step HB4.out hb)
  have Rv_5 := Aside0.mk (Rv_4.out.below hb)
  have Rx_5 := Aside0.mk (Rx_n4.out.below hb)
  clear HB4 Rv_4 Rx_n4
  have Ry_n5 := Aside0.mk hr
  clear ho hb hr
  go_wp2_with fail
  refine (vecNumber_calls (upV k N N) _ _ _ Rx_5.out).mono ?_
  rintro e wq ⟨rfl, rfl⟩
  rw [turn_upN k N N h1 p1 p3]
  rw [turn_upNE k N N h1 p1 p3]
  rw [← EX.out]
  go_wp2_with fail
  refine (Same_below (bitsOf k N) (bitsOf k N) _ _ _ _ _ Ry_n5.out Rv_5.out).mono ?_
  rintro e w6 ⟨rfl, hb⟩
  rw [eqB_refl]
  have HB6 := Aside0.mk (below_step HB5.out hb)
  have Rv_6 := Aside0.mk (Rv_5.out.below hb)
  have Rx_6 := Aside0.mk (Rx_5.out.below hb)
  have Ry_6 := Aside0.mk (Ry_n5.out.below hb)
  clear HB5 Rv_5 Rx_5 Ry_n5
  clear hb
  go_wp2_with fail
  refine (awake_calls _).mono ?_
  rintro e w7 ⟨rfl, hb⟩
  have HBz := Aside0.mk (below_step HB6.out hb)
  clear hb
  go_wp2_with fail
  go_ret
  exact ⟨rfl, HBz.out⟩
set_option maxRecDepth 100000 in
set_option maxHeartbeats 8000000 in
theorem turns_top (w : World) (k n more : Int) (hk : -9223372036854775808 ≤ k ∧ k ≤ 9223372036854775807) (M : Nat) (eN : wrap64 (1 + wrap64 ((IntKind.u64.wrap n).tmod 64)) = 64) (m1 : 1 ≤ M) (m2 : M ≤ 64) (eM : wrap64 (1 + wrap64 ((IntKind.u64.wrap more).tmod 64)) = (M : Int)) :
    Calls Try.prog 12 #[.int .i64 k, .int .i64 n, .int .i64 more] w fun e w' => e = .returned (.bool true) ∧ Below w.heap.size w w' := by
  have a3 : ¬ (64 : Int) < (M : Int) := by omega
  have ar : IntKind.u64.wrap k = k % 2 ^ 64 := wrap_u64 k
  have T1 : Aside0 (ofV k 64 = bitsOf k 64) := ⟨turn_ofV k 64 (by omega) (by omega)⟩
  have T2 : Aside0 (lenE 64 19 = 0) := ⟨turn_lenE 64 (by omega) (by omega) 19⟩
  have T3 : Aside0 (lenE 64 2 = 0) := ⟨turn_lenE 64 (by omega) (by omega) 2⟩
  have T4 : Aside0 (numberV (bitsOf k 64) = k % 2 ^ 64) := ⟨turn_numberV k 64 (by omega) (by omega)⟩
  have T5 : Aside0 (numberE (bitsOf k 64) = 0) := ⟨turn_numberE k 64 (by omega) (by omega)⟩
  have T6 : Aside0 (toIntE (bitsOf k 64) = 19) := ⟨turn_toIntE k 64 (by omega) (by omega)⟩
  have T7 : Aside0 (resizeV (bitsOf k 64) 64 = upV k 64 64) := ⟨turn_up k 64 64 (by omega) (by omega) (by omega)⟩
  have T8 : Aside0 (resizeE (bitsOf k 64) 64 = 0) := ⟨turn_upE k 64 64 (by omega) (by omega) (by omega)⟩
  have T9 : Aside0 (resizeV (upV k 64 64) 64 = bitsOf k 64) := ⟨turn_down k 64 64 (by omega) (by omega) (by omega)⟩
  have TA : Aside0 (resizeE (upV k 64 64) 64 = 0) := ⟨turn_downE k 64 64 (by omega) (by omega) (by omega)⟩
  have TB : Aside0 (numberV (upV k 64 64) = k % 2 ^ 64) := ⟨turn_upN k 64 64 (by omega) (by omega) (by omega)⟩
  have TC : Aside0 (numberE (upV k 64 64) = 0) := ⟨turn_upNE k 64 64 (by omega) (by omega) (by omega)⟩
  obtain ⟨x, ex⟩ : ∃ x, x = k % 2 ^ 64 := ⟨_, rfl⟩
  rw [← ex] at ar
  have EX := Aside0.mk ex
  clear ex
  have HB0 := Aside0.mk (Below.refl w.heap.size w)
  go_enter Try.func12, Try.ntmps12
  go_wp2_with fail
  try rw [eN, eM]
  refine (vecToVec_calls k 64 _).mono ?_
  rintro e w1 ⟨v, rfl, ho, hb⟩
  rw [T1.out] at ho
  rw [T2.out]
  obtain ⟨A_v_1, c_v_1, rfl, h_v_1, hr⟩ := ho.reads
  have HB1 := Aside0.mk (below_step HB0.out hb)
  clear HB0
  have Rv_n1 := Aside0.mk hr
  clear ho hb hr
  go_wp2_with fail
  refine (vecOf_calls k 64 _).mono ?_
  rintro e w2 ⟨v, rfl, ho, hb⟩
  rw [T1.out] at ho
  rw [T3.out]
  obtain ⟨A_w_2, c_w_2, rfl, h_w_2, hr⟩ := ho.reads
  have HB2 := Aside0.mk (below_step HB1.out hb)
  have Rv_2 := Aside0.mk (Rv_n1.out.below hb)
  clear HB1 Rv_n1
  have Rw_n2 := Aside0.mk hr
  clear ho hb hr
  go_wp2_with fail
  refine (vecNumber_calls (bitsOf k 64) _ _ _ Rv_2.out).mono ?_
  rintro e wq ⟨rfl, rfl⟩
  rw [T4.out]
  rw [T5.out]
  rw [← EX.out]
  go_wp2_with fail
  refine (Same_below (bitsOf k 64) (bitsOf k 64) _ _ _ _ _ Rv_2.out Rw_n2.out).mono ?_
  rintro e w3 ⟨rfl, hb⟩
  rw [eqB_refl]
  have HB3 := Aside0.mk (below_step HB2.out hb)
  have Rv_3 := Aside0.mk (Rv_2.out.below hb)
  have Rw_3 := Aside0.mk (Rw_n2.out.below hb)
  clear HB2 Rv_2 Rw_n2
  clear hb
  go_wp2_with fail
  clear Rw_3
  refine (vecToInt_calls (bitsOf k 64) _ _ _ Rv_3.out).mono ?_
  rintro e wq ⟨rfl, rfl⟩
  rw [T6.out]
  go_wp2_with fail
  refine (vecResize_calls (bitsOf k 64) _ _ _ 64 Rv_3.out).mono ?_
  rintro e w4 ⟨v, rfl, ho, hb⟩
  rw [T7.out] at ho
  rw [T8.out]
  obtain ⟨A_x_4, c_x_4, rfl, h_x_4, hr⟩ := ho.reads
  have HB4 := Aside0.mk (below_step HB3.out hb)
  have Rv_4 := Aside0.mk (Rv_3.out.below hb)
  clear HB3 Rv_3
  have Rx_n4 := Aside0.mk hr
  clear ho hb hr
  go_wp2_with fail
  refine (vecResize_calls (upV k 64 64) _ _ _ 64 Rx_n4.out).mono ?_
  rintro e w5 ⟨v, rfl, ho, hb⟩
  rw [T9.out] at ho
  rw [TA.out]
  obtain ⟨A_y_5, c_y_5, rfl, h_y_5, hr⟩ := ho.reads
  have HB5 := Aside0.mk (below_step HB4.out hb)
  have Rv_5 := Aside0.mk (Rv_4.out.below hb)
  have Rx_5 := Aside0.mk (Rx_n4.out.below hb)
  clear HB4 Rv_4 Rx_n4
  have Ry_n5 := Aside0.mk hr
  clear ho hb hr
  go_wp2_with fail
  refine (vecNumber_calls (upV k 64 64) _ _ _ Rx_5.out).mono ?_
  rintro e wq ⟨rfl, rfl⟩
  rw [TB.out]
  rw [TC.out]
  rw [← EX.out]
  go_wp2_with fail
  refine (Same_below (bitsOf k 64) (bitsOf k 64) _ _ _ _ _ Ry_n5.out Rv_5.out).mono ?_
  rintro e w6 ⟨rfl, hb⟩
  rw [eqB_refl]
  have HB6 := Aside0.mk (below_step HB5.out hb)
  have Rv_6 := Aside0.mk (Rv_5.out.below hb)
  have Rx_6 := Aside0.mk (Rx_5.out.below hb)
  have Ry_6 := Aside0.mk (Ry_n5.out.below hb)
  clear HB5 Rv_5 Rx_5 Ry_n5
  clear hb
  go_wp2_with fail
  refine (awake_calls _).mono ?_
  rintro e w7 ⟨rfl, hb⟩
  have HBz := Aside0.mk (below_step HB6.out hb)
  clear hb
  go_wp2_with fail
  go_ret
  exact ⟨rfl, HBz.out⟩
theorem vecTurns_walk (w : World) (k : Int) (hk : (Lit.int .i64 k).wf = true) (n : Int) (hn : (Lit.int .i64 n).wf = true) (more : Int) (hm : (Lit.int .i64 more).wf = true) :
    Calls Try.prog 12 #[.int .i64 k, .int .i64 n, .int .i64 more] w fun e w' => e = .returned (.bool true) ∧ Below w.heap.size w w' := by
  have hk2 : -9223372036854775808 ≤ k ∧ k ≤ 9223372036854775807 := by
    simp [Lit.wf, IntKind.min, IntKind.max, IntKind.bits, IntKind.signed] at hk
    omega
  obtain ⟨N, h1, h2, eN⟩ := turn_len n
  obtain ⟨M, m1, m2, eM⟩ := turn_len more
  by_cases hm : N < M <;> by_cases h3 : N ≤ 31
  · exact turns_small1 w k n more hk2 N M h1 h2 eN m1 m2 eM h3 hm
  · by_cases h4 : N < 64
    · exact turns_mid1 w k n more hk2 N M h1 h2 eN m1 m2 eM h3 h4 hm
    · exact turns_top w k n more hk2 M (by rw [eN]; omega) m1 m2 eM
  · exact turns_small0 w k n more hk2 N M h1 h2 eN m1 m2 eM h3 hm
  · by_cases h4 : N < 64
    · exact turns_mid0 w k n more hk2 N M h1 h2 eN m1 m2 eM h3 h4 hm
    · exact turns_top w k n more hk2 M (by rw [eN]; omega) m1 m2 eM
end Go.Proofs.Ytaffdpgacggllaa.V
