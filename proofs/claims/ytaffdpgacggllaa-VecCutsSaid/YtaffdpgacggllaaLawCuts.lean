/- The walk of the statement VecCuts. -/
import Derived.Test.YtaffdpgacggllaaUd
namespace Go.Proofs.Ytaffdpgacggllaa.V
open Go.RowKit Go.Proofs.YtaffdpgacggllaaW.PrintWords Go.Proofs.YtaffdpgacggllaaW.PrintLast Go.Proofs.YtaffdpgacggllaaW.PrintMore
attribute [local go_sem] max2_int min2_int max_two min_two
set_option linter.unusedVariables false
set_option linter.unusedSimpArgs false

set_option maxRecDepth 100000 in
set_option maxHeartbeats 8000000 in
theorem cuts_bad1 (w : World) (v : List Int) (A : Option Addr) (cv : Nat) (rv : Rd w A v) (hcv : v.length ≤ cv) (b : List Int) (B : Option Addr) (cb : Nat) (rb : Rd w B b) (x : Int) (h1 : isV v = false) :
    Calls Try.prog 14 #[.slice A v.length cv, .slice B b.length cb, .int .i64 x] w fun e w' => e = .returned (.bool true) ∧ Below w.heap.size w w' := by
  have Rv := Aside0.mk rv
  have Rb := Aside0.mk rb
  clear rv rb
  have H1 := Aside0.mk h1
  clear h1
  have HB0 := Aside0.mk (Below.refl w.heap.size w)
  go_enter Try.func14, Try.ntmps14
  go_wp2_with fail
  refine (refIs_calls _ _ _ _ Rv.out).mono ?_
  rintro e wq ⟨rfl, rfl⟩
  rw [H1.out]
  go_wp2_with fail
  refine (awake_calls _).mono ?_
  rintro e w1 ⟨rfl, hb⟩
  have HBz := Aside0.mk (below_step HB0.out hb)
  clear hb
  go_wp2_with fail
  go_ret
  exact ⟨rfl, HBz.out⟩
set_option maxRecDepth 100000 in
set_option maxHeartbeats 8000000 in
theorem cuts_bad2 (w : World) (v : List Int) (A : Option Addr) (cv : Nat) (rv : Rd w A v) (hcv : v.length ≤ cv) (b : List Int) (B : Option Addr) (cb : Nat) (rb : Rd w B b) (x : Int) (h1 : isV v = true) (h2 : isV b = false) :
    Calls Try.prog 14 #[.slice A v.length cv, .slice B b.length cb, .int .i64 x] w fun e w' => e = .returned (.bool true) ∧ Below w.heap.size w w' := by
  have Rv := Aside0.mk rv
  have Rb := Aside0.mk rb
  clear rv rb
  have H1 := Aside0.mk h1
  clear h1
  have H2 := Aside0.mk h2
  clear h2
  have HB0 := Aside0.mk (Below.refl w.heap.size w)
  go_enter Try.func14, Try.ntmps14
  go_wp2_with fail
  refine (refIs_calls _ _ _ _ Rv.out).mono ?_
  rintro e wq ⟨rfl, rfl⟩
  rw [H1.out]
  go_wp2_with fail
  refine (refIs_calls _ _ _ _ Rb.out).mono ?_
  rintro e wq ⟨rfl, rfl⟩
  rw [H2.out]
  go_wp2_with fail
  refine (awake_calls _).mono ?_
  rintro e w1 ⟨rfl, hb⟩
  have HBz := Aside0.mk (below_step HB0.out hb)
  clear hb
  go_wp2_with fail
  go_ret
  exact ⟨rfl, HBz.out⟩
set_option maxRecDepth 100000 in
set_option maxHeartbeats 8000000 in
theorem cuts_bad3 (w : World) (v : List Int) (A : Option Addr) (cv : Nat) (rv : Rd w A v) (hcv : v.length ≤ cv) (b : List Int) (B : Option Addr) (cb : Nat) (rb : Rd w B b) (x : Int) (h1 : isV v = true) (h2 : isV b = true) (h3 : v.length < 2) :
    Calls Try.prog 14 #[.slice A v.length cv, .slice B b.length cb, .int .i64 x] w fun e w' => e = .returned (.bool true) ∧ Below w.heap.size w w' := by
  have Rv := Aside0.mk rv
  have Rb := Aside0.mk rb
  clear rv rb
  have H1 := Aside0.mk h1
  clear h1
  have H2 := Aside0.mk h2
  clear h2
  have HB0 := Aside0.mk (Below.refl w.heap.size w)
  go_enter Try.func14, Try.ntmps14
  go_wp2_with fail
  refine (refIs_calls _ _ _ _ Rv.out).mono ?_
  rintro e wq ⟨rfl, rfl⟩
  rw [H1.out]
  go_wp2_with fail
  refine (refIs_calls _ _ _ _ Rb.out).mono ?_
  rintro e wq ⟨rfl, rfl⟩
  rw [H2.out]
  go_wp2_with fail
  refine (awake_calls _).mono ?_
  rintro e w1 ⟨rfl, hb⟩
  have HBz := Aside0.mk (below_step HB0.out hb)
  clear hb
  go_wp2_with fail
  go_ret
  exact ⟨rfl, HBz.out⟩
set_option maxRecDepth 100000 in
set_option maxHeartbeats 8000000 in
theorem cuts_over (w : World) (v : List Int) (A : Option Addr) (cv : Nat) (rv : Rd w A v) (hcv : v.length ≤ cv) (b : List Int) (B : Option Addr) (cb : Nat) (rb : Rd w B b) (x : Int) (K : Nat) (h1 : isV v = true) (h2 : isV b = true) (h3 : 2 ≤ v.length) (k1 : 1 ≤ K) (k2 : K < v.length) (eK : wrap64 (1 + wrap64 ((IntKind.u64.wrap x).tmod (IntKind.u64.wrap ((v.length : Int) - 1)))) = (K : Int)) (hf : ¬ K + b.length ≤ v.length) :
    Calls Try.prog 14 #[.slice A v.length cv, .slice B b.length cb, .int .i64 x] w fun e w' => e = .returned (.bool true) ∧ Below w.heap.size w w' := by
  have Rv := Aside0.mk rv
  have Rb := Aside0.mk rb
  clear rv rb
  have l1 := isV_pos h1
  have hn1 := l1.1
  have h64 := l1.2.1
  have l2 := isV_pos h2
  have hm1 := l2.1
  have hm64 := l2.2.1
  clear l1 l2
  obtain ⟨n1, hn⟩ : ∃ n1 : Nat, n1 + 1 = v.length := ⟨v.length - 1, by omega⟩
  have hqn : (v.length : Int) - 1 = (n1 : Int) := by omega
  obtain ⟨m, hm⟩ : ∃ m : Nat, m + 1 = K := ⟨K - 1, by omega⟩
  have hqm : (K : Int) - 1 = (m : Int) := by omega
  have F1 := Aside0.mk (cut_high h1 k1 k2 n1 hn)
  have F2 := Aside0.mk (cut_low h1 k1 k2 m hm)
  have F3 := Aside0.mk (cut_cat h1 k1 k2)
  obtain ⟨hi, ehi⟩ : ∃ y, y = v.drop K := ⟨_, rfl⟩
  obtain ⟨lo, elo⟩ : ∃ y, y = v.take K := ⟨_, rfl⟩
  rw [← ehi] at F1
  rw [← elo] at F2
  rw [← ehi, ← elo] at F3
  clear ehi elo
  have eK2 : wrap64 (1 + wrap64 ((IntKind.u64.wrap x).tmod (n1 : Int))) = (K : Int) := by rw [hqn, wraps_u64 (n1 : Int) (by omega) (by omega)] at eK; exact eK
  have NZ : ¬ (n1 : Int) = 0 := by omega
  have NZ2 : ¬ n1 = 0 := by omega
  clear eK
  have hgt : (v.length : Int) - (K : Int) < (b.length : Int) := by omega
  have HN := Aside0.mk hn
  have HM := Aside0.mk hm
  have h2v : ¬ (v.length : Int) < 2 := by omega
  clear hn hm
  have H1 := Aside0.mk h1
  have H2 := Aside0.mk h2
  clear h1 h2
  have HB0 := Aside0.mk (Below.refl w.heap.size w)
  go_enter Try.func14, Try.ntmps14
  go_wp2_with fail
  refine (refIs_calls _ _ _ _ Rv.out).mono ?_
  rintro e wq ⟨rfl, rfl⟩
  rw [H1.out]
  go_wp2_with fail
  refine (refIs_calls _ _ _ _ Rb.out).mono ?_
  rintro e wq ⟨rfl, rfl⟩
  rw [H2.out]
  go_wp2_with fail
  try rw [eK2]
  refine (vecSlice_calls v _ _ _ (n1 : Int) (K : Int) Rv.out hcv).mono ?_
  rintro e w1 ⟨v, rfl, ho, hb⟩
  rw [F1.out.1] at ho
  rw [F1.out.2]
  obtain ⟨A_h_1, c_h_1, rfl, h_h_1, hr⟩ := ho.reads
  have HB1 := Aside0.mk (below_step HB0.out hb)
  have Rv_1 := Aside0.mk (Rv.out.below hb)
  have Rb_1 := Aside0.mk (Rb.out.below hb)
  clear HB0 Rv Rb
  have Rh_n1 := Aside0.mk hr
  clear ho hb hr
  go_wp2_with fail
  refine (vecSlice_calls v _ _ _ (m : Int) 0 Rv_1.out hcv).mono ?_
  rintro e w2 ⟨v, rfl, ho, hb⟩
  rw [F2.out.1] at ho
  rw [F2.out.2]
  obtain ⟨A_l_2, c_l_2, rfl, h_l_2, hr⟩ := ho.reads
  have HB2 := Aside0.mk (below_step HB1.out hb)
  have Rv_2 := Aside0.mk (Rv_1.out.below hb)
  have Rb_2 := Aside0.mk (Rb_1.out.below hb)
  have Rh_2 := Aside0.mk (Rh_n1.out.below hb)
  clear HB1 Rv_1 Rb_1 Rh_n1
  have Rl_n2 := Aside0.mk hr
  clear ho hb hr
  go_wp2_with fail
  refine (vecCat_calls hi lo _ _ _ _ _ Rh_2.out Rl_n2.out).mono ?_
  rintro e w3 ⟨v, rfl, ho, hb⟩
  rw [F3.out.1] at ho
  rw [F3.out.2]
  obtain ⟨A_x_3, c_x_3, rfl, h_x_3, hr⟩ := ho.reads
  have HB3 := Aside0.mk (below_step HB2.out hb)
  have Rv_3 := Aside0.mk (Rv_2.out.below hb)
  have Rb_3 := Aside0.mk (Rb_2.out.below hb)
  have Rh_3 := Aside0.mk (Rh_2.out.below hb)
  have Rl_3 := Aside0.mk (Rl_n2.out.below hb)
  clear HB2 Rv_2 Rb_2 Rh_2 Rl_n2
  have Rx_n3 := Aside0.mk hr
  clear ho hb hr
  go_wp2_with fail
  refine (Same_below v v _ _ _ _ _ Rx_n3.out Rv_3.out).mono ?_
  rintro e w4 ⟨rfl, hb⟩
  rw [eqB_refl]
  have HB4 := Aside0.mk (below_step HB3.out hb)
  have Rv_4 := Aside0.mk (Rv_3.out.below hb)
  have Rb_4 := Aside0.mk (Rb_3.out.below hb)
  have Rh_4 := Aside0.mk (Rh_3.out.below hb)
  have Rl_4 := Aside0.mk (Rl_3.out.below hb)
  have Rx_4 := Aside0.mk (Rx_n3.out.below hb)
  clear HB3 Rv_3 Rb_3 Rh_3 Rl_3 Rx_n3
  clear hb
  go_wp2_with fail
  clear Rh_4
  clear Rl_4
  clear Rx_4
  refine (awake_calls _).mono ?_
  rintro e w5 ⟨rfl, hb⟩
  have HBz := Aside0.mk (below_step HB4.out hb)
  clear hb
  go_wp2_with fail
  go_ret
  exact ⟨rfl, HBz.out⟩
set_option maxRecDepth 100000 in
set_option maxHeartbeats 8000000 in
theorem cuts_fits (w : World) (v : List Int) (A : Option Addr) (cv : Nat) (rv : Rd w A v) (hcv : v.length ≤ cv) (b : List Int) (B : Option Addr) (cb : Nat) (rb : Rd w B b) (x : Int) (K : Nat) (h1 : isV v = true) (h2 : isV b = true) (h3 : 2 ≤ v.length) (k1 : 1 ≤ K) (k2 : K < v.length) (eK : wrap64 (1 + wrap64 ((IntKind.u64.wrap x).tmod (IntKind.u64.wrap ((v.length : Int) - 1)))) = (K : Int)) (hf : K + b.length ≤ v.length) :
    Calls Try.prog 14 #[.slice A v.length cv, .slice B b.length cb, .int .i64 x] w fun e w' => e = .returned (.bool true) ∧ Below w.heap.size w w' := by
  have Rv := Aside0.mk rv
  have Rb := Aside0.mk rb
  clear rv rb
  have l1 := isV_pos h1
  have hn1 := l1.1
  have h64 := l1.2.1
  have l2 := isV_pos h2
  have hm1 := l2.1
  have hm64 := l2.2.1
  clear l1 l2
  obtain ⟨n1, hn⟩ : ∃ n1 : Nat, n1 + 1 = v.length := ⟨v.length - 1, by omega⟩
  have hqn : (v.length : Int) - 1 = (n1 : Int) := by omega
  obtain ⟨m, hm⟩ : ∃ m : Nat, m + 1 = K := ⟨K - 1, by omega⟩
  have hqm : (K : Int) - 1 = (m : Int) := by omega
  have F1 := Aside0.mk (cut_high h1 k1 k2 n1 hn)
  have F2 := Aside0.mk (cut_low h1 k1 k2 m hm)
  have F3 := Aside0.mk (cut_cat h1 k1 k2)
  obtain ⟨hi, ehi⟩ : ∃ y, y = v.drop K := ⟨_, rfl⟩
  obtain ⟨lo, elo⟩ : ∃ y, y = v.take K := ⟨_, rfl⟩
  rw [← ehi] at F1
  rw [← elo] at F2
  rw [← ehi, ← elo] at F3
  clear ehi elo
  have eK2 : wrap64 (1 + wrap64 ((IntKind.u64.wrap x).tmod (n1 : Int))) = (K : Int) := by rw [hqn, wraps_u64 (n1 : Int) (by omega) (by omega)] at eK; exact eK
  have NZ : ¬ (n1 : Int) = 0 := by omega
  have NZ2 : ¬ n1 = 0 := by omega
  clear eK
  obtain ⟨q, hq⟩ : ∃ q : Nat, q + 1 = K + b.length := ⟨K + b.length - 1, by omega⟩
  have hqq : (K : Int) + (b.length : Int) - 1 = (q : Int) := by omega
  have F4 := Aside0.mk (cut_put h1 h2 k1 hf q hq)
  have F5 := Aside0.mk (cut_back h1 h2 k1 hf q hq)
  have LP := Aside0.mk (putT_length (v := v) (K := K) (ws := b) hf)
  have PL := Aside0.mk (putT_low (v := v) (K := K) (ws := b) hf)
  have PH := Aside0.mk (putT_high (v := v) (K := K) (ws := b) hf)
  have HQ := Aside0.mk hq
  clear hq
  have hgt : ¬ (v.length : Int) - (K : Int) < (b.length : Int) := by omega
  have HN := Aside0.mk hn
  have HM := Aside0.mk hm
  have h2v : ¬ (v.length : Int) < 2 := by omega
  clear hn hm
  have H1 := Aside0.mk h1
  have H2 := Aside0.mk h2
  clear h1 h2
  have HB0 := Aside0.mk (Below.refl w.heap.size w)
  go_enter Try.func14, Try.ntmps14
  go_wp2_with fail
  refine (refIs_calls _ _ _ _ Rv.out).mono ?_
  rintro e wq ⟨rfl, rfl⟩
  rw [H1.out]
  go_wp2_with fail
  refine (refIs_calls _ _ _ _ Rb.out).mono ?_
  rintro e wq ⟨rfl, rfl⟩
  rw [H2.out]
  go_wp2_with fail
  try rw [eK2]
  refine (vecSlice_calls v _ _ _ (n1 : Int) (K : Int) Rv.out hcv).mono ?_
  rintro e w1 ⟨v, rfl, ho, hb⟩
  rw [F1.out.1] at ho
  rw [F1.out.2]
  obtain ⟨A_h_1, c_h_1, rfl, h_h_1, hr⟩ := ho.reads
  have HB1 := Aside0.mk (below_step HB0.out hb)
  have Rv_1 := Aside0.mk (Rv.out.below hb)
  have Rb_1 := Aside0.mk (Rb.out.below hb)
  clear HB0 Rv Rb
  have Rh_n1 := Aside0.mk hr
  clear ho hb hr
  go_wp2_with fail
  refine (vecSlice_calls v _ _ _ (m : Int) 0 Rv_1.out hcv).mono ?_
  rintro e w2 ⟨v, rfl, ho, hb⟩
  rw [F2.out.1] at ho
  rw [F2.out.2]
  obtain ⟨A_l_2, c_l_2, rfl, h_l_2, hr⟩ := ho.reads
  have HB2 := Aside0.mk (below_step HB1.out hb)
  have Rv_2 := Aside0.mk (Rv_1.out.below hb)
  have Rb_2 := Aside0.mk (Rb_1.out.below hb)
  have Rh_2 := Aside0.mk (Rh_n1.out.below hb)
  clear HB1 Rv_1 Rb_1 Rh_n1
  have Rl_n2 := Aside0.mk hr
  clear ho hb hr
  go_wp2_with fail
  refine (vecCat_calls hi lo _ _ _ _ _ Rh_2.out Rl_n2.out).mono ?_
  rintro e w3 ⟨v, rfl, ho, hb⟩
  rw [F3.out.1] at ho
  rw [F3.out.2]
  obtain ⟨A_x_3, c_x_3, rfl, h_x_3, hr⟩ := ho.reads
  have HB3 := Aside0.mk (below_step HB2.out hb)
  have Rv_3 := Aside0.mk (Rv_2.out.below hb)
  have Rb_3 := Aside0.mk (Rb_2.out.below hb)
  have Rh_3 := Aside0.mk (Rh_2.out.below hb)
  have Rl_3 := Aside0.mk (Rl_n2.out.below hb)
  clear HB2 Rv_2 Rb_2 Rh_2 Rl_n2
  have Rx_n3 := Aside0.mk hr
  clear ho hb hr
  go_wp2_with fail
  refine (Same_below v v _ _ _ _ _ Rx_n3.out Rv_3.out).mono ?_
  rintro e w4 ⟨rfl, hb⟩
  rw [eqB_refl]
  have HB4 := Aside0.mk (below_step HB3.out hb)
  have Rv_4 := Aside0.mk (Rv_3.out.below hb)
  have Rb_4 := Aside0.mk (Rb_3.out.below hb)
  have Rh_4 := Aside0.mk (Rh_3.out.below hb)
  have Rl_4 := Aside0.mk (Rl_3.out.below hb)
  have Rx_4 := Aside0.mk (Rx_n3.out.below hb)
  clear HB3 Rv_3 Rb_3 Rh_3 Rl_3 Rx_n3
  clear hb
  go_wp2_with fail
  clear Rh_4
  clear Rl_4
  clear Rx_4
  refine (vecPut_calls v b _ _ _ _ (q : Int) (K : Int) _ Rv_4.out Rb_4.out).mono ?_
  rintro e w5 ⟨v, rfl, ho, hb⟩
  rw [F4.out.1] at ho
  rw [F4.out.2]
  obtain ⟨A_y_5, c_y_5, rfl, h_y_5, hr⟩ := ho.reads
  have HB5 := Aside0.mk (below_step HB4.out hb)
  have Rv_5 := Aside0.mk (Rv_4.out.below hb)
  have Rb_5 := Aside0.mk (Rb_4.out.below hb)
  clear HB4 Rv_4 Rb_4
  have Ry_n5 := Aside0.mk hr
  clear ho hb hr
  rw [LP.out]
  go_wp2_with fail
  have S5 := vecSlice_calls (putT v K b) _ _ _ (q : Int) (K : Int) Ry_n5.out h_y_5
  rw [LP.out] at S5
  refine (S5).mono ?_
  rintro e w6 ⟨v, rfl, ho, hb⟩
  rw [F5.out.1] at ho
  rw [F5.out.2]
  obtain ⟨A_z_6, c_z_6, rfl, h_z_6, hr⟩ := ho.reads
  have HB6 := Aside0.mk (below_step HB5.out hb)
  have Rv_6 := Aside0.mk (Rv_5.out.below hb)
  have Rb_6 := Aside0.mk (Rb_5.out.below hb)
  have Ry_6 := Aside0.mk (Ry_n5.out.below hb)
  clear HB5 Rv_5 Rb_5 Ry_n5
  have Rz_n6 := Aside0.mk hr
  clear ho hb hr
  go_wp2_with fail
  refine (Same_below b b _ _ _ _ _ Rz_n6.out Rb_6.out).mono ?_
  rintro e w7 ⟨rfl, hb⟩
  rw [eqB_refl]
  have HB7 := Aside0.mk (below_step HB6.out hb)
  have Rv_7 := Aside0.mk (Rv_6.out.below hb)
  have Rb_7 := Aside0.mk (Rb_6.out.below hb)
  have Ry_7 := Aside0.mk (Ry_6.out.below hb)
  have Rz_7 := Aside0.mk (Rz_n6.out.below hb)
  clear HB6 Rv_6 Rb_6 Ry_6 Rz_n6
  clear hb
  go_wp2_with fail
  have s1 : IntKind.i64.wrap ((K : Int) + (b.length : Int)) = (K : Int) + (b.length : Int) := by rw [IntWalk.i64_in _ (by omega)]
  go_loopw [129] (fun i wr => ∃ j n : Nat, j ≤ v.length ∧ i = .int .i64 j ∧ wr = w7.drewN n) (fun i _ => v.length - (intOf i).toNat)
  case atStart => exact ⟨0, 0, Nat.zero_le _, rfl, rfl⟩
  case round =>
    obtain ⟨j, n, hj, rfl, rfl⟩ := hrel
    by_cases hlt : j < v.length
    · obtain ⟨ad, ea, hcx⟩ := Rv_7.out.at_ j hlt
      cases ea
      obtain ⟨bd, eb, hcy⟩ := Ry_7.out.at_ j (by rw [LP.out]; exact hlt)
      cases eb
      by_cases hlow : j < K
      · have hm := PL.out j hlow
        rw [hm] at hcy
        clear hm
        go_wp2_with fail
        have d1 : decide ((j : Int) < (K : Int)) = true := decide_eq_true (by omega)
        have d3 : (nth v j != nth v j) = false := by simp
        go_quiet (fail)
        go_wp2
        go_roundw
        case rel => exact ⟨j + 1, _, by omega, by go_num, rfl⟩
        case measure => simp [intOf]; omega
      · by_cases hhigh : K + b.length ≤ j
        · have hm := PH.out j hhigh hlt
          rw [hm] at hcy
          clear hm
          go_wp2_with fail
          have d1 : decide ((j : Int) < (K : Int)) = false := decide_eq_false (by omega)
          have d2 : decide ((K : Int) + (b.length : Int) ≤ (j : Int)) = true := decide_eq_true (by omega)
          have d3 : (nth v j != nth v j) = false := by simp
          go_quiet (fail)
          go_wp2
          go_roundw
          case rel => exact ⟨j + 1, _, by omega, by go_num, rfl⟩
          case measure => simp [intOf]; omega
        · go_wp2_with fail
          have d1 : decide ((j : Int) < (K : Int)) = false := decide_eq_false (by omega)
          have d2 : decide ((K : Int) + (b.length : Int) ≤ (j : Int)) = false := decide_eq_false (by omega)
          go_quiet (fail)
          go_wp2
          go_roundw
          case rel => exact ⟨j + 1, _, by omega, by go_num, rfl⟩
          case measure => simp [intOf]; omega
    · have HBd := Aside0.mk (pw_below_drewN HB7.out n)
      clear s1
      go_wp2_with fail
      refine (awake_calls _).mono ?_
      rintro e wz ⟨rfl, hb⟩
      have HBz := Aside0.mk (below_step HBd.out hb)
      clear hb
      go_wp2_with fail
      go_ret
      exact ⟨rfl, HBz.out⟩
theorem vecCuts_walk (w : World) (v : List Int) (A : Option Addr) (cv : Nat) (rv : Rd w A v) (hcv : v.length ≤ cv) (b : List Int) (B : Option Addr) (cb : Nat) (rb : Rd w B b) (hcb : b.length ≤ cb) (x : Int) (hx : (Lit.int .i64 x).wf = true) :
    Calls Try.prog 14 #[.slice A v.length cv, .slice B b.length cb, .int .i64 x] w fun e w' => e = .returned (.bool true) ∧ Below w.heap.size w w' := by
  cases h1 : isV v
  · exact cuts_bad1 w v A cv rv hcv b B cb rb x h1
  cases h2 : isV b
  · exact cuts_bad2 w v A cv rv hcv b B cb rb x h1 h2
  by_cases h3 : v.length < 2
  · exact cuts_bad3 w v A cv rv hcv b B cb rb x h1 h2 h3
  obtain ⟨K, k1, k2, eK⟩ := cut_at x v.length (by omega) (isV_pos h1).2.1
  by_cases hf : K + b.length ≤ v.length
  · exact cuts_fits w v A cv rv hcv b B cb rb x K h1 h2 (by omega) k1 k2 eK hf
  · exact cuts_over w v A cv rv hcv b B cb rb x K h1 h2 (by omega) k1 k2 eK hf
end Go.Proofs.Ytaffdpgacggllaa.V
