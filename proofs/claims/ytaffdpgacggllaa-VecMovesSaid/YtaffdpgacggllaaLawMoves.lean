/- The walk of the statement VecMoves. -/
import Derived.Test.YtaffdpgacggllaaUb
namespace Go.Proofs.Ytaffdpgacggllaa.V
open Go.RowKit Go.Proofs.YtaffdpgacggllaaW.PrintWords Go.Proofs.YtaffdpgacggllaaW.PrintLast Go.Proofs.YtaffdpgacggllaaW.PrintMore
attribute [local go_sem] max2_int min2_int max_two min_two
set_option linter.unusedVariables false
set_option linter.unusedSimpArgs false

set_option maxRecDepth 100000 in
set_option maxHeartbeats 8000000 in
theorem moves_bad (w : World) (v : List Int) (A : Option Addr) (cv : Nat) (rv : Rd w A v) (k : Int) (hv : isV v = false) :
    Calls Try.prog 10 #[.slice A v.length cv, .int .i64 k] w fun e w' => e = .returned (.bool true) ∧ Below w.heap.size w w' := by
  have Rv := Aside0.mk rv
  clear rv
  have H := Aside0.mk hv
  clear hv
  have HB0 := Aside0.mk (Below.refl w.heap.size w)
  go_enter Try.func10, Try.ntmps10
  go_wp2_with fail
  refine (refIs_calls _ _ _ _ Rv.out).mono ?_
  rintro e wq ⟨rfl, rfl⟩
  rw [H.out]
  go_wp2_with fail
  refine (awake_calls _).mono ?_
  rintro e w1 ⟨rfl, hb⟩
  have HBz := Aside0.mk (below_step HB0.out hb)
  clear hb
  go_wp2_with fail
  go_ret
  exact ⟨rfl, HBz.out⟩
set_option maxRecDepth 100000 in
set_option maxHeartbeats 8000000 in
theorem moves_neg (w : World) (v : List Int) (A : Option Addr) (cv : Nat) (rv : Rd w A v) (k : Int) (hv : isV v = true) (hk : k < 0) :
    Calls Try.prog 10 #[.slice A v.length cv, .int .i64 k] w fun e w' => e = .returned (.bool true) ∧ Below w.heap.size w w' := by
  have Rv := Aside0.mk rv
  clear rv
  have H := Aside0.mk hv
  clear hv
  have HB0 := Aside0.mk (Below.refl w.heap.size w)
  go_enter Try.func10, Try.ntmps10
  go_wp2_with fail
  refine (refIs_calls _ _ _ _ Rv.out).mono ?_
  rintro e wq ⟨rfl, rfl⟩
  rw [H.out]
  go_wp2_with fail
  refine (awake_calls _).mono ?_
  rintro e w1 ⟨rfl, hb⟩
  have HBz := Aside0.mk (below_step HB0.out hb)
  clear hb
  go_wp2_with fail
  go_ret
  exact ⟨rfl, HBz.out⟩
set_option maxRecDepth 100000 in
set_option maxHeartbeats 8000000 in
theorem moves_ok (w : World) (v : List Int) (A : Option Addr) (cv : Nat) (rv : Rd w A v) (k : Nat) (hv : isV v = true) (s : Bool) (hs : sureB v = s) :
    Calls Try.prog 10 #[.slice A v.length cv, .int .i64 k] w fun e w' => e = .returned (.bool true) ∧ Below w.heap.size w w' := by
  have Rv := Aside0.mk rv
  clear rv
  have H := Aside0.mk hv
  have hn1 := (isV_pos hv).1
  have h64 := (isV_pos hv).2.1
  have hnz : ¬ (v.length : Int) = 0 := by omega
  have hnz2 : ¬ v.length = 0 := by omega
  obtain ⟨K, eK, hK⟩ : ∃ K : Nat, (k : Int).tmod (v.length : Int) = (K : Int) ∧ K < v.length := ⟨k % v.length, by rw [Int.tmod_eq_emod_of_nonneg (by omega)]; omega, Nat.mod_lt _ hn1⟩
  have eW : wrap64 (K : Int) = K := by unfold wrap64; omega
  have XL := Aside0.mk (moves_left v hv K hK)
  have XE := Aside0.mk (moves_e v hv K)
  have YL := Aside0.mk (moves_right v hv K hK)
  have YE := Aside0.mk (moves_e (movedV v K) (movedV_isV v hv K) K)
  have LX := Aside0.mk (movedV_length v (K : Int))
  have LY := Aside0.mk ((movedV_length (movedV v K) (-(K : Int))).trans LX.out)
  have hK63 : (K : Int) ≤ 9223372036854775807 := by omega
  have s1 : IntKind.i64.wrap ((v.length : Int) - K) = (v.length : Int) - K := by rw [IntWalk.i64_in _ (by omega)]
  have SV : Aside0 (s = true → compV mulW v (twoV v.length K) = movedV v K ∧ compE v (twoV v.length K) = 0) := ⟨fun h => by
    have k1 : sureB v = true := hs.trans h
    have k2 : knownB v = true := by simpa [sureB, hv] using k1
    exact ⟨moves_mul v hv k2 Rv.out.b K hK, compE_ok (pairB_intro hv (twoV_isV _ _ hn1 h64) (twoV_length _ _).symm)⟩⟩
  have HS := Aside0.mk hs
  clear hv hs
  have HB0 := Aside0.mk (Below.refl w.heap.size w)
  go_enter Try.func10, Try.ntmps10
  go_wp2_with fail
  refine (refIs_calls _ _ _ _ Rv.out).mono ?_
  rintro e wq ⟨rfl, rfl⟩
  rw [H.out]
  go_wp2_with fail
  try rw [eK]
  try rw [eW]
  refine (vecLeft_calls v _ _ _ K Rv.out hK63).mono ?_
  rintro e w1 ⟨v, rfl, ho, hb⟩
  rw [XL.out] at ho
  rw [XE.out]
  obtain ⟨A_x_1, c_x_1, rfl, h_x_1, hr⟩ := ho.reads
  have HB1 := Aside0.mk (below_step HB0.out hb)
  have Rv_1 := Aside0.mk (Rv.out.below hb)
  clear HB0 Rv
  have Rx_n1 := Aside0.mk hr
  clear ho hb hr
  go_wp2_with fail
  refine (vecRight_calls (movedV v K) _ _ _ K Rx_n1.out hK63).mono ?_
  rintro e w2 ⟨v, rfl, ho, hb⟩
  rw [YL.out] at ho
  rw [YE.out]
  obtain ⟨A_y_2, c_y_2, rfl, h_y_2, hr⟩ := ho.reads
  have HB2 := Aside0.mk (below_step HB1.out hb)
  have Rv_2 := Aside0.mk (Rv_1.out.below hb)
  have Rx_2 := Aside0.mk (Rx_n1.out.below hb)
  clear HB1 Rv_1 Rx_n1
  have Ry_n2 := Aside0.mk hr
  clear ho hb hr
  rw [LY.out]
  go_wp2_with fail
  go_loopw [52] (fun i wr => ∃ j n : Nat, j ≤ v.length ∧ i = .int .i64 j ∧ wr = w2.drewN n) (fun i _ => v.length - (intOf i).toNat)
  case atStart => exact ⟨0, 0, Nat.zero_le _, rfl, rfl⟩
  case round =>
    obtain ⟨j, n, hj, rfl, rfl⟩ := hrel
    by_cases hlt : j < v.length
    · obtain ⟨ad, ea, hcx⟩ := Rv_2.out.at_ j hlt
      cases ea
      obtain ⟨bd, eb, hcy⟩ := Ry_n2.out.at_ j (by rw [LY.out]; exact hlt)
      cases eb
      by_cases hlow : j < v.length - K
      · have hm := moves_low v K j (by omega)
        rw [hm] at hcy
        clear hm
        go_wp2_with fail
        have d1 : decide ((j : Int) < ((v.length : Int) - (K : Int))) = true := decide_eq_true (by omega)
        have d2 : decide (((v.length : Int) - (K : Int)) ≤ (j : Int)) = false := decide_eq_false (by omega)
        have d3 : (nth v j != nth v j) = false := by simp
        go_quiet (fail)
        go_wp2
        go_roundw
        case rel => exact ⟨j + 1, _, by omega, by go_num, rfl⟩
        case measure => simp [intOf]; omega
      · have hm := moves_high v K j hlt (by omega)
        rw [hm] at hcy
        clear hm
        go_wp2_with fail
        have d1 : decide ((j : Int) < ((v.length : Int) - (K : Int))) = false := decide_eq_false (by omega)
        have d2 : decide (((v.length : Int) - (K : Int)) ≤ (j : Int)) = true := decide_eq_true (by omega)
        go_quiet (fail)
        go_wp2
        go_roundw
        case rel => exact ⟨j + 1, _, by omega, by go_num, rfl⟩
        case measure => simp [intOf]; omega
    · have HBd := Aside0.mk (pw_below_drewN HB2.out n)
      have Rvd := Aside0.mk (Rv_2.out.drewN n)
      have Rxd := Aside0.mk (Rx_2.out.drewN n)
      clear HB2 Rv_2 Rx_2 Ry_n2
      generalize w2.drewN n = w3 at *
      clear s1
      go_wp2_with fail
      refine (sure_calls _ _ _ _ Rvd.out).mono ?_
      rintro e wq ⟨rfl, rfl⟩
      rw [HS.out]
      cases s
      · go_wp2_with fail
        refine (awake_calls _).mono ?_
        rintro e w3 ⟨rfl, hb⟩
        have HBz := Aside0.mk (below_step HBd.out hb)
        clear hb
        go_wp2_with fail
        go_ret
        exact ⟨rfl, HBz.out⟩
      · go_wp2_with ((with_reducible refine gate_dst (N := 94) rfl ?_); refine mk_bits (w0 := w3) rfl rfl 29 _ _ rfl v.length rfl rfl Try.underlying29 (by omega) (Below.refl _ _) ?_; intro v1 w4 ho hb; obtain ⟨g, cap, rfl, hg1, hg2⟩ := ho.form (by simp; omega); rw [List.length_replicate] at ho; have HO := Aside0.mk ho; have HB := Aside0.mk hb; clear ho hb hg2; simp only [List.length_replicate]; obtain ⟨hc, hf⟩ := HO.out.cell K hK)
        have HP := Aside0.mk (HO.out.put K (x := 1) (by omega) (by omega))
        have HC : Aside0 (Below w3.heap.size w3 (w4.setCell ⟨g, K, none⟩ (.int .u8 1))) := ⟨HB.out.setCell hg1 _⟩
        clear HO HB hc hf
        have HBe := Aside0.mk (below_step HBd.out HC.out)
        have Rve := Aside0.mk (Rvd.out.below HC.out)
        have Rxe := Aside0.mk (Rxd.out.below HC.out)
        clear HBd Rvd Rxd HC
        obtain ⟨A2, c2, e2, _, hr2⟩ := HP.out.reads
        injection e2 with e3 e4 e5
        subst e3 e5
        have Rt : Aside0 (Rd _ _ (twoV v.length K)) := Aside0.mk hr2
        clear HP hr2 e4
        have MV := Aside0.mk (SV.out (by first | rfl | trivial)).1
        have ME := Aside0.mk (SV.out (by first | rfl | trivial)).2
        have MM := mul_calls v (twoV v.length K) _ _ cv cap _ Rve.out Rt.out
        rw [twoV_length] at MM
        refine (MM).mono ?_
        rintro e w4 ⟨v, rfl, ho, hb⟩
        rw [MV.out] at ho
        rw [ME.out]
        obtain ⟨A_z_4, c_z_4, rfl, h_z_4, hr⟩ := ho.reads
        have HB3 := Aside0.mk (below_step HBe.out hb)
        have Rv_3 := Aside0.mk (Rve.out.below hb)
        have Rx_3 := Aside0.mk (Rxe.out.below hb)
        have Rt_3 := Aside0.mk (Rt.out.below hb)
        clear HBe Rve Rxe Rt
        have Rz_n4 := Aside0.mk hr
        clear ho hb hr
        go_wp2_with fail
        refine (Same_below (movedV v K) (movedV v K) _ _ _ _ _ Rx_3.out Rz_n4.out).mono ?_
        rintro e w5 ⟨rfl, hb⟩
        rw [eqB_refl]
        have HB4 := Aside0.mk (below_step HB3.out hb)
        have Rv_4 := Aside0.mk (Rv_3.out.below hb)
        have Rx_4 := Aside0.mk (Rx_3.out.below hb)
        have Rt_4 := Aside0.mk (Rt_3.out.below hb)
        have Rz_4 := Aside0.mk (Rz_n4.out.below hb)
        clear HB3 Rv_3 Rx_3 Rt_3 Rz_n4
        clear hb
        go_wp2_with fail
        refine (awake_calls _).mono ?_
        rintro e w6 ⟨rfl, hb⟩
        have HBz := Aside0.mk (below_step HB4.out hb)
        clear hb
        go_wp2_with fail
        go_ret
        exact ⟨rfl, HBz.out⟩
theorem vecMoves_walk (w : World) (v : List Int) (A : Option Addr) (cv : Nat) (rv : Rd w A v) (hcv : v.length ≤ cv) (k : Int) (hk : (Lit.int .i64 k).wf = true) :
    Calls Try.prog 10 #[.slice A v.length cv, .int .i64 k] w fun e w' => e = .returned (.bool true) ∧ Below w.heap.size w w' := by
  cases hv : isV v
  · exact moves_bad w v A cv rv k hv
  · by_cases h : k < 0
    · exact moves_neg w v A cv rv k hv h
    · obtain ⟨n, rfl⟩ := Int.eq_ofNat_of_zero_le (show 0 ≤ k by omega)
      exact moves_ok w v A cv rv n hv _ rfl
end Go.Proofs.Ytaffdpgacggllaa.V
